/- Contracts of library functions, laid by the kit (lay-plain), cut to those that are used. -/
import Derived.Shelf.Strings.Builder1
import Derived.Shelf.Strings.Builder2
import Derived.Shelf.Strings.OnBuilder
import Derived.Shelf.Small.Utf8
import Derived.Shelf.Small.Strs
import Derived.Shelf.LaysM
import Derived.Shelf.Strconv.Clone
import Derived.Shelf.Strings.Search1
import Derived.Shelf.Strings.Search2
import Derived.Shelf.Strings.Cut
import Derived.Shelf.Strings.Shaped
import Derived.Shelf.Unicode.Decode
import Derived.Shelf.Unicode.DecodeSlow
import Derived.Shelf.Unicode.DecodeAny
import Derived.Shelf.Unicode.DecodeLast
import Derived.Ground.Names2Prog
import Derived.Shelf.Slices.Clone
import Derived.Ground.SlgnProg
import Derived.Shelf.SlicesE.Clone
import Derived.Test.YtllddkbfeienhaaDoorProg
import Derived.Test.YtllddkbfeienhaaDoorMC
import Derived.KernelRfl
import Derived.ProofKit
import Derived.LaidMore
import Derived.OpenShut
import Derived.Lib.LaidU8T
import Derived.ChangeArms
import Derived.DataReads
namespace Go.Proofs
open Go.Shelf
def Tryd.lays156_ren : Go.Shelf.Ren := ⟨fun | 156 => 74 | 165 => 108 | 166 => 109 | 169 => 110 | 240 => 136 | 241 => 137 | 276 => 161 | 277 => 162 | n => n, fun | 31 => 126 | 9 => 9 | 3 => 3 | 4 => 4 | 0 => 0 | 20 => 20 | 72 => 170 | 76 => 138 | 70 => 168 | 37 => 162 | 75 => 28 | 127 => 194 | 164 => 211 | 5 => 5 | 80 => 84 | n => n, fun | n => n⟩
theorem Tryd.lays156 : Go.Proofs.Lays.n156 Tryd.prog Tryd.lays156_ren := {
  mixed := by kernel_rfl
  f156 := Tryd.func74.trans (congrArg some (by kernel_rfl))
  f165 := Tryd.func108.trans (congrArg some (by kernel_rfl))
  f166 := Tryd.func109.trans (congrArg some (by kernel_rfl))
  f169 := Tryd.func110.trans (congrArg some (by kernel_rfl))
  f240 := Tryd.func136.trans (congrArg some (by kernel_rfl))
  f241 := Tryd.func137.trans (congrArg some (by kernel_rfl))
  f276 := Tryd.func161.trans (congrArg some (by kernel_rfl))
  f277 := Tryd.func162.trans (congrArg some (by kernel_rfl))
  t0 := Tryd.underlying0
  a0 := Tryd.isAgg0
  z0 := Tryd.sizeOf0
  v0 := Tryd.zeroValue0
  t3 := Tryd.underlying3
  a3 := Tryd.isAgg3
  z3 := Tryd.sizeOf3
  v3 := Tryd.zeroValue3
  t4 := Tryd.underlying4
  a4 := Tryd.isAgg4
  z4 := Tryd.sizeOf4
  v4 := Tryd.zeroValue4
  t9 := Tryd.underlying9
  a9 := Tryd.isAgg9
  z9 := Tryd.sizeOf9
  v9 := Tryd.zeroValue9
  t20 := Tryd.underlying20
  a20 := Tryd.isAgg20
  z20 := Tryd.sizeOf20
  v20 := Tryd.zeroValue20
  t31 := Tryd.underlying126
  a31 := Tryd.isAgg126
  z31 := Tryd.sizeOf126
  v31 := Tryd.zeroValue126
  t37 := Tryd.underlying162
  a37 := Tryd.isAgg162
  z37 := Tryd.sizeOf162
  v37 := Tryd.zeroValue162
  t70 := Tryd.underlying168
  a70 := Tryd.isAgg168
  z70 := Tryd.sizeOf168
  v70 := Tryd.zeroValue168
  t72 := Tryd.underlying170
  a72 := Tryd.isAgg170
  z72 := Tryd.sizeOf170
  v72 := Tryd.zeroValue170
  t75 := Tryd.underlying28
  a75 := Tryd.isAgg28
  z75 := Tryd.sizeOf28
  v75 := Tryd.zeroValue28
  t76 := Tryd.underlying138
  a76 := Tryd.isAgg138
  z76 := Tryd.sizeOf138
  v76 := Tryd.zeroValue138
  t127 := Tryd.underlying194
  a127 := Tryd.isAgg194
  z127 := Tryd.sizeOf194
  v127 := Tryd.zeroValue194
  t164 := Tryd.underlying211
  a164 := Tryd.isAgg211
  z164 := Tryd.sizeOf211
  v164 := Tryd.zeroValue211 }
theorem Tryd.Builder_Extra_156 : Builder.Extra Tryd.prog Tryd.lays156_ren := {
  sizeBuilder := by kernel_rfl
  liesBuilder := by kernel_rfl
  t5 := Tryd.underlying5
  a5 := Tryd.isAgg5
  z5 := Tryd.sizeOf5
  v5 := Tryd.zeroValue5
  infoByte := by kernel_rfl
  cellsByte := by kernel_rfl
  sizeByte := by kernel_rfl
  neB5 := by decide }
open Go.RowKit in
theorem Tryd.strings_Join_none (a : Option Addr) (c : Nat) (sep : ByteArray) (w : World) :
    Calls Tryd.prog 74 #[.slice a 0 c, .string sep] w fun e w' => e = .returned (.string ⟨#[]⟩) ∧ w' = w := Any.strings_Join_none Tryd.lays156 Tryd.Builder_Extra_156 a c sep w
open Go.RowKit in
theorem Tryd.strings_Join (bk o c : Nat) (xs : List ByteArray) (sep : ByteArray) (w : World) (hcells : ∀ (j : Nat) x, xs[j]? = some x → w.cell? ⟨bk, o + j, none⟩ = some (.string x)) (hbk : bk < w.heap.size) (hN : xs.length ≤ 140737488355328) (hcap : xs.length ≤ c) (hlen : (Lib.join (xs.map (·.data.toList)) sep.data.toList).length ≤ 140737488355328) :
    Calls Tryd.prog 74 #[.slice (some ⟨bk, o, none⟩) xs.length c, .string sep] w fun e w' => e = .returned (.string ⟨(Lib.join (xs.map (·.data.toList)) sep.data.toList).toArray⟩) ∧ Below w.heap.size w w' := Any.strings_Join Tryd.lays156 Tryd.Builder_Extra_156 bk o c xs sep w hcells hbk hN hcap hlen
def Tryd.lays137_ren : Go.Shelf.Ren := ⟨fun | 137 => 120 | 217 => 144 | 266 => 169 | n => n, fun | 9 => 9 | 5 => 5 | 3 => 3 | n => n, fun | n => n⟩
theorem Tryd.lays137 : Go.Proofs.Lays.n137 Tryd.prog Tryd.lays137_ren := {
  mixed := by kernel_rfl
  f137 := Tryd.func120.trans (congrArg some (by kernel_rfl))
  f217 := Tryd.func144.trans (congrArg some (by kernel_rfl))
  f266 := Tryd.func169.trans (congrArg some (by kernel_rfl))
  t3 := Tryd.underlying3
  a3 := Tryd.isAgg3
  z3 := Tryd.sizeOf3
  v3 := Tryd.zeroValue3
  t5 := Tryd.underlying5
  a5 := Tryd.isAgg5
  z5 := Tryd.sizeOf5
  v5 := Tryd.zeroValue5
  t9 := Tryd.underlying9
  a9 := Tryd.isAgg9
  z9 := Tryd.sizeOf9
  v9 := Tryd.zeroValue9 }
open Go.RowKit in
theorem Tryd.strings_IndexByte (s : ByteArray) (c : Int) (w : World) :
    Calls Tryd.prog 120 #[.string s, .int .u8 c] w fun e w' => e = .returned (.int .i64 (Lib.indexByte s.data.toList c.toNat.toUInt8)) ∧ w' = w := Any.strings_IndexByte Tryd.lays137 s c w
def Tryd.laysM316_ren : Go.Shelf.Ren := ⟨fun | 316 => 168 | n => n, fun | 9 => 9 | 3 => 3 | 4 => 4 | 37 => 162 | 0 => 0 | 127 => 194 | 5 => 5 | n => n, fun | n => n⟩
theorem Tryd.laysM316 : Go.Proofs.LaysM.n316 Tryd.prog Tryd.laysM316_ren := {
  mixed := by kernel_rfl
  f316 := Tryd.func168.trans (congrArg some (by kernel_rfl))
  t0 := Tryd.underlying0
  a0 := Tryd.isAgg0
  z0 := Tryd.sizeOf0
  v0 := Tryd.zeroValue0
  t3 := Tryd.underlying3
  a3 := Tryd.isAgg3
  z3 := Tryd.sizeOf3
  v3 := Tryd.zeroValue3
  t4 := Tryd.underlying4
  a4 := Tryd.isAgg4
  z4 := Tryd.sizeOf4
  v4 := Tryd.zeroValue4
  t9 := Tryd.underlying9
  a9 := Tryd.isAgg9
  z9 := Tryd.sizeOf9
  v9 := Tryd.zeroValue9
  t37 := Tryd.underlying162
  a37 := Tryd.isAgg162
  z37 := Tryd.sizeOf162
  v37 := Tryd.zeroValue162
  t127 := Tryd.underlying194
  a127 := Tryd.isAgg194
  z127 := Tryd.sizeOf194
  v127 := Tryd.zeroValue194
  t5 := Tryd.underlying5
  a5 := Tryd.isAgg5
  z5 := Tryd.sizeOf5
  v5 := Tryd.zeroValue5
  i0 := by kernel_rfl
  i3 := by kernel_rfl
  i4 := by kernel_rfl
  i5 := by kernel_rfl
  i9 := by kernel_rfl
  i37 := by kernel_rfl
  i127 := by kernel_rfl }
open Go.RowKit in
theorem Tryd.stringslite_Clone (s : ByteArray) (w : World) (hlim : s.size ≤ 281474976710656) :
    Calls Tryd.prog 168 #[.string s] w fun e w' => e = .returned (.string s) ∧ Below w.heap.size w w' := Any.stringslite_Clone Tryd.laysM316 s w hlim
def Tryd.lays217_ren : Go.Shelf.Ren := ⟨fun | 217 => 144 | 266 => 169 | n => n, fun | 9 => 9 | 5 => 5 | 3 => 3 | n => n, fun | n => n⟩
theorem Tryd.lays217 : Go.Proofs.Lays.n217 Tryd.prog Tryd.lays217_ren := {
  mixed := by kernel_rfl
  f217 := Tryd.func144.trans (congrArg some (by kernel_rfl))
  f266 := Tryd.func169.trans (congrArg some (by kernel_rfl))
  t3 := Tryd.underlying3
  a3 := Tryd.isAgg3
  z3 := Tryd.sizeOf3
  v3 := Tryd.zeroValue3
  t5 := Tryd.underlying5
  a5 := Tryd.isAgg5
  z5 := Tryd.sizeOf5
  v5 := Tryd.zeroValue5
  t9 := Tryd.underlying9
  a9 := Tryd.isAgg9
  z9 := Tryd.sizeOf9
  v9 := Tryd.zeroValue9 }
open Go.RowKit Go.Lib in
theorem Tryd.stringslite_IndexByte (s : ByteArray) (c : Int) (w : World) :
    Calls Tryd.prog 144 #[.string s, .int .u8 c] w fun e w' => e = .returned (.int .i64 (Lib.indexByte s.data.toList c.toNat.toUInt8)) ∧ w' = w := Any.stringslite_IndexByte Tryd.lays217 s c w
def Tryd.lays219_ren : Go.Shelf.Ren := ⟨fun | 219 => 182 | 217 => 144 | 225 => 187 | 224 => 188 | 267 => 189 | 266 => 169 | 314 => 192 | n => n, fun | 9 => 9 | 3 => 3 | 4 => 4 | 5 => 5 | 46 => 189 | 146 => 233 | 51 => 232 | n => n, fun | 1 => 0 | n => n⟩
theorem Tryd.lays219 : Go.Proofs.Lays.n219 Tryd.prog Tryd.lays219_ren := {
  mixed := by kernel_rfl
  f217 := Tryd.func144.trans (congrArg some (by kernel_rfl))
  f219 := Tryd.func182.trans (congrArg some (by kernel_rfl))
  f224 := Tryd.func188.trans (congrArg some (by kernel_rfl))
  f225 := Tryd.func187.trans (congrArg some (by kernel_rfl))
  f266 := Tryd.func169.trans (congrArg some (by kernel_rfl))
  f267 := Tryd.func189.trans (congrArg some (by kernel_rfl))
  f314 := Tryd.func192.trans (congrArg some (by kernel_rfl))
  t3 := Tryd.underlying3
  a3 := Tryd.isAgg3
  z3 := Tryd.sizeOf3
  v3 := Tryd.zeroValue3
  t4 := Tryd.underlying4
  a4 := Tryd.isAgg4
  z4 := Tryd.sizeOf4
  v4 := Tryd.zeroValue4
  t5 := Tryd.underlying5
  a5 := Tryd.isAgg5
  z5 := Tryd.sizeOf5
  v5 := Tryd.zeroValue5
  t9 := Tryd.underlying9
  a9 := Tryd.isAgg9
  z9 := Tryd.sizeOf9
  v9 := Tryd.zeroValue9
  t46 := Tryd.underlying189
  a46 := Tryd.isAgg189
  z46 := Tryd.sizeOf189
  v46 := Tryd.zeroValue189
  t51 := Tryd.underlying232
  a51 := Tryd.isAgg232
  z51 := Tryd.sizeOf232
  v51 := Tryd.zeroValue232
  t146 := Tryd.underlying233
  a146 := Tryd.isAgg233
  z146 := Tryd.sizeOf233
  v146 := Tryd.zeroValue233
  g1 := by kernel_rfl }
open Go.RowKit Go.Lib in
theorem Tryd.stringslite_Index_one (s : ByteArray) (c : UInt8) (w : World) :
    Calls Tryd.prog 182 #[.string s, .string ⟨#[c]⟩] w fun e w' => e = .returned (.int .i64 (Lib.indexByte s.data.toList c)) ∧ w' = w := Any.stringslite_Index_one Tryd.lays219 s c w
def Tryd.lays271_ren : Go.Shelf.Ren := ⟨fun | 271 => 138 | 120 => 163 | 197 => 164 | 260 => 177 | n => n, fun | 9 => 9 | 21 => 21 | 3 => 3 | 4 => 4 | 5 => 5 | 105 => 195 | 119 => 226 | 0 => 0 | 46 => 189 | 139 => 229 | 138 => 228 | n => n, fun | 3 => 1 | 4 => 2 | n => n⟩
theorem Tryd.lays271 : Go.Proofs.Lays.n271 Tryd.prog Tryd.lays271_ren := {
  mixed := by kernel_rfl
  f120 := Tryd.func163.trans (congrArg some (by kernel_rfl))
  f197 := Tryd.func164.trans (congrArg some (by kernel_rfl))
  f260 := Tryd.func177.trans (congrArg some (by kernel_rfl))
  f271 := Tryd.func138.trans (congrArg some (by kernel_rfl))
  t0 := Tryd.underlying0
  a0 := Tryd.isAgg0
  z0 := Tryd.sizeOf0
  v0 := Tryd.zeroValue0
  t3 := Tryd.underlying3
  a3 := Tryd.isAgg3
  z3 := Tryd.sizeOf3
  v3 := Tryd.zeroValue3
  t4 := Tryd.underlying4
  a4 := Tryd.isAgg4
  z4 := Tryd.sizeOf4
  v4 := Tryd.zeroValue4
  t5 := Tryd.underlying5
  a5 := Tryd.isAgg5
  z5 := Tryd.sizeOf5
  v5 := Tryd.zeroValue5
  t9 := Tryd.underlying9
  a9 := Tryd.isAgg9
  z9 := Tryd.sizeOf9
  v9 := Tryd.zeroValue9
  t21 := Tryd.underlying21
  a21 := Tryd.isAgg21
  z21 := Tryd.sizeOf21
  v21 := Tryd.zeroValue21
  t46 := Tryd.underlying189
  a46 := Tryd.isAgg189
  z46 := Tryd.sizeOf189
  v46 := Tryd.zeroValue189
  t105 := Tryd.underlying195
  a105 := Tryd.isAgg195
  z105 := Tryd.sizeOf195
  v105 := Tryd.zeroValue195
  t119 := Tryd.underlying226
  a119 := Tryd.isAgg226
  z119 := Tryd.sizeOf226
  t138 := Tryd.underlying228
  a138 := Tryd.isAgg228
  z138 := Tryd.sizeOf228
  v138 := Tryd.zeroValue228
  t139 := Tryd.underlying229
  a139 := Tryd.isAgg229
  z139 := Tryd.sizeOf229
  v139 := Tryd.zeroValue229
  g3 := by kernel_rfl
  g4 := by kernel_rfl }
open Go.RowKit Go.Lib in
theorem Tryd.utf8_DecodeLastRuneInString (s : ByteArray) (w : World) (hs : s.size ≤ 9223372036854775807) (hT : Lib.Utf8Tabs 1 2 w) :
    Calls Tryd.prog 138 #[.string s] w fun e w' => e = .returned (.tuple #[.int .i32 (Lib.decodeLastL s.data.toList).1, .int .i64 (Lib.decodeLastL s.data.toList).2]) ∧ Below w.heap.size w w' := Any.utf8_DecodeLastRuneInString Tryd.lays271 s w hs hT
end Go.Proofs

/- Functions of Go's library, by the shelf's contracts. Conditions: lengths as each contract says. -/
set_option linter.unusedVariables false
namespace Go.Sm
open Go.Proofs Go.RowKit

theorem sim_pure {P : Program} {f : FuncId} {args : List AV} {r : AV} (hf : ∃ fn, P.funcs[f]? = some fn ∧ fn.body.isNone = false ∧ (fn.name == "runtime.NumGoroutine") = false)
    (h : ∀ (M : Mem) (e : RR) (w : World) (vs : Array Value), HR M e [] w → CR M e args vs → Calls P f vs w fun en w' => ∃ c, en = .returned c ∧ Below w.heap.size w w' ∧ VR M e r c) : Sim P f args [] r [] :=
  ⟨hf, fun M e w vs hr hargs => (h M e w vs hr hargs).mono fun en w' ⟨c, he, hb, hv⟩ =>
    ⟨c, M, e, he, Tr.world hr hb.os hb.tape hb.output hb.size fun i hi => hb.block i hi, hv⟩⟩
theorem cr_one {M : Mem} {e : RR} {x : AV} {vs : Array Value} (h : CR M e [x] vs) : ∃ v, vs = #[v] ∧ VR M e x v := by
  have hs := h.size
  obtain ⟨v, rfl⟩ : ∃ v, vs = #[v] := Array.size_eq_one_iff.1 (by simpa using hs.symm)
  exact ⟨v, rfl, h.get 0 x v rfl rfl⟩
theorem cr_two {M : Mem} {e : RR} {x y : AV} {vs : Array Value} (h : CR M e [x, y] vs) : ∃ v u, vs = #[v, u] ∧ VR M e x v ∧ VR M e y u := by
  have hs := h.size
  obtain ⟨l⟩ := vs
  match l, hs with
  | [v, u], _ => exact ⟨v, u, rfl, h.get 0 x v rfl rfl, h.get 1 y u rfl rfl⟩

def s_IndexByte : SpecT := fun args H => match args, H with
  | [.str s, .u8 c], [] => .ret (.int .i64 (Lib.indexByte s c), [])
  | _, _ => .no
theorem so_IndexByte : SoundT Tryd.prog 120 s_IndexByte := by
  intro args H r H' h
  replace h : (s_IndexByte args H).run = some (r, H') := h
  unfold s_IndexByte at h
  split at h
  · rename_i s c
    obtain ⟨rfl, rfl⟩ := Prod.mk.inj (run_ret h)
    refine sim_pure ⟨_, Tryd.func120, rfl, by kernel_rfl⟩ fun M e w vs hr hc => ?_
    obtain ⟨v, u, rfl, hv, hu⟩ := cr_two hc
    cases hv with
    | str hb =>
      have hcc : ((c.toNat : Int)).toNat.toUInt8 = c := by simp
      cases hu
      refine (Tryd.strings_IndexByte _ (c.toNat : Int) w).mono fun en w' ⟨he, hw⟩ => ?_
      subst hw
      exact ⟨_, he, Below.refl _ _, by rw [hb, hcc]; exact .int⟩
  · exact (run_no h).elim
theorem so_sliteIndexByte : SoundT Tryd.prog 144 s_IndexByte := by
  intro args H r H' h
  replace h : (s_IndexByte args H).run = some (r, H') := h
  unfold s_IndexByte at h
  split at h
  · rename_i s c
    obtain ⟨rfl, rfl⟩ := Prod.mk.inj (run_ret h)
    refine sim_pure ⟨_, Tryd.func144, rfl, by kernel_rfl⟩ fun M e w vs hr hc => ?_
    obtain ⟨v, u, rfl, hv, hu⟩ := cr_two hc
    cases hv with
    | str hb =>
      have hcc : ((c.toNat : Int)).toNat.toUInt8 = c := by simp
      cases hu
      refine (Tryd.stringslite_IndexByte _ (c.toNat : Int) w).mono fun en w' ⟨he, hw⟩ => ?_
      subst hw
      exact ⟨_, he, Below.refl _ _, by rw [hb, hcc]; exact .int⟩
  · exact (run_no h).elim
def s_sliteIndex : SpecT := fun args H => match args, H with
  | [.str s, .str [c]], [] => .ret (.int .i64 (Lib.indexByte s c), [])
  | _, _ => .no
theorem so_sliteIndex : SoundT Tryd.prog 182 s_sliteIndex := by
  intro args H r H' h
  replace h : (s_sliteIndex args H).run = some (r, H') := h
  unfold s_sliteIndex at h
  split at h
  · rename_i s c
    obtain ⟨rfl, rfl⟩ := Prod.mk.inj (run_ret h)
    refine sim_pure ⟨_, Tryd.func182, rfl, by kernel_rfl⟩ fun M e w vs hr hc => ?_
    obtain ⟨v, u, rfl, hv, hu⟩ := cr_two hc
    cases hv with
    | str hb =>
      cases hu with
      | @str _ _ b hb2 =>
        obtain rfl : b = ⟨#[c]⟩ := by
          obtain ⟨⟨l⟩⟩ := b
          simp at hb2
          rw [hb2]
        refine (Tryd.stringslite_Index_one _ c w).mono fun en w' ⟨he, hw⟩ => ?_
        subst hw
        exact ⟨_, he, Below.refl _ _, by rw [hb]; exact .int⟩
  · exact (run_no h).elim
theorem size_of_str {b : ByteArray} {s : List UInt8} (h : b.data.toList = s) : b.size = s.length := by
  rw [← h]; rfl
def s_Clone0 : SpecT := fun args H => match args, H with
  | [.str s], [] => .ite (decide (s.length ≤ 281474976710656)) (.ret (.str s, [])) .no
  | _, _ => .no
theorem so_sliteClone : SoundT Tryd.prog 168 s_Clone0 := by
  intro args H r H' h
  replace h : (s_Clone0 args H).run = some (r, H') := h
  unfold s_Clone0 at h
  split at h
  · rename_i s
    rcases run_ite h with ⟨hd, h⟩ | ⟨hd, h⟩
    · obtain ⟨rfl, rfl⟩ := Prod.mk.inj (run_ret h)
      refine sim_pure ⟨_, Tryd.func168, rfl, by kernel_rfl⟩ fun M e w vs hr hc => ?_
      obtain ⟨v, rfl, hv⟩ := cr_one hc
      cases hv with
      | str hb =>
        refine (Tryd.stringslite_Clone _ w (by rw [size_of_str hb]; exact of_decide_eq_true hd)).mono fun en w' ⟨he, hw⟩ => ?_
        exact ⟨_, he, hw, .str hb⟩
    · exact (run_no h).elim
  · exact (run_no h).elim
def s_DecodeLast : SpecT := fun args H => match args, H with
  | [.str s], [] => .ite (decide (s.length ≤ 9223372036854775807)) (.ret (.tup [.int .i32 (Lib.decodeLastL s).1, .int .i64 (Lib.decodeLastL s).2], [])) .no
  | _, _ => .no
theorem so_DecodeLast : SoundT Tryd.prog 138 s_DecodeLast := by
  intro args H r H' h
  replace h : (s_DecodeLast args H).run = some (r, H') := h
  unfold s_DecodeLast at h
  split at h
  · rename_i s
    rcases run_ite h with ⟨hd, h⟩ | ⟨hd, h⟩
    · obtain ⟨rfl, rfl⟩ := Prod.mk.inj (run_ret h)
      refine sim_pure ⟨_, Tryd.func138, rfl, by kernel_rfl⟩ fun M e w vs hr hc => ?_
      obtain ⟨v, rfl, hv⟩ := cr_one hc
      cases hv with
      | str hb =>
        refine (Tryd.utf8_DecodeLastRuneInString _ w (by rw [size_of_str hb]; exact of_decide_eq_true hd) (hr.glob.tabs hr.mem)).mono fun en w' ⟨he, hw⟩ => ?_
        refine ⟨_, he, hw, ?_⟩
        rw [hb]
        refine .tup rfl fun i x v hx hv => ?_
        match i, hx, hv with
        | 0, hx, hv => obtain rfl := Option.some.inj hx; obtain rfl := Option.some.inj hv; exact .int
        | 1, hx, hv => obtain rfl := Option.some.inj hx; obtain rfl := Option.some.inj hv; exact .int
    · exact (run_no h).elim
  · exact (run_no h).elim
end Go.Sm
/- What the printed texts of the functions use. No condition. -/
set_option linter.unusedVariables false
namespace Go.Sm
open Go.Proofs

abbrev pS : It := .pure .str
abbrev pI : It := .pure (.int .i64)
abbrev pR : It := .pure (.int .i32)
abbrev pU : It := .pure .u8
abbrev pB : It := .pure .bool
abbrev pE : It := .pure .err
abbrev pW : It := .pure (.int .u64)
abbrev cI : Cd := .int .i64
abbrev cRule : Cd := .pair cI (.pair cI (.pair cI (.pair cI cI)))
abbrev pRule : It := .pure cRule
abbrev cPlan : Cd := .pair .str (.pair .str (.pair cI (.pair cI (.pair cRule cRule))))
abbrev pPlan : It := .pure cPlan
abbrev cTyp : Cd := .pair cI (.pair .bool .str)
abbrev pTyp : It := .pure cTyp
abbrev cCor : Cd := .pair cI cI
abbrev pCor : It := .pure cCor
abbrev cZone : Cd := .pair (.lst cI) (.pair (.lst cI) (.pair (.lst cTyp) (.pair (.lst cCor) (.pair .bool cPlan))))
abbrev cTail : Cd := .pair .bool cPlan
abbrev pZone : It := .pure cZone
abbrev pL : It := .pure (.lst cI)
abbrev p0 : It := .par 0
abbrev pA : It := .parA 0
theorem mixed : Tryd.prog.follows .mixedOrders = true := by kernel_rfl
def bodyOf (fn : Func) : Code := match fn.body with | some c => c | none => .skip
theorem bodyOf_eq {fn : Func} (h : fn.body.isSome = true) : fn.body = some (bodyOf fn) := by
  unfold bodyOf
  cases hb : fn.body with
  | none => rw [hb] at h; cases h
  | some c => rfl
theorem lps_cons {P : Program} {nt : Nat} {kp : Keep} {N : Nat} {bump : Bool} {lps : Lps} {b : Code} {r : List Code} (L0 : LT) (h : lps (keyOf b) = some L0) (h1 : LoopOk P nt kp N bump b L0) (h2 : LpsOk P nt kp N bump lps r) : LpsOk P nt kp N bump lps (b :: r) :=
  ⟨fun L hL => by rw [h] at hL; cases hL; exact h1, h2⟩
theorem lps_skip {P : Program} {nt : Nat} {kp : Keep} {N : Nat} {bump : Bool} {lps : Lps} {b : Code} {r : List Code} (h : lps (keyOf b) = none) (h2 : LpsOk P nt kp N bump lps r) : LpsOk P nt kp N bump lps (b :: r) :=
  ⟨fun L hL => (by rw [h] at hL; cases hL), h2⟩
theorem lps_nil {P : Program} {nt : Nat} {kp : Keep} {N : Nat} {bump : Bool} {lps : Lps} : LpsOk P nt kp N bump lps [] := trivial
theorem soundG {P : Program} (hm : P.follows .mixedOrders = true) {t : List (FuncId × Bool × SpecT)} (ht : AllSound P t) {σ ρ : Type} {f : FuncId} {fn : Func} (hf : P.funcs[f]? = some fn) (hb : fn.body.isSome = true) (hname : (fn.name == "runtime.NumGoroutine") = false) (hok : codeOk P fn.ntmps (bodyOf fn) = true) {ls : List Code} (hls : loopsOf (bodyOf fn) = ls)
    {kp : Keep} {lps : Lps} {bump ice : Bool} {A : Codec σ} {n : Nat} {R : Codec ρ} (hl : ∀ x, LpsOk P fn.ntmps kp (A.inj x).2.length bump lps ls) : SoundT P f (specF A n R fun x => (evalF P (lookT t) kp lps bump ice fn A n R x).run) :=
  soundF hm (lookT_sound ht) hf (bodyOf_eq hb) hname hok fun x => hls ▸ hl x
theorem loopG {P : Program} (hm : P.follows .mixedOrders = true) {t : List (FuncId × Bool × SpecT)} (ht : AllSound P t) {σ β : Type} {nt : Nat} {kp : Keep} {lps : Lps} {N : Nat} {bump : Bool} {b : Code} (hok : codeOk P nt b = true) {ls : List Code} (hls : loopsOf b = ls) {S : Codec σ} {X : ExC β} (hl : LpsOk P nt kp N bump lps ls) :
    LoopOk P nt kp N bump b (ltF S X (whileO fun x => (stepL P (lookT t) kp lps N bump b S X x).run)) :=
  loopF hm (lookT_sound ht) hok (hls ▸ hl)
end Go.Sm
/- From a contract to a row: 'for every input true; each argument reads as it did'. Conditions: the program's types are laid out; its parameters' types can be read. -/
set_option linter.unusedVariables false
namespace Go.Sm
open Go.ChangeShapes Go.WideShapes Go.RowKit

/-- All cells of a world, as memory. -/
def memOf (W : World) : Mem := fun g o => W.cell? ⟨g, o, none⟩
theorem hr_start {W : World} (hG : Glob (memOf W)) : HR (memOf W) RR.nul [] W :=
  ⟨rfl, fun _ _ _ h => h, fun b x hb => by simp at hb, fun b b' x x' i hb => by simp at hb, hG, fun b x hb => by simp at hb⟩
theorem calls_of_sim {P : Program} {f : FuncId} {args : List AV} (h : Sim P f args [] (.bool true) []) {W : World} (hG : Glob (memOf W)) {vs : Array Value} (hargs : CR (memOf W) RR.nul args vs) :
    Calls P f vs W fun e W' => e = .returned (.bool true) ∧ Below W.heap.size W W' := by
  refine (h.calls _ _ W vs (hr_start hG) hargs).mono fun e W' ⟨c, M', e', he, hT, hv⟩ => ?_
  cases hv
  exact ⟨he, hT.os, hT.tape, hT.output, hT.size, fun k hk => hT.same k hk fun ⟨b, x, hb, _⟩ => by simp at hb⟩
theorem glob_of_tabs {W : World} (h : Lib.Utf8Tabs 1 2 W) : Glob (memOf W) := ⟨h.1, h.2⟩

section
variable {H : Type} {enc : TypeId × Value → H} {P : Program}
theorem trodAll_stays (hl : laidOutB P = true) {W W' : World} {sp : Nat → Bool} : ∀ {ts : List TypeId} {vs : List Value} {ds : List (DataW H)} {ps : List MemPlace},
    (ts.all fun t => P.readableRec t && decide (t < P.types.size)) = true → DataW.TrodAll enc P W 0 (fun _ => true) true ts vs ds ps → (∀ p ∈ ps, W.sameAt W' p) → (∀ p ∈ ps, sp p.block = true) → DataW.TrodAll enc P W' 0 sp true ts vs ds ps
  | [], [], [], ps, _, h, _, _ => h
  | t :: ts, v :: vs, d :: ds, ps, ht, h, hs, hp => by
    obtain ⟨p, q, h1, h2, rfl⟩ := h
    rw [List.all_cons, Bool.and_eq_true, Bool.and_eq_true] at ht
    refine ⟨p, q, WideElems.Trod_stays hl ht.1.1 (of_decide_eq_true ht.1.2) h1 (fun x hx => hs x (by simp [hx])) (fun x hx => hp x (by simp [hx])), ?_, rfl⟩
    exact trodAll_stays hl ht.2 h2 (fun x hx => hs x (by simp [hx])) (fun x hx => hp x (by simp [hx]))
  | [], _ :: _, _, _, _, h, _, _ => h.elim
  | [], [], _ :: _, _, _, h, _, _ => h.elim
  | _ :: _, [], _, _, _, h, _, _ => h.elim
  | _ :: _, _ :: _, [], _, _, h, _, _ => h.elim
theorem post_true {f : Func} {s : ChangeSpec} {apart fresh handsOn again : Bool} {W W' : World} {args : Array Value} {ds gs : List (DataW H)} {before : List MemPlace} {t : TypeId}
    (hl : laidOutB P = true) (hp : (f.params.toList.all fun t => P.readableRec t && decide (t < P.types.size)) = true) (hr : f.resultTypes = #[t]) (ht : P.underlying t = some .bool) (hv : s.vars = [])
    (hW : DataW.Whole enc P f.params.toList s.vars apart W args.toList ds gs before) (hfn : s.fn H (ds ++ gs) = { results := [.lit (.bool true)], args := ds }) (hb : Below W.heap.size W W') :
    s.post enc P f apart fresh handsOn again W args (.bool true) W' := by
  have hlt := hW.lt
  have hW0 := hW
  obtain ⟨p, q, hA, hV, rfl, hfz, hnd⟩ := hW0
  rw [hv] at hV
  obtain ⟨rfl, rfl⟩ := trodVars_none hV
  have hargs : ∀ sp : Nat → Bool, (∀ x ∈ p ++ [], sp x.block = true) → DataW.TrodAll enc P W' 0 sp true f.params.toList args.toList (s.fn H (ds ++ [])).args p := fun sp hsp => by
    rw [hfn]
    exact trodAll_stays hl hp hA (fun x hx => hb.same (hlt x (by simp [hx]))) (fun x hx => hsp x (by simp [hx]))
  have hvars : ∀ sp : Nat → Bool, DataW.TrodVars enc P W' sp s.vars (s.fn H (ds ++ [])).vars [] := fun sp => by
    rw [hfn, hv]
    exact rfl
  have hres : ∀ (b : Nat) (sp : Nat → Bool) (hh : Bool), DataW.TrodAll enc P W' b sp hh f.resultTypes.toList ((Value.bool true).resultList f.resultTypes.size) (s.fn H (ds ++ [])).results [] := fun b sp hh => by
    rw [hfn, hr]
    exact trodAll_mk1 (shut_bool ht true)
  have hold : ∀ x ∈ p ++ [], (fun b => decide (b < W.heap.size)) x.block = true := fun x hx => by simpa using hlt x hx
  refine ⟨ds, [], p ++ [], [], p, [], hW, hres _ _ _, hargs _ hold, hvars _, World.keptBut_mono (fun x hx => ⟨hx, Or.inr (List.mem_append.1 hx)⟩) (hb.frame _), fun _ => ?_⟩
  refine ⟨ok_one hr rfl (okWide_bool_mk ht true), _, _, ([] ++ p) ++ [], ⟨[] ++ p, [], trodAll_append (hargs _ (fun _ _ => rfl)) (hres _ _ _), hvars _, rfl, ?_, ?_⟩, ?_⟩
  · intro b off hx
    have h1 := hlt _ (by simpa using hx : MemPlace.cell b off ∈ p ++ [])
    have := hfz b off (by simpa using hx)
    rw [hb.frozen (p := ⟨b, off, none⟩) h1]
    exact this
  · intro ha
    simpa using hnd ha
  · intro x hx _
    simpa using hx
end
end Go.Sm
/- Arguments of a row as typed data: what a type's reading says of its cells. Condition: the type's fields lie side by side (decided by the kernel). -/
set_option linter.unusedVariables false
set_option linter.unusedSimpArgs false
namespace Go.Sm
open Go.ChangeShapes Go.WideShapes Go.RowKit

/-- Fields side by side. -/
def rdF (F : TypeId → Option Cd) (P : Program) : Nat → List Field → Option Cd
  | _, [] => none
  | off, [f] => match F f.type with
    | some c => (match decide (f.offset = off ∧ P.cellsOf f.type = sizeC c) with | true => some c | false => none)
    | none => none
  | off, f :: g :: r => match F f.type with
    | some c => (match decide (f.offset = off ∧ P.cellsOf f.type = sizeC c) with
      | true => (match rdF F P (off + sizeC c) (g :: r) with
        | some c' => some (.pair c c')
        | none => none)
      | false => none)
    | none => none
def one1 : Bool → Cd → Cd
  | true, c => .one c
  | false, c => c
/-- The kind of a type's data, where its cells lie side by side. -/
def rdC (P : Program) : Nat → TypeId → Option Cd
  | 0, _ => none
  | d + 1, t => match P.underlying t with
    | some .bool => some .bool
    | some (.int k) => (match decide (k = .u8) with | true => some .u8 | false => some (.int k))
    | some .string => some .str
    | some (.slice e) => (match rdC P d e with
      | some c => (match decide (P.cellsOf e = sizeC c ∧ 0 < sizeC c) with | true => some (.lst c) | false => none)
      | none => none)
    | some (.struct fs) => (match rdF (rdC P d) P 0 fs.toList with
      | some c => (match decide (P.cellsOf t = sizeC c) with | true => some (one1 (fs.size == 1) c) | false => none)
      | none => none)
    | _ => none
/-- Data in its bounds. -/
def wfC : (c : Cd) → τ c → Prop
  | .int k, n => (Lit.int k n).wf = true
  | .str, s => (s : List UInt8).length ≤ maxLen
  | .lst c, l => (l : List (τ c)).length ≤ maxLen ∧ ∀ x ∈ (l : List (τ c)), wfC c x
  | .one c, x => wfC c x
  | .pair a b, x => wfC a x.1 ∧ wfC b x.2
  | _, _ => True
section
variable {H : Type} {enc : TypeId × Value → H} {P : Program} {W : World} {base : Nat} {sp : Nat → Bool} {held : Bool}
theorem cr_one1 {M : Mem} {x : AV} {v : Value} (h : VR M RR.nul x v) : CR M RR.nul [x] #[v] := ⟨rfl, fun i y u h1 h2 => by
  cases i with
  | zero => obtain rfl := Option.some.inj h1; obtain rfl := Option.some.inj h2; exact h
  | succ i => cases h1⟩
theorem choose_list {α : Type} {n : Nat} {Q : Nat → α → Prop} (h : ∀ i, i < n → ∃ y, Q i y) : ∃ l : List α, l.length = n ∧ ∀ i y, l[i]? = some y → Q i y := by
  induction n with
  | zero => exact ⟨[], rfl, fun i y hy => by simp at hy⟩
  | succ n ih =>
    obtain ⟨l, h1, h2⟩ := ih fun i hi => h i (by omega)
    obtain ⟨y, hy⟩ := h n (by omega)
    refine ⟨l ++ [y], by simp [h1], fun i z hz => ?_⟩
    by_cases hi : i < l.length
    · rw [List.getElem?_append_left hi] at hz; exact h2 i z hz
    · rw [List.getElem?_append_right (by omega)] at hz
      have : i = n := by
        have := (List.getElem?_eq_some_iff.1 hz).1
        simp at this
        omega
      subst this
      rw [h1, Nat.sub_self] at hz
      obtain rfl := Option.some.inj hz
      exact hy
theorem cells_get {a : Addr} {n : Nat} {l : List Value} (h : W.cells? base a n = some l) : base ≤ a.block ∧ l.length = n ∧ ∀ j, j < n → W.cell? (a.add j) = l[j]? := by
  unfold World.cells? at h
  split at h
  · rename_i hb
    have hl := mapM_some_length h
    refine ⟨hb, by simpa using hl, fun j hj => mapM_some_get h j j ?_⟩
    rw [List.getElem?_range hj]
  · cases h
theorem add_add (a : Addr) (i j : Nat) : (a.add i).add j = a.add (i + j) := by
  unfold Addr.add
  by_cases hi : i = 0
  · subst hi; simp
  · by_cases hj : j = 0
    · subst hj; simp [hi]
    · simp [hi, hj, Nat.add_assoc]
theorem spot_none {a : Addr} {v : Value} (h : W.cell? a = some v) : a = ⟨a.block, a.off, none⟩ := by
  unfold World.cell? at h
  split at h
  · split at h
    · cases h
    · rename_i hs
      obtain ⟨b, o, sp⟩ := a
      cases sp with
      | none => rfl
      | some x => simp at hs
  · cases h
theorem add_none (b o i : Nat) : Addr.add ⟨b, o, none⟩ i = ⟨b, o + i, none⟩ := by
  unfold Addr.add
  by_cases hi : i = 0
  · subst hi; simp
  · simp [hi]
/-- What a reading says of cells. -/
def Opens (W : World) (enc : TypeId × Value → H) (P : Program) (base : Nat) (sp : Nat → Bool) (held : Bool) (F : TypeId → Option Cd) : Prop :=
  ∀ (t : TypeId) (c : Cd), F t = some c → ∀ (fuel : Nat) (cs : List Value) (x : DataW H × List MemPlace), DataW.trod enc P W base sp held fuel t cs = some x → ∃ y : τ c, CR (memOf W) RR.nul (cellsC c y) cs.toArray ∧ wfC c y
theorem open_fields {F : TypeId → Option Cd} (hF : Opens W enc P base sp held F) {n : Nat} {cs : List Value} {ys : Nat → Option (DataW H × List MemPlace)} : ∀ (fs : List Field) (off : Nat) (c : Cd), rdF F P off fs = some c →
    (∀ (i : Nat) (f : Field), fs[i]? = some f → ∃ x, DataW.trod enc P W base sp held n f.type ((cs.drop f.offset).take (P.cellsOf f.type)) = some x) → off + sizeC c ≤ cs.length → ∃ y : τ c, CR (memOf W) RR.nul (cellsC c y) ((cs.drop off).take (sizeC c)).toArray ∧ wfC c y
  | [], off, c, h, _, _ => by cases h
  | [f], off, c, h, hx, hl => by
    unfold rdF at h
    split at h
    · rename_i c1 h1
      split at h
      · rename_i hd
        obtain ⟨rfl, hs⟩ := of_decide_eq_true hd
        obtain rfl := Option.some.inj h
        obtain ⟨x, hx⟩ := hx 0 f rfl
        rw [hs] at hx
        exact hF _ _ h1 _ _ _ hx
      · cases h
    · cases h
  | f :: g :: r, off, c, h, hx, hl => by
    unfold rdF at h
    split at h
    · rename_i c1 h1
      split at h
      · rename_i hd
        split at h
        · rename_i c2 h2
          obtain ⟨rfl, hs⟩ := of_decide_eq_true hd
          obtain rfl := Option.some.inj h
          have hl : f.offset + (sizeC c1 + sizeC c2) ≤ cs.length := hl
          obtain ⟨x, hx0⟩ := hx 0 f rfl
          rw [hs] at hx0
          obtain ⟨y1, q1, w1⟩ := hF _ _ h1 _ _ _ hx0
          obtain ⟨y2, q2, w2⟩ := open_fields hF (ys := ys) (g :: r) (f.offset + sizeC c1) c2 h2 (fun i f' hf' => hx (i + 1) f' hf') (by omega)
          refine ⟨(y1, y2), ?_, w1, w2⟩
          have := CR.app q1 q2
          have e : (cs.drop f.offset).take (sizeC c1) ++ (cs.drop (f.offset + sizeC c1)).take (sizeC c2) = (cs.drop f.offset).take (sizeC c1 + sizeC c2) := by
            rw [List.take_add, List.drop_drop]
          rw [e] at this
          exact this
        · cases h
      · cases h
    · cases h
theorem one1_ok {n : Bool} {c : Cd} {M : Mem} {cs : Array Value} (h : ∃ y : τ c, CR M RR.nul (cellsC c y) cs ∧ wfC c y) : ∃ y : τ (one1 n c), CR M RR.nul (cellsC (one1 n c) y) cs ∧ wfC (one1 n c) y := by
  cases n with
  | true => exact h
  | false => exact h
theorem opens : ∀ d : Nat, Opens W enc P base sp held (rdC P d)
  | 0, t, c, h, _, _, _, _ => by cases h
  | d + 1, t, c, h, fuel, cs, x, hx => by
    unfold rdC at h
    split at h
    · rename_i ht
      obtain rfl := Option.some.inj h
      obtain ⟨b, rfl, _⟩ := DataW.trod_bool ht hx
      exact ⟨b, cr_one1 .bool, trivial⟩
    · rename_i k ht
      obtain ⟨n, rfl, _, hw⟩ := DataW.trod_int ht hx
      split at h
      · rename_i hk
        obtain rfl := of_decide_eq_true hk
        obtain rfl := Option.some.inj h
        have hw : 0 ≤ n ∧ n < 256 := by
          simp [Lit.wf, IntKind.has, IntKind.min, IntKind.max, IntKind.bits, IntKind.signed] at hw
          omega
        have hb : n = (((UInt8.ofNat n.toNat).toNat : Nat) : Int) := by
          simp
          omega
        have hv := VR.u8 (M := memOf W) (e := RR.nul) (b := UInt8.ofNat n.toNat)
        rw [← hb] at hv
        exact ⟨UInt8.ofNat n.toNat, cr_one1 hv, trivial⟩
      · obtain rfl := Option.some.inj h
        exact ⟨n, cr_one1 .int, hw⟩
    · rename_i ht
      obtain rfl := Option.some.inj h
      obtain ⟨s, rfl, _, hs⟩ := DataW.trod_string ht hx
      exact ⟨s.data.toList, cr_one1 (.str rfl), by simpa [wfC] using hs⟩
    · rename_i e ht
      split at h
      · rename_i c1 h1
        split at h
        · rename_i hd
          obtain ⟨hs, hpos⟩ := of_decide_eq_true hd
          obtain rfl := Option.some.inj h
          rcases DataW.trod_slice ht hx with ⟨rfl, _⟩ | ⟨a, len, cap, elems, rest, n, _, rfl, _, hb, hlc, hcm, hel, hev, _, _⟩
          · refine ⟨[], cr_one1 (.lst 0 0 (fun _ _ => .nilIface) rfl (Nat.le_refl _) ⟨fun y hy => by simp at hy, fun y hy => by simp at hy, fun h => absurd rfl h, fun i j y z h => by simp at h⟩ fun i j y z h => by simp at h), ?_, fun x hx => by cases hx⟩
            simp
          · have each : ∀ i, i < len → ∃ y : τ c1, (∃ ci, W.cells? base (a.add (i * sizeC c1)) (sizeC c1) = some ci ∧ CR (memOf W) RR.nul (cellsC c1 y) ci.toArray) ∧ wfC c1 y := by
              intro i hi
              have he := hev i hi
              rw [hs] at he
              have : ∃ z, elems[i]? = some z := ⟨elems[i]'(by omega), List.getElem?_eq_getElem (by omega)⟩
              obtain ⟨z, hz⟩ := this
              rw [hz] at he
              obtain ⟨ci, hci, hz2⟩ := Option.bind_eq_some_iff.1 he
              obtain ⟨y, q1, q2⟩ := opens d _ _ h1 _ _ _ hz2
              exact ⟨y, ⟨ci, hci, q1⟩, q2⟩
            obtain ⟨l, hl, hq⟩ := choose_list each
            have hspot : len ≠ 0 → a = ⟨a.block, a.off, none⟩ := by
              intro h0
              obtain ⟨y, ⟨ci, hci, _⟩, _⟩ := each 0 (by omega)
              obtain ⟨_, hlen, hg⟩ := cells_get hci
              have := hg 0 hpos
              rw [List.getElem?_eq_getElem (by omega), add_add] at this
              simp [Addr.add] at this
              exact spot_none this
            have hcell : ∀ (i j : Nat) (y z : AV), (l.map (inj c1))[i]? = some y → y.cells[j]? = some z → ∃ v, W.cell? ⟨a.block, a.off + i * sizeC c1 + j, none⟩ = some v ∧ VR (memOf W) RR.nul z v := by
              intro i j y z hy hz
              rw [List.getElem?_map] at hy
              obtain ⟨x0, hx0, rfl⟩ := Option.map_eq_some_iff.1 hy
              rw [inj_cells] at hz
              obtain ⟨⟨ci, hci, hcr⟩, _⟩ := hq i x0 hx0
              obtain ⟨_, hlen, hg⟩ := cells_get hci
              have hj : j < sizeC c1 := by
                have := (List.getElem?_eq_some_iff.1 hz).1
                rwa [(cellsC_spec c1 x0).1] at this
              have h2 := hg j hj
              have hi : i < len := by rw [← hl]; exact (List.getElem?_eq_some_iff.1 hx0).1
              rw [add_add, hspot (by omega), add_none, List.getElem?_eq_getElem (by omega), ← Nat.add_assoc] at h2
              exact ⟨_, h2, hcr.get j z _ hz (by simp [List.getElem?_eq_getElem (show j < ci.length by omega)])⟩
            refine ⟨l, cr_one1 (.lst a.block a.off (fun i j => (W.cell? ⟨a.block, a.off + i * sizeC c1 + j, none⟩).getD .nilIface) hl.symm hlc ⟨fun y hy => ?_, fun y hy => ?_, fun h => ?_, fun i j y z hy hz => ?_⟩ fun i j y z hy hz => ?_), ?_, fun x hx => ?_⟩
            · obtain ⟨x0, _, rfl⟩ := List.mem_map.1 hy
              rw [inj_cells]; exact (cellsC_spec c1 x0).1
            · obtain ⟨x0, _, rfl⟩ := List.mem_map.1 hy
              rw [inj_cells]; exact (cellsC_spec c1 x0).2
            · rw [hspot]
              rintro rfl
              apply h
              rw [List.length_eq_zero_iff.1 hl]
              rfl
            · obtain ⟨v, h1, _⟩ := hcell i j y z hy hz
              show W.cell? _ = _
              rw [h1]
              rfl
            · obtain ⟨v, h1, h2⟩ := hcell i j y z hy hz
              simp only [h1, Option.getD_some]
              exact h2
            · have hl : (l : List (τ c1)).length = len := hl
              show l.length ≤ maxLen
              omega
            · obtain ⟨i, hi⟩ := List.mem_iff_getElem?.1 hx
              exact (hq i x hi).2
        · cases h
      · cases h
    · rename_i fs ht
      split at h
      · rename_i c1 h1
        split at h
        · rename_i hd
          have hd := of_decide_eq_true hd
          obtain rfl := Option.some.inj h
          obtain ⟨xs, n, _, _, hlen, hxs, hf⟩ := DataW.trod_struct ht hx
          refine one1_ok ?_
          have := open_fields (opens d) (n := n) (cs := cs) (ys := fun _ => none) fs.toList 0 c1 h1 (fun i f hif => by
            have hif : fs[i]? = some f := by simpa using hif
            have := hf i f hif
            have hi : i < fs.size := (Array.getElem?_eq_some_iff.1 hif).1
            exact ⟨xs[i]'(by omega), by rw [this]; exact List.getElem?_eq_getElem _⟩) (by omega)
          rw [List.drop_zero, List.take_of_length_le (by omega)] at this
          exact this
        · cases h
      · cases h
    · cases h
theorem inj_one1 {b : Bool} {c : Cd} (h : b = true ∨ ∃ a a', c = .pair a a') (y : τ (one1 b c)) : inj (one1 b c) y = .agg (cellsC (one1 b c) y) := by
  cases b with
  | true => rfl
  | false =>
    rcases h with h | ⟨a, a', rfl⟩
    · cases h
    · rfl
/-- A parameter as data. -/
theorem open_val {d : Nat} {r : Reach} {b0 : Nat} {t : TypeId} {c : Cd} {v : Value} {dd : DataW H} {ps : List MemPlace} (hc : rdC P d t = some c) (hok : Value.okWide P W r b0 t v) (hd : DataW.Trod enc P W base sp held t v dd ps) :
    ∃ y : τ c, VR (memOf W) RR.nul (inj c y) v ∧ wfC c y := by
  obtain ⟨fuel, hf⟩ := hd
  obtain ⟨y, h1, h2⟩ := opens d t c hc fuel _ _ hf
  refine ⟨y, ?_, h2⟩
  cases d with
  | zero => cases hc
  | succ d =>
    have scal : ∀ x : AV, cellsC c y = [x] → inj c y = x → v.cells = #[v] → VR (memOf W) RR.nul (inj c y) v := by
      intro x e1 e2 e3
      rw [e1, e3] at h1
      rw [e2]
      exact h1.get 0 x v rfl rfl
    unfold rdC at hc
    split at hc
    · rename_i ht
      obtain rfl := Option.some.inj hc
      obtain ⟨b, rfl⟩ := okWide_bool ht hok
      exact scal _ rfl rfl rfl
    · rename_i k ht
      obtain ⟨n, rfl⟩ := okWide_int ht hok
      split at hc
      · obtain rfl := Option.some.inj hc
        exact scal _ rfl rfl rfl
      · obtain rfl := Option.some.inj hc
        exact scal _ rfl rfl rfl
    · rename_i ht
      obtain rfl := Option.some.inj hc
      obtain ⟨s, rfl⟩ := okWide_string ht hok
      exact scal _ rfl rfl rfl
    · rename_i e ht
      split at hc
      · split at hc
        · obtain rfl := Option.some.inj hc
          obtain ⟨a, n, m, rfl⟩ := okWide_slice ht hok
          exact scal _ rfl rfl rfl
        · cases hc
      · cases hc
    · rename_i fs ht
      split at hc
      · rename_i c1 h1'
        split at hc
        · obtain rfl := Option.some.inj hc
          obtain ⟨cs, rfl, _⟩ := okWide_struct ht hok
          have hagg : inj (one1 (fs.size == 1) c1) y = .agg (cellsC (one1 (fs.size == 1) c1) y) := by
            have key : ∀ (F : TypeId → Option Cd) (l : List Field) (off : Nat) (c : Cd), rdF F P off l = some c → l.length ≠ 1 → ∃ a b, c = .pair a b := by
              intro F l off c h hl
              match l, h, hl with
              | [_], _, hl => exact absurd rfl hl
              | f :: g :: r, h, _ =>
                unfold rdF at h
                split at h
                · split at h
                  · split at h
                    · obtain rfl := Option.some.inj h
                      exact ⟨_, _, rfl⟩
                    · cases h
                  · cases h
                · cases h
            refine inj_one1 ?_ y
            cases hn : fs.size == 1 with
            | true => exact .inl rfl
            | false => exact .inr (key _ _ _ _ h1' (by simpa using hn))
          rw [hagg]
          exact .agg h1.size (cellsC_spec _ y).2 fun i x u hx hu => h1.get i x u hx hu
        · cases hc
      · cases hc
    · cases hc
/-- Parameters as data. -/
def Tup : List Cd → Type
  | [] => Unit
  | [c] => τ c
  | c :: d :: r => τ c × Tup (d :: r)
def tupA : (cs : List Cd) → Tup cs → List AV
  | [], _ => []
  | [c], x => [inj c x]
  | c :: d :: r, x => inj c x.1 :: tupA (d :: r) x.2
def tupW : (cs : List Cd) → Tup cs → Prop
  | [], _ => True
  | [c], x => wfC c x
  | c :: d :: r, x => wfC c x.1 ∧ tupW (d :: r) x.2
theorem open_tup {d : Nat} {r : Reach} {b0 : Nat} : ∀ {ts : List TypeId} {cs : List Cd} {vs : List Value} {ds : List (DataW H)} {ps : List MemPlace}, ts.map (rdC P d) = cs.map some →
    (∀ (j : Nat) t v, ts[j]? = some t → vs[j]? = some v → Value.okWide P W r b0 t v) → DataW.TrodAll enc P W base sp held ts vs ds ps → ds.length = ts.length ∧ ∃ x : Tup cs, CR (memOf W) RR.nul (tupA cs x) vs.toArray ∧ tupW cs x
  | [], cs, vs, ds, ps, hc, hok, h => by
    match cs, hc with
    | [], _ =>
      match vs, ds, h with
      | [], [], _ => exact ⟨rfl, (), ⟨rfl, fun i x v h => by simp [tupA] at h⟩, trivial⟩
  | [t], cs, vs, ds, ps, hc, hok, h => by
    match cs, hc with
    | [c], hc =>
      match vs, ds, h with
      | [v], [dd], ⟨p, q, h1, _, _⟩ =>
        obtain ⟨y, e1, e2⟩ := open_val (List.cons.inj hc).1 (hok 0 t v rfl rfl) h1
        exact ⟨rfl, y, cr_one1 e1, e2⟩
      | [v], dd :: _ :: _, ⟨p, q, h1, h2, _⟩ => exact h2.elim
      | v :: _ :: _, [dd], ⟨p, q, h1, h2, _⟩ => exact h2.elim
      | v :: _ :: _, dd :: _ :: _, ⟨p, q, h1, h2, _⟩ => exact h2.elim
    | _ :: _ :: _, hc => exact absurd hc (by simp)
  | t :: t2 :: ts, cs, vs, ds, ps, hc, hok, h => by
    match cs, hc with
    | [_], hc => exact absurd hc (by simp)
    | c :: c2 :: cs, hc =>
      match vs, ds, h with
      | v :: vs, dd :: ds, ⟨p, q, h1, h2, _⟩ =>
        obtain ⟨y, e1, e2⟩ := open_val (List.cons.inj hc).1 (hok 0 t v rfl rfl) h1
        obtain ⟨hl, x, e3, e4⟩ := open_tup (cs := c2 :: cs) (List.cons.inj hc).2 (fun j t v ht hv => hok (j + 1) t v ht hv) h2
        refine ⟨by simpa using hl, (y, x), ?_, e2, e4⟩
        have := CR.app (xs := [inj c y]) (vs := [v]) (cr_one1 e1) e3
        exact this
end
end Go.Sm
/- Functions of Go's library and of figures as Lean functions. No condition. -/
set_option linter.unusedVariables false
namespace Go.Sm
open Go.Proofs

abbrev s_sliteClone : SpecT := s_Clone0
/-! ### strings.Clone -/
noncomputable abbrev ct_Clone : List (FuncId × Bool × SpecT) := [(168, false, s_sliteClone)]
theorem cs_Clone : AllSound Tryd.prog ct_Clone := ⟨so_sliteClone, trivial⟩
noncomputable def F_Clone (x : ((List UInt8))) : Option ((List UInt8)) := (evalF Tryd.prog (lookT ct_Clone) (keepT []) (loopsT []) false false Tryd.f143 (codP [pS]) 1 (codP [pS]) x).run
noncomputable abbrev s_Clone : SpecT := specF (codP [pS]) 1 (codP [pS]) F_Clone
theorem so_Clone : SoundT Tryd.prog 143 s_Clone := soundG (P := Tryd.prog) mixed (t := ct_Clone) cs_Clone (f := 143) (fn := Tryd.f143) Tryd.func143 (by kernel_rfl) (by kernel_rfl) (by kernel_rfl) (ls := []) (by kernel_rfl) (kp := keepT []) (lps := loopsT []) (bump := false) (ice := false) (A := (codP [pS])) (n := 1) (R := (codP [pS])) fun _ => lps_nil

theorem e_Clone (s : List UInt8) : F_Clone s = (
  bif decide (s.length ≤ (281474976710656 : Nat)) then some s else none) := by kernel_rfl


/-! ### horologe/figures.Is -/
noncomputable abbrev ct_figIs : List (FuncId × Bool × SpecT) := []
theorem cs_figIs : AllSound Tryd.prog ct_figIs := trivial
noncomputable def F_figIs (x : (UInt8)) : Option (Bool) := (evalF Tryd.prog (lookT ct_figIs) (keepT []) (loopsT []) false false Tryd.f186 (codP [pU]) 1 (codP [pB]) x).run
noncomputable abbrev s_figIs : SpecT := specF (codP [pU]) 1 (codP [pB]) F_figIs
theorem so_figIs : SoundT Tryd.prog 186 s_figIs := soundG (P := Tryd.prog) mixed (t := ct_figIs) cs_figIs (f := 186) (fn := Tryd.f186) Tryd.func186 (by kernel_rfl) (by kernel_rfl) (by kernel_rfl) (ls := []) (by kernel_rfl) (kp := keepT []) (lps := loopsT []) (bump := false) (ice := false) (A := (codP [pU])) (n := 1) (R := (codP [pB])) fun _ => lps_nil

theorem e_figIs (b : UInt8) : F_figIs b = (
  bif decide ((48 : UInt8) ≤ b) then some (decide (b ≤ (57 : UInt8))) else some false) := by kernel_rfl


/-! ### horologe/figures.run -/
noncomputable abbrev ct_figRun : List (FuncId × Bool × SpecT) := [(186, false, s_figIs)]
theorem cs_figRun : AllSound Tryd.prog ct_figRun := ⟨so_figIs, trivial⟩
-- loop 0 (key 2) exit 0: [0, 1, 5]
-- loop 0 (key 2) exit 3: [5]
abbrev kp_figRun : Keep := keepT [(2, 0, [(0, none), (1, none), (5, none)]), (2, 3, [(5, none)])]
noncomputable abbrev b_figRun_0 : Code := loopAt Tryd.f180 0
noncomputable def sp_figRun_0 (x : ((List UInt8) × Int × Int)) : Option (((List UInt8) × Int × Int) ⊕ (Int)) := (stepL Tryd.prog (lookT ct_figRun) kp_figRun (loopsT []) 0 false b_figRun_0 (codP [pS, pI, pI]) (exO (.ext 0) (codP [pI])) x).run
noncomputable def w_figRun_0 : ((List UInt8) × Int × Int) → Option (Int) := whileO sp_figRun_0
theorem ew_figRun_0 (x : ((List UInt8) × Int × Int)) : w_figRun_0 x = (sp_figRun_0 x).bind (Sum.elim w_figRun_0 some) := whileO_eq _ _
noncomputable abbrev l_figRun_0 : LT := ltF (codP [pS, pI, pI]) (exO (.ext 0) (codP [pI])) w_figRun_0
theorem lo_figRun_0 : LoopOk Tryd.prog Tryd.f180.ntmps kp_figRun 0 false b_figRun_0 l_figRun_0 := loopG mixed cs_figRun (lps := loopsT []) (by kernel_rfl) (ls := []) (by kernel_rfl) lps_nil
noncomputable def F_figRun (x : ((List UInt8) × Int)) : Option (Int) := (evalF Tryd.prog (lookT ct_figRun) (kp_figRun) (loopsT [(2, l_figRun_0)]) false false Tryd.f180 (codP [pS, pI]) 1 (codP [pI]) x).run
noncomputable abbrev s_figRun : SpecT := specF (codP [pS, pI]) 1 (codP [pI]) F_figRun
theorem so_figRun : SoundT Tryd.prog 180 s_figRun := soundG (P := Tryd.prog) mixed (t := ct_figRun) cs_figRun (f := 180) (fn := Tryd.f180) Tryd.func180 (by kernel_rfl) (by kernel_rfl) (by kernel_rfl) (ls := [b_figRun_0]) (by kernel_rfl) (kp := kp_figRun) (lps := loopsT [(2, l_figRun_0)]) (bump := false) (ice := false) (A := (codP [pS, pI])) (n := 1) (R := (codP [pI])) fun _ => (lps_cons l_figRun_0 (by kernel_rfl) lo_figRun_0 lps_nil)

theorem es_figRun_0 (s : List UInt8) (m n : Int) : sp_figRun_0 (s, m, n) = (
  bif decide (n < min (↑s.length : Int) m) then (getI s n).bind fun x1 => (F_figIs x1).bind fun x2 => bif x2 then some (Sum.inl (s, m, IntKind.i64.wrap (n + (1 : Int)))) else some (Sum.inr n)
  else some (Sum.inr n)) := by kernel_rfl

theorem e_figRun (s : List UInt8) (m : Int) : F_figRun (s, m) = (
  (w_figRun_0 (s, m, (0 : Int))).bind fun x1 => some x1) := by kernel_rfl

end Go.Sm
/- figures and scan as Lean functions. No condition. -/
set_option linter.unusedVariables false
namespace Go.Sm
open Go.Proofs
abbrev s_IndexByte' : SpecT := s_IndexByte

/-! ### horologe/figures.value -/
noncomputable abbrev ct_figValue : List (FuncId × Bool × SpecT) := []
theorem cs_figValue : AllSound Tryd.prog ct_figValue := trivial
-- loop 0 (key 3) exit 0: [0, 1, 6, 10, 11]
-- loop 0 (key 3) exit 2: [4, 5]
-- loop 0 (key 3) exit 3: [6]
abbrev kp_figValue : Keep := keepT [(3, 0, [(0, none), (1, none), (6, none), (10, none), (11, none)]), (3, 2, [(4, none), (5, none)]), (3, 3, [(6, none)])]
noncomputable abbrev b_figValue_0 : Code := loopAt Tryd.f181 0
noncomputable def sp_figValue_0 (x : ((List UInt8) × Int × Int × Int × Int)) : Option (((List UInt8) × Int × Int × Int × Int) ⊕ ((Int × Int) ⊕ (Int))) := (stepL Tryd.prog (lookT ct_figValue) kp_figValue (loopsT []) 0 false b_figValue_0 (codP [pS, pW, pW, pI, pI]) (exS (exO .ret (codP [pW, pE])) (exO (.ext 0) (codP [pW]))) x).run
noncomputable def w_figValue_0 : ((List UInt8) × Int × Int × Int × Int) → Option ((Int × Int) ⊕ (Int)) := whileO sp_figValue_0
theorem ew_figValue_0 (x : ((List UInt8) × Int × Int × Int × Int)) : w_figValue_0 x = (sp_figValue_0 x).bind (Sum.elim w_figValue_0 some) := whileO_eq _ _
noncomputable abbrev l_figValue_0 : LT := ltF (codP [pS, pW, pW, pI, pI]) (exS (exO .ret (codP [pW, pE])) (exO (.ext 0) (codP [pW]))) w_figValue_0
theorem lo_figValue_0 : LoopOk Tryd.prog Tryd.f181.ntmps kp_figValue 0 false b_figValue_0 l_figValue_0 := loopG mixed cs_figValue (lps := loopsT []) (by kernel_rfl) (ls := []) (by kernel_rfl) lps_nil
noncomputable def F_figValue (x : ((List UInt8) × Int)) : Option (Int × Int) := (evalF Tryd.prog (lookT ct_figValue) (kp_figValue) (loopsT [(3, l_figValue_0)]) false false Tryd.f181 (codP [pS, pW]) 2 (codP [pW, pE]) x).run
noncomputable abbrev s_figValue : SpecT := specF (codP [pS, pW]) 2 (codP [pW, pE]) F_figValue
theorem so_figValue : SoundT Tryd.prog 181 s_figValue := soundG (P := Tryd.prog) mixed (t := ct_figValue) cs_figValue (f := 181) (fn := Tryd.f181) Tryd.func181 (by kernel_rfl) (by kernel_rfl) (by kernel_rfl) (ls := [b_figValue_0]) (by kernel_rfl) (kp := kp_figValue) (lps := loopsT [(3, l_figValue_0)]) (bump := false) (ice := false) (A := (codP [pS, pW])) (n := 2) (R := (codP [pW, pE])) fun _ => (lps_cons l_figValue_0 (by kernel_rfl) lo_figValue_0 lps_nil)

theorem es_figValue_0 (s : List UInt8) (limit n : Int) (l i : Int) : sp_figValue_0 (s, limit, n, l, i) = (
  bif decide (i < l) then
    (getI s i).bind fun x1 =>
      bif decide (IntKind.u64.wrap ((IntKind.u64.wrap (limit - (↑(x1 - (48 : UInt8)).toNat : Int))).tdiv (10 : Int)) < n) then some (Sum.inr (Sum.inl ((0 : Int), (5 : Int))))
      else some (Sum.inl (s, limit, IntKind.u64.wrap (IntKind.u64.wrap (n * (10 : Int)) + (↑(x1 - (48 : UInt8)).toNat : Int)), l, IntKind.i64.wrap (i + (1 : Int))))
  else some (Sum.inr (Sum.inr n))) := by kernel_rfl

theorem e_figValue (s : List UInt8) (limit : Int) : F_figValue (s, limit) = (
  (w_figValue_0 (s, limit, (0 : Int), (↑s.length : Int), (0 : Int))).bind fun x1 => Sum.elim (fun x2 => some x2) (fun x2 => some (x2, (0 : Int))) x1) := by kernel_rfl


/-! ### horologe/figures.take -/
noncomputable abbrev ct_figTake : List (FuncId × Bool × SpecT) := [(180, false, s_figRun), (181, false, s_figValue)]
theorem cs_figTake : AllSound Tryd.prog ct_figTake := ⟨so_figRun, so_figValue, trivial⟩
noncomputable def F_figTake (x : ((List UInt8) × Int × Int × Int)) : Option (Int × Int × Int) := (evalF Tryd.prog (lookT ct_figTake) (keepT []) (loopsT []) false false Tryd.f170 (codP [pS, pI, pI, pW]) 3 (codP [pW, pI, pE]) x).run
noncomputable abbrev s_figTake : SpecT := specF (codP [pS, pI, pI, pW]) 3 (codP [pW, pI, pE]) F_figTake
theorem so_figTake : SoundT Tryd.prog 170 s_figTake := soundG (P := Tryd.prog) mixed (t := ct_figTake) cs_figTake (f := 170) (fn := Tryd.f170) Tryd.func170 (by kernel_rfl) (by kernel_rfl) (by kernel_rfl) (ls := []) (by kernel_rfl) (kp := keepT []) (lps := loopsT []) (bump := false) (ice := false) (A := (codP [pS, pI, pI, pW])) (n := 3) (R := (codP [pW, pI, pE])) fun _ => lps_nil

theorem e_figTake (s : List UInt8) (least most : Int) (limit : Int) : F_figTake (s, least, most, limit) = (
  bif decide (least < (1 : Int)) then some ((0 : Int), (0 : Int), (1 : Int))
  else
    bif decide (most < least) then some ((0 : Int), (0 : Int), (1 : Int))
    else
      bif decide ((20 : Int) < most) then some ((0 : Int), (0 : Int), (1 : Int))
      else
        (F_figRun (s, most)).bind fun x1 =>
          bif decide (x1 < least) then some ((0 : Int), (0 : Int), (2 : Int))
          else (subI s (0 : Int) x1).bind fun x2 => (F_figValue (x2, limit)).bind fun x3 => bif decide (x3.snd ≠ (0 : Int)) then some ((0 : Int), (0 : Int), x3.snd) else some (x3.fst, x1, (0 : Int))) := by kernel_rfl


/-! ### horologe/figures.Take -/
noncomputable abbrev ct_FigTake : List (FuncId × Bool × SpecT) := [(170, false, s_figTake)]
theorem cs_FigTake : AllSound Tryd.prog ct_FigTake := ⟨so_figTake, trivial⟩
noncomputable def F_FigTake (x : ((List UInt8) × Int × Int)) : Option (Int × Int × Int) := (evalF Tryd.prog (lookT ct_FigTake) (keepT []) (loopsT []) false false Tryd.f145 (codP [pS, pI, pI]) 3 (codP [pI, pI, pE]) x).run
noncomputable abbrev s_FigTake : SpecT := specF (codP [pS, pI, pI]) 3 (codP [pI, pI, pE]) F_FigTake
theorem so_FigTake : SoundT Tryd.prog 145 s_FigTake := soundG (P := Tryd.prog) mixed (t := ct_FigTake) cs_FigTake (f := 145) (fn := Tryd.f145) Tryd.func145 (by kernel_rfl) (by kernel_rfl) (by kernel_rfl) (ls := []) (by kernel_rfl) (kp := keepT []) (lps := loopsT []) (bump := false) (ice := false) (A := (codP [pS, pI, pI])) (n := 3) (R := (codP [pI, pI, pE])) fun _ => lps_nil

theorem e_FigTake (s : List UInt8) (least most : Int) : F_FigTake (s, least, most) = (
  (F_figTake (s, least, most, (9223372036854775807 : Int))).bind fun x1 => some (IntKind.i64.wrap x1.fst, x1.snd)) := by kernel_rfl


/-! ### horologe/scan.New[string] -/
noncomputable abbrev ct_scNew : List (FuncId × Bool × SpecT) := []
theorem cs_scNew : AllSound Tryd.prog ct_scNew := trivial
noncomputable def F_scNew (x : ((List UInt8))) : Option (((List UInt8) × Int × Int) × (Unit)) := (evalF Tryd.prog (lookT ct_scNew) (keepT []) (loopsT []) false false Tryd.f41 (codP [pS]) 1 (codR 0 [pS, pI, pE] [p0]) x).run
noncomputable abbrev s_scNew : SpecT := specF (codP [pS]) 1 (codR 0 [pS, pI, pE] [p0]) F_scNew
theorem so_scNew : SoundT Tryd.prog 41 s_scNew := soundG (P := Tryd.prog) mixed (t := ct_scNew) cs_scNew (f := 41) (fn := Tryd.f41) Tryd.func41 (by kernel_rfl) (by kernel_rfl) (by kernel_rfl) (ls := []) (by kernel_rfl) (kp := keepT []) (lps := loopsT []) (bump := false) (ice := false) (A := (codP [pS])) (n := 1) (R := (codR 0 [pS, pI, pE] [p0])) fun _ => lps_nil

theorem e_scNew (s : List UInt8) : F_scNew s = (
  some ((s, (0 : Int), (0 : Int)), ())) := by kernel_rfl


/-! ### (*horologe/scan.Scanner[string]).rest -/
noncomputable abbrev ct_scRest : List (FuncId × Bool × SpecT) := []
theorem cs_scRest : AllSound Tryd.prog ct_scRest := trivial
noncomputable def F_scRest (x : (((List UInt8) × Int × Int) × (Unit))) : Option (((List UInt8) × Int × Int) × ((List UInt8))) := (evalF Tryd.prog (lookT ct_scRest) (keepT []) (loopsT []) false false Tryd.f92 (codR 0 [pS, pI, pE] [p0]) 1 (codR 0 [pS, pI, pE] [pS]) x).run
noncomputable abbrev s_scRest : SpecT := specF (codR 0 [pS, pI, pE] [p0]) 1 (codR 0 [pS, pI, pE] [pS]) F_scRest
theorem so_scRest : SoundT Tryd.prog 92 s_scRest := soundG (P := Tryd.prog) mixed (t := ct_scRest) cs_scRest (f := 92) (fn := Tryd.f92) Tryd.func92 (by kernel_rfl) (by kernel_rfl) (by kernel_rfl) (ls := []) (by kernel_rfl) (kp := keepT []) (lps := loopsT []) (bump := false) (ice := false) (A := (codR 0 [pS, pI, pE] [p0])) (n := 1) (R := (codR 0 [pS, pI, pE] [pS])) fun _ => lps_nil

theorem e_scRest (t : List UInt8) (a e : Int) : F_scRest ((t, a, e), ()) = (
  bif decide (e ≠ (0 : Int)) then some ((t, a, e), []) else (subI t a (↑t.length : Int)).bind fun x1 => some ((t, a, e), x1)) := by kernel_rfl


/-! ### (*horologe/scan.Scanner[string]).going -/
noncomputable abbrev ct_scGoing : List (FuncId × Bool × SpecT) := []
theorem cs_scGoing : AllSound Tryd.prog ct_scGoing := trivial
noncomputable def F_scGoing (x : (((List UInt8) × Int × Int) × (Unit))) : Option (((List UInt8) × Int × Int) × (Bool)) := (evalF Tryd.prog (lookT ct_scGoing) (keepT []) (loopsT []) false false Tryd.f121 (codR 0 [pS, pI, pE] [p0]) 1 (codR 0 [pS, pI, pE] [pB]) x).run
noncomputable abbrev s_scGoing : SpecT := specF (codR 0 [pS, pI, pE] [p0]) 1 (codR 0 [pS, pI, pE] [pB]) F_scGoing
theorem so_scGoing : SoundT Tryd.prog 121 s_scGoing := soundG (P := Tryd.prog) mixed (t := ct_scGoing) cs_scGoing (f := 121) (fn := Tryd.f121) Tryd.func121 (by kernel_rfl) (by kernel_rfl) (by kernel_rfl) (ls := []) (by kernel_rfl) (kp := keepT []) (lps := loopsT []) (bump := false) (ice := false) (A := (codR 0 [pS, pI, pE] [p0])) (n := 1) (R := (codR 0 [pS, pI, pE] [pB])) fun _ => lps_nil

theorem e_scGoing (t : List UInt8) (a e : Int) : F_scGoing ((t, a, e), ()) = (
  some ((t, a, e), decide (e = (0 : Int)))) := by kernel_rfl


/-! ### (*horologe/scan.Scanner[string]).Left -/
noncomputable abbrev ct_scLeft : List (FuncId × Bool × SpecT) := [(92, false, s_scRest)]
theorem cs_scLeft : AllSound Tryd.prog ct_scLeft := ⟨so_scRest, trivial⟩
noncomputable def F_scLeft (x : (((List UInt8) × Int × Int) × (Unit))) : Option (((List UInt8) × Int × Int) × (Int)) := (evalF Tryd.prog (lookT ct_scLeft) (keepT []) (loopsT []) false false Tryd.f44 (codR 0 [pS, pI, pE] [p0]) 1 (codR 0 [pS, pI, pE] [pI]) x).run
noncomputable abbrev s_scLeft : SpecT := specF (codR 0 [pS, pI, pE] [p0]) 1 (codR 0 [pS, pI, pE] [pI]) F_scLeft
theorem so_scLeft : SoundT Tryd.prog 44 s_scLeft := soundG (P := Tryd.prog) mixed (t := ct_scLeft) cs_scLeft (f := 44) (fn := Tryd.f44) Tryd.func44 (by kernel_rfl) (by kernel_rfl) (by kernel_rfl) (ls := []) (by kernel_rfl) (kp := keepT []) (lps := loopsT []) (bump := false) (ice := false) (A := (codR 0 [pS, pI, pE] [p0])) (n := 1) (R := (codR 0 [pS, pI, pE] [pI])) fun _ => lps_nil

theorem e_scLeft (t : List UInt8) (a e : Int) : F_scLeft ((t, a, e), ()) = (
  (F_scRest ((t, a, e), ())).bind fun x1 => some (x1.fst, (↑(List.length x1.snd) : Int))) := by kernel_rfl


/-! ### (*horologe/scan.Scanner[string]).Peek -/
noncomputable abbrev ct_scPeek : List (FuncId × Bool × SpecT) := [(92, false, s_scRest)]
theorem cs_scPeek : AllSound Tryd.prog ct_scPeek := ⟨so_scRest, trivial⟩
noncomputable def F_scPeek (x : (((List UInt8) × Int × Int) × (Unit))) : Option (((List UInt8) × Int × Int) × (UInt8 × Bool)) := (evalF Tryd.prog (lookT ct_scPeek) (keepT []) (loopsT []) false false Tryd.f93 (codR 0 [pS, pI, pE] [p0]) 2 (codR 0 [pS, pI, pE] [pU, pB]) x).run
noncomputable abbrev s_scPeek : SpecT := specF (codR 0 [pS, pI, pE] [p0]) 2 (codR 0 [pS, pI, pE] [pU, pB]) F_scPeek
theorem so_scPeek : SoundT Tryd.prog 93 s_scPeek := soundG (P := Tryd.prog) mixed (t := ct_scPeek) cs_scPeek (f := 93) (fn := Tryd.f93) Tryd.func93 (by kernel_rfl) (by kernel_rfl) (by kernel_rfl) (ls := []) (by kernel_rfl) (kp := keepT []) (lps := loopsT []) (bump := false) (ice := false) (A := (codR 0 [pS, pI, pE] [p0])) (n := 2) (R := (codR 0 [pS, pI, pE] [pU, pB])) fun _ => lps_nil

theorem e_scPeek (t : List UInt8) (a e : Int) : F_scPeek ((t, a, e), ()) = (
  (F_scRest ((t, a, e), ())).bind fun x1 => bif decide (x1.snd = []) then some (x1.fst, (0 : UInt8), false) else (getI x1.snd (0 : Int)).bind fun x2 => some (x1.fst, x2, true)) := by kernel_rfl


/-! ### (*horologe/scan.Scanner[string]).take -/
noncomputable abbrev ct_scTake1 : List (FuncId × Bool × SpecT) := [(92, false, s_scRest), (143, false, s_Clone)]
theorem cs_scTake1 : AllSound Tryd.prog ct_scTake1 := ⟨so_scRest, so_Clone, trivial⟩
noncomputable def F_scTake1 (x : (((List UInt8) × Int × Int) × (Unit × Int))) : Option (((List UInt8) × Int × Int) × ((List UInt8))) := (evalF Tryd.prog (lookT ct_scTake1) (keepT []) (loopsT []) false false Tryd.f119 (codR 0 [pS, pI, pE] [p0, pI]) 1 (codR 0 [pS, pI, pE] [pS]) x).run
noncomputable abbrev s_scTake1 : SpecT := specF (codR 0 [pS, pI, pE] [p0, pI]) 1 (codR 0 [pS, pI, pE] [pS]) F_scTake1
theorem so_scTake1 : SoundT Tryd.prog 119 s_scTake1 := soundG (P := Tryd.prog) mixed (t := ct_scTake1) cs_scTake1 (f := 119) (fn := Tryd.f119) Tryd.func119 (by kernel_rfl) (by kernel_rfl) (by kernel_rfl) (ls := []) (by kernel_rfl) (kp := keepT []) (lps := loopsT []) (bump := false) (ice := false) (A := (codR 0 [pS, pI, pE] [p0, pI])) (n := 1) (R := (codR 0 [pS, pI, pE] [pS])) fun _ => lps_nil

theorem e_scTake1 (t : List UInt8) (a e : Int) (m : Int) : F_scTake1 ((t, a, e), (), m) = (
  (F_scRest ((t, a, e), ())).bind fun x1 =>
    (subI x1.snd (0 : Int) m).bind fun x2 =>
      bif decide ((0 : Int) < m) then (F_Clone x2).bind fun x3 => some ((x1.fst.fst, IntKind.i64.wrap (x1.fst.snd.fst + m), x1.fst.snd.snd), x3) else (F_Clone x2).bind fun x3 => some (x1.fst, x3)) := by kernel_rfl


/-! ### (*horologe/scan.Scanner[string]).Take -/
noncomputable abbrev ct_scTake : List (FuncId × Bool × SpecT) := [(93, false, s_scPeek), (119, false, s_scTake1)]
theorem cs_scTake : AllSound Tryd.prog ct_scTake := ⟨so_scPeek, so_scTake1, trivial⟩
noncomputable def F_scTake (x : (((List UInt8) × Int × Int) × (Unit × UInt8))) : Option (((List UInt8) × Int × Int) × (Bool)) := (evalF Tryd.prog (lookT ct_scTake) (keepT []) (loopsT []) false false Tryd.f86 (codR 0 [pS, pI, pE] [p0, pU]) 1 (codR 0 [pS, pI, pE] [pB]) x).run
noncomputable abbrev s_scTake : SpecT := specF (codR 0 [pS, pI, pE] [p0, pU]) 1 (codR 0 [pS, pI, pE] [pB]) F_scTake
theorem so_scTake : SoundT Tryd.prog 86 s_scTake := soundG (P := Tryd.prog) mixed (t := ct_scTake) cs_scTake (f := 86) (fn := Tryd.f86) Tryd.func86 (by kernel_rfl) (by kernel_rfl) (by kernel_rfl) (ls := []) (by kernel_rfl) (kp := keepT []) (lps := loopsT []) (bump := false) (ice := false) (A := (codR 0 [pS, pI, pE] [p0, pU])) (n := 1) (R := (codR 0 [pS, pI, pE] [pB])) fun _ => lps_nil

theorem e_scTake (t : List UInt8) (a e : Int) (b : UInt8) : F_scTake ((t, a, e), (), b) = (
  (F_scPeek ((t, a, e), ())).bind fun x1 =>
    bif !x1.snd.snd then some (x1.fst, false) else bif decide (x1.snd.fst ≠ b) then some (x1.fst, false) else (F_scTake1 (x1.fst, (), (1 : Int))).bind fun x2 => some (x2.fst, true)) := by kernel_rfl


/-! ### horologe/scan.small -/
noncomputable abbrev ct_scSmall : List (FuncId × Bool × SpecT) := []
theorem cs_scSmall : AllSound Tryd.prog ct_scSmall := trivial
noncomputable def F_scSmall (x : (UInt8)) : Option (UInt8) := (evalF Tryd.prog (lookT ct_scSmall) (keepT []) (loopsT []) false false Tryd.f193 (codP [pU]) 1 (codP [pU]) x).run
noncomputable abbrev s_scSmall : SpecT := specF (codP [pU]) 1 (codP [pU]) F_scSmall
theorem so_scSmall : SoundT Tryd.prog 193 s_scSmall := soundG (P := Tryd.prog) mixed (t := ct_scSmall) cs_scSmall (f := 193) (fn := Tryd.f193) Tryd.func193 (by kernel_rfl) (by kernel_rfl) (by kernel_rfl) (ls := []) (by kernel_rfl) (kp := keepT []) (lps := loopsT []) (bump := false) (ice := false) (A := (codP [pU])) (n := 1) (R := (codP [pU])) fun _ => lps_nil

theorem e_scSmall (b : UInt8) : F_scSmall b = (
  bif decide ((65 : UInt8) ≤ b) then bif decide (b ≤ (90 : UInt8)) then some (b - (65 : UInt8) + (97 : UInt8)) else some b else some b) := by kernel_rfl


/-! ### horologe/scan.alike -/
noncomputable abbrev ct_scAlike : List (FuncId × Bool × SpecT) := [(193, false, s_scSmall)]
theorem cs_scAlike : AllSound Tryd.prog ct_scAlike := ⟨so_scSmall, trivial⟩
-- loop 0 (key 2) exit 0: [0, 1, 7, 8]
-- loop 0 (key 2) exit 2: [4]
-- loop 0 (key 2) exit 3: []
abbrev kp_scAlike : Keep := keepT [(2, 0, [(0, none), (1, none), (7, none), (8, none)]), (2, 2, [(4, none)]), (2, 3, [])]
noncomputable abbrev b_scAlike_0 : Code := loopAt Tryd.f190 0
noncomputable def sp_scAlike_0 (x : ((List UInt8) × (List UInt8) × Int × Int)) : Option (((List UInt8) × (List UInt8) × Int × Int) ⊕ ((Bool) ⊕ Unit)) := (stepL Tryd.prog (lookT ct_scAlike) kp_scAlike (loopsT []) 0 false b_scAlike_0 (codP [pS, pS, pI, pI]) (exS (exO .ret (codP [pB])) (exO (.ext 0) (codP []))) x).run
noncomputable def w_scAlike_0 : ((List UInt8) × (List UInt8) × Int × Int) → Option ((Bool) ⊕ Unit) := whileO sp_scAlike_0
theorem ew_scAlike_0 (x : ((List UInt8) × (List UInt8) × Int × Int)) : w_scAlike_0 x = (sp_scAlike_0 x).bind (Sum.elim w_scAlike_0 some) := whileO_eq _ _
noncomputable abbrev l_scAlike_0 : LT := ltF (codP [pS, pS, pI, pI]) (exS (exO .ret (codP [pB])) (exO (.ext 0) (codP []))) w_scAlike_0
theorem lo_scAlike_0 : LoopOk Tryd.prog Tryd.f190.ntmps kp_scAlike 0 false b_scAlike_0 l_scAlike_0 := loopG mixed cs_scAlike (lps := loopsT []) (by kernel_rfl) (ls := []) (by kernel_rfl) lps_nil
noncomputable def F_scAlike (x : ((List UInt8) × (List UInt8))) : Option (Bool) := (evalF Tryd.prog (lookT ct_scAlike) (kp_scAlike) (loopsT [(2, l_scAlike_0)]) false false Tryd.f190 (codP [pS, pS]) 1 (codP [pB]) x).run
noncomputable abbrev s_scAlike : SpecT := specF (codP [pS, pS]) 1 (codP [pB]) F_scAlike
theorem so_scAlike : SoundT Tryd.prog 190 s_scAlike := soundG (P := Tryd.prog) mixed (t := ct_scAlike) cs_scAlike (f := 190) (fn := Tryd.f190) Tryd.func190 (by kernel_rfl) (by kernel_rfl) (by kernel_rfl) (ls := [b_scAlike_0]) (by kernel_rfl) (kp := kp_scAlike) (lps := loopsT [(2, l_scAlike_0)]) (bump := false) (ice := false) (A := (codP [pS, pS])) (n := 1) (R := (codP [pB])) fun _ => (lps_cons l_scAlike_0 (by kernel_rfl) lo_scAlike_0 lps_nil)

theorem es_scAlike_0 (a b : List UInt8) (l i : Int) : sp_scAlike_0 (a, b, l, i) = (
  bif decide (i < l) then
    (getI a i).bind fun x1 =>
      (F_scSmall x1).bind fun x2 =>
        (getI b i).bind fun x3 => (F_scSmall x3).bind fun x4 => bif decide (x2 ≠ x4) then some (Sum.inr (Sum.inl false)) else some (Sum.inl (a, b, l, IntKind.i64.wrap (i + (1 : Int))))
  else some (Sum.inr (Sum.inr ()))) := by kernel_rfl

theorem e_scAlike (a b : List UInt8) : F_scAlike (a, b) = (
  (w_scAlike_0 (a, b, (↑a.length : Int), (0 : Int))).bind fun x1 => Sum.elim (fun x2 => some x2) (fun x2 => some true) x1) := by kernel_rfl


/-! ### (*horologe/scan.Scanner[string]).Fold -/
noncomputable abbrev ct_scFold : List (FuncId × Bool × SpecT) := [(92, false, s_scRest), (121, false, s_scGoing), (190, false, s_scAlike), (119, false, s_scTake1)]
theorem cs_scFold : AllSound Tryd.prog ct_scFold := ⟨so_scRest, so_scGoing, so_scAlike, so_scTake1, trivial⟩
noncomputable def F_scFold (x : (((List UInt8) × Int × Int) × (Unit × (List UInt8)))) : Option (((List UInt8) × Int × Int) × (Bool)) := (evalF Tryd.prog (lookT ct_scFold) (keepT []) (loopsT []) false false Tryd.f183 (codR 0 [pS, pI, pE] [p0, pS]) 1 (codR 0 [pS, pI, pE] [pB]) x).run
noncomputable abbrev s_scFold : SpecT := specF (codR 0 [pS, pI, pE] [p0, pS]) 1 (codR 0 [pS, pI, pE] [pB]) F_scFold
theorem so_scFold : SoundT Tryd.prog 183 s_scFold := soundG (P := Tryd.prog) mixed (t := ct_scFold) cs_scFold (f := 183) (fn := Tryd.f183) Tryd.func183 (by kernel_rfl) (by kernel_rfl) (by kernel_rfl) (ls := []) (by kernel_rfl) (kp := keepT []) (lps := loopsT []) (bump := false) (ice := false) (A := (codR 0 [pS, pI, pE] [p0, pS])) (n := 1) (R := (codR 0 [pS, pI, pE] [pB])) fun _ => lps_nil

theorem e_scFold (t : List UInt8) (a e : Int) (w : List UInt8) : F_scFold ((t, a, e), (), w) = (
  (F_scRest ((t, a, e), ())).bind fun x1 =>
    (F_scGoing (x1.fst, ())).bind fun x2 =>
      bif !x2.snd then some (x2.fst, false)
      else
        bif decide ((↑(List.length x1.snd) : Int) < (↑w.length : Int)) then some (x2.fst, false)
        else
          (subI x1.snd (0 : Int) (↑w.length : Int)).bind fun x3 =>
            (F_scAlike (x3, w)).bind fun x4 => bif !x4 then some (x2.fst, false) else (F_scTake1 (x2.fst, (), (↑w.length : Int))).bind fun x5 => some (x5.fst, true)) := by kernel_rfl


/-! ### (*horologe/scan.Scanner[string]).Run -/
noncomputable abbrev ct_scRun : List (FuncId × Bool × SpecT) := [(92, false, s_scRest), (120, false, s_IndexByte), (119, false, s_scTake1)]
theorem cs_scRun : AllSound Tryd.prog ct_scRun := ⟨so_scRest, so_IndexByte, so_scTake1, trivial⟩
-- loop 0 (key 3) exit 0: [0, 1, 5, 6]
-- loop 0 (key 3) exit 3: [0, 6]
abbrev kp_scRun : Keep := keepT [(3, 0, [(0, none), (1, none), (5, none), (6, none)]), (3, 3, [(0, none), (6, none)])]
noncomputable abbrev b_scRun_0 : Code := loopAt Tryd.f87 0
noncomputable def sp_scRun_0 (x : (((List UInt8) × Int × Int) × (Unit × (List UInt8) × (List UInt8) × Int))) : Option ((((List UInt8) × Int × Int) × (Unit × (List UInt8) × (List UInt8) × Int)) ⊕ (((List UInt8) × Int × Int) × (Unit × Int))) := (stepL Tryd.prog (lookT ct_scRun) kp_scRun (loopsT []) 1 false b_scRun_0 (codR 0 [pS, pI, pE] [p0, pS, pS, pI]) (exO (.ext 0) (codR 0 [pS, pI, pE] [p0, pI])) x).run
noncomputable def w_scRun_0 : (((List UInt8) × Int × Int) × (Unit × (List UInt8) × (List UInt8) × Int)) → Option (((List UInt8) × Int × Int) × (Unit × Int)) := whileO sp_scRun_0
theorem ew_scRun_0 (x : (((List UInt8) × Int × Int) × (Unit × (List UInt8) × (List UInt8) × Int))) : w_scRun_0 x = (sp_scRun_0 x).bind (Sum.elim w_scRun_0 some) := whileO_eq _ _
noncomputable abbrev l_scRun_0 : LT := ltF (codR 0 [pS, pI, pE] [p0, pS, pS, pI]) (exO (.ext 0) (codR 0 [pS, pI, pE] [p0, pI])) w_scRun_0
theorem lo_scRun_0 : LoopOk Tryd.prog Tryd.f87.ntmps kp_scRun 1 false b_scRun_0 l_scRun_0 := loopG mixed cs_scRun (lps := loopsT []) (by kernel_rfl) (ls := []) (by kernel_rfl) lps_nil
noncomputable def F_scRun (x : (((List UInt8) × Int × Int) × (Unit × (List UInt8)))) : Option (((List UInt8) × Int × Int) × ((List UInt8))) := (evalF Tryd.prog (lookT ct_scRun) (kp_scRun) (loopsT [(3, l_scRun_0)]) false false Tryd.f87 (codR 0 [pS, pI, pE] [p0, pS]) 1 (codR 0 [pS, pI, pE] [pS]) x).run
noncomputable abbrev s_scRun : SpecT := specF (codR 0 [pS, pI, pE] [p0, pS]) 1 (codR 0 [pS, pI, pE] [pS]) F_scRun
theorem so_scRun : SoundT Tryd.prog 87 s_scRun := soundG (P := Tryd.prog) mixed (t := ct_scRun) cs_scRun (f := 87) (fn := Tryd.f87) Tryd.func87 (by kernel_rfl) (by kernel_rfl) (by kernel_rfl) (ls := [b_scRun_0]) (by kernel_rfl) (kp := kp_scRun) (lps := loopsT [(3, l_scRun_0)]) (bump := false) (ice := false) (A := (codR 0 [pS, pI, pE] [p0, pS])) (n := 1) (R := (codR 0 [pS, pI, pE] [pS])) fun _ => (lps_cons l_scRun_0 (by kernel_rfl) lo_scRun_0 lps_nil)

theorem es_scRun_0 (t : List UInt8) (a e : Int) (o r : List UInt8) (n : Int) : sp_scRun_0 ((t, a, e), (), o, r, n) = (
  bif decide (n < (↑r.length : Int)) then
    (getI r n).bind fun x1 => bif decide ((0 : Int) ≤ Lib.indexByte o x1) then some (Sum.inl ((t, a, e), (), o, r, IntKind.i64.wrap (n + (1 : Int)))) else some (Sum.inr ((t, a, e), (), n))
  else some (Sum.inr ((t, a, e), (), n))) := by kernel_rfl

theorem e_scRun (t : List UInt8) (a e : Int) (o : List UInt8) : F_scRun ((t, a, e), (), o) = (
  (F_scRest ((t, a, e), ())).bind fun x1 => (w_scRun_0 (x1.fst, (), o, x1.snd, (0 : Int))).bind fun x2 => (F_scTake1 (x2.fst, (), x2.snd.snd)).bind fun x3 => some x3) := by kernel_rfl


/-! ### (*horologe/scan.Scanner[string]).Until -/
noncomputable abbrev ct_scUntil : List (FuncId × Bool × SpecT) := [(92, false, s_scRest), (120, false, s_IndexByte), (119, false, s_scTake1)]
theorem cs_scUntil : AllSound Tryd.prog ct_scUntil := ⟨so_scRest, so_IndexByte, so_scTake1, trivial⟩
noncomputable def F_scUntil (x : (((List UInt8) × Int × Int) × (Unit × UInt8))) : Option (((List UInt8) × Int × Int) × ((List UInt8))) := (evalF Tryd.prog (lookT ct_scUntil) (keepT []) (loopsT []) false false Tryd.f89 (codR 0 [pS, pI, pE] [p0, pU]) 1 (codR 0 [pS, pI, pE] [pS]) x).run
noncomputable abbrev s_scUntil : SpecT := specF (codR 0 [pS, pI, pE] [p0, pU]) 1 (codR 0 [pS, pI, pE] [pS]) F_scUntil
theorem so_scUntil : SoundT Tryd.prog 89 s_scUntil := soundG (P := Tryd.prog) mixed (t := ct_scUntil) cs_scUntil (f := 89) (fn := Tryd.f89) Tryd.func89 (by kernel_rfl) (by kernel_rfl) (by kernel_rfl) (ls := []) (by kernel_rfl) (kp := keepT []) (lps := loopsT []) (bump := false) (ice := false) (A := (codR 0 [pS, pI, pE] [p0, pU])) (n := 1) (R := (codR 0 [pS, pI, pE] [pS])) fun _ => lps_nil

theorem e_scUntil (t : List UInt8) (a e : Int) (b : UInt8) : F_scUntil ((t, a, e), (), b) = (
  (F_scRest ((t, a, e), ())).bind fun x1 =>
    bif decide (Lib.indexByte x1.snd b < (0 : Int)) then (F_scTake1 (x1.fst, (), (↑(List.length x1.snd) : Int))).bind fun x2 => some x2
    else (F_scTake1 (x1.fst, (), Lib.indexByte x1.snd b)).bind fun x2 => some x2) := by kernel_rfl


/-! ### (*horologe/scan.Scanner[string]).Figures -/
noncomputable abbrev ct_scFigures : List (FuncId × Bool × SpecT) := [(121, false, s_scGoing), (92, false, s_scRest), (145, false, s_FigTake), (119, false, s_scTake1)]
theorem cs_scFigures : AllSound Tryd.prog ct_scFigures := ⟨so_scGoing, so_scRest, so_FigTake, so_scTake1, trivial⟩
noncomputable def F_scFigures (x : (((List UInt8) × Int × Int) × (Unit × Int × Int))) : Option (((List UInt8) × Int × Int) × (Int)) := (evalF Tryd.prog (lookT ct_scFigures) (keepT []) (loopsT []) false false Tryd.f122 (codR 0 [pS, pI, pE] [p0, pI, pI]) 1 (codR 0 [pS, pI, pE] [pI]) x).run
noncomputable abbrev s_scFigures : SpecT := specF (codR 0 [pS, pI, pE] [p0, pI, pI]) 1 (codR 0 [pS, pI, pE] [pI]) F_scFigures
theorem so_scFigures : SoundT Tryd.prog 122 s_scFigures := soundG (P := Tryd.prog) mixed (t := ct_scFigures) cs_scFigures (f := 122) (fn := Tryd.f122) Tryd.func122 (by kernel_rfl) (by kernel_rfl) (by kernel_rfl) (ls := []) (by kernel_rfl) (kp := keepT []) (lps := loopsT []) (bump := false) (ice := false) (A := (codR 0 [pS, pI, pE] [p0, pI, pI])) (n := 1) (R := (codR 0 [pS, pI, pE] [pI])) fun _ => lps_nil

theorem e_scFigures (t : List UInt8) (a e : Int) (l m : Int) : F_scFigures ((t, a, e), (), l, m) = (
  (F_scGoing ((t, a, e), ())).bind fun x1 =>
    bif !x1.snd then some (x1.fst, (0 : Int))
    else
      (F_scRest (x1.fst, ())).bind fun x2 =>
        (F_FigTake (x2.snd, l, m)).bind fun x3 =>
          bif decide (x3.snd.snd ≠ (0 : Int)) then some ((x2.fst.fst, x2.fst.snd.fst, x3.snd.snd), (0 : Int)) else (F_scTake1 (x2.fst, (), x3.snd.fst)).bind fun x4 => some (x4.fst, x3.fst)) := by kernel_rfl


/-! ### (*horologe/scan.Scanner[string]).Fail -/
noncomputable abbrev ct_scFail : List (FuncId × Bool × SpecT) := [(121, false, s_scGoing)]
theorem cs_scFail : AllSound Tryd.prog ct_scFail := ⟨so_scGoing, trivial⟩
noncomputable def F_scFail (x : (((List UInt8) × Int × Int) × (Unit × Int))) : Option (((List UInt8) × Int × Int) × Unit) := (evalF Tryd.prog (lookT ct_scFail) (keepT []) (loopsT []) false false Tryd.f88 (codR 0 [pS, pI, pE] [p0, pE]) 0 (codR 0 [pS, pI, pE] []) x).run
noncomputable abbrev s_scFail : SpecT := specF (codR 0 [pS, pI, pE] [p0, pE]) 0 (codR 0 [pS, pI, pE] []) F_scFail
theorem so_scFail : SoundT Tryd.prog 88 s_scFail := soundG (P := Tryd.prog) mixed (t := ct_scFail) cs_scFail (f := 88) (fn := Tryd.f88) Tryd.func88 (by kernel_rfl) (by kernel_rfl) (by kernel_rfl) (ls := []) (by kernel_rfl) (kp := keepT []) (lps := loopsT []) (bump := false) (ice := false) (A := (codR 0 [pS, pI, pE] [p0, pE])) (n := 0) (R := (codR 0 [pS, pI, pE] [])) fun _ => lps_nil

theorem e_scFail (t : List UInt8) (a e : Int) (x : Int) : F_scFail ((t, a, e), (), x) = (
  (F_scGoing ((t, a, e), ())).bind fun x1 => bif x1.snd then some ((x1.fst.fst, x1.fst.snd.fst, x), ()) else some (x1.fst, ())) := by kernel_rfl


/-! ### (*horologe/scan.Scanner[string]).Must -/
noncomputable abbrev ct_scMust : List (FuncId × Bool × SpecT) := [(183, false, s_scFold), (88, false, s_scFail)]
theorem cs_scMust : AllSound Tryd.prog ct_scMust := ⟨so_scFold, so_scFail, trivial⟩
noncomputable def F_scMust (x : (((List UInt8) × Int × Int) × (Unit × (List UInt8)))) : Option (((List UInt8) × Int × Int) × Unit) := (evalF Tryd.prog (lookT ct_scMust) (keepT []) (loopsT []) false false Tryd.f172 (codR 0 [pS, pI, pE] [p0, pS]) 0 (codR 0 [pS, pI, pE] []) x).run
noncomputable abbrev s_scMust : SpecT := specF (codR 0 [pS, pI, pE] [p0, pS]) 0 (codR 0 [pS, pI, pE] []) F_scMust
theorem so_scMust : SoundT Tryd.prog 172 s_scMust := soundG (P := Tryd.prog) mixed (t := ct_scMust) cs_scMust (f := 172) (fn := Tryd.f172) Tryd.func172 (by kernel_rfl) (by kernel_rfl) (by kernel_rfl) (ls := []) (by kernel_rfl) (kp := keepT []) (lps := loopsT []) (bump := false) (ice := false) (A := (codR 0 [pS, pI, pE] [p0, pS])) (n := 0) (R := (codR 0 [pS, pI, pE] [])) fun _ => lps_nil

theorem e_scMust (t : List UInt8) (a e : Int) (w : List UInt8) : F_scMust ((t, a, e), (), w) = (
  (F_scFold ((t, a, e), (), w)).bind fun x1 => bif !x1.snd then (F_scFail (x1.fst, (), (2 : Int))).bind fun x2 => some (x2.fst, ()) else some (x1.fst, ())) := by kernel_rfl


/-! ### (*horologe/scan.Scanner[string]).Err -/
noncomputable abbrev ct_scErr : List (FuncId × Bool × SpecT) := []
theorem cs_scErr : AllSound Tryd.prog ct_scErr := trivial
noncomputable def F_scErr (x : (((List UInt8) × Int × Int) × (Unit))) : Option (((List UInt8) × Int × Int) × (Int)) := (evalF Tryd.prog (lookT ct_scErr) (keepT []) (loopsT []) false false Tryd.f90 (codR 0 [pS, pI, pE] [p0]) 1 (codR 0 [pS, pI, pE] [pE]) x).run
noncomputable abbrev s_scErr : SpecT := specF (codR 0 [pS, pI, pE] [p0]) 1 (codR 0 [pS, pI, pE] [pE]) F_scErr
theorem so_scErr : SoundT Tryd.prog 90 s_scErr := soundG (P := Tryd.prog) mixed (t := ct_scErr) cs_scErr (f := 90) (fn := Tryd.f90) Tryd.func90 (by kernel_rfl) (by kernel_rfl) (by kernel_rfl) (ls := []) (by kernel_rfl) (kp := keepT []) (lps := loopsT []) (bump := false) (ice := false) (A := (codR 0 [pS, pI, pE] [p0])) (n := 1) (R := (codR 0 [pS, pI, pE] [pE])) fun _ => lps_nil

theorem e_scErr (t : List UInt8) (a e : Int) : F_scErr ((t, a, e), ()) = (
  some ((t, a, e), e)) := by kernel_rfl


/-! ### (*horologe/scan.Scanner[string]).End -/
noncomputable abbrev ct_scEnd : List (FuncId × Bool × SpecT) := [(90, false, s_scErr), (44, false, s_scLeft)]
theorem cs_scEnd : AllSound Tryd.prog ct_scEnd := ⟨so_scErr, so_scLeft, trivial⟩
noncomputable def F_scEnd (x : (((List UInt8) × Int × Int) × (Unit))) : Option (((List UInt8) × Int × Int) × (Int)) := (evalF Tryd.prog (lookT ct_scEnd) (keepT []) (loopsT []) false false Tryd.f46 (codR 0 [pS, pI, pE] [p0]) 1 (codR 0 [pS, pI, pE] [pE]) x).run
noncomputable abbrev s_scEnd : SpecT := specF (codR 0 [pS, pI, pE] [p0]) 1 (codR 0 [pS, pI, pE] [pE]) F_scEnd
theorem so_scEnd : SoundT Tryd.prog 46 s_scEnd := soundG (P := Tryd.prog) mixed (t := ct_scEnd) cs_scEnd (f := 46) (fn := Tryd.f46) Tryd.func46 (by kernel_rfl) (by kernel_rfl) (by kernel_rfl) (ls := []) (by kernel_rfl) (kp := keepT []) (lps := loopsT []) (bump := false) (ice := false) (A := (codR 0 [pS, pI, pE] [p0])) (n := 1) (R := (codR 0 [pS, pI, pE] [pE])) fun _ => lps_nil

theorem e_scEnd (t : List UInt8) (a e : Int) : F_scEnd ((t, a, e), ()) = (
  (F_scErr ((t, a, e), ())).bind fun x1 =>
    bif decide (x1.snd ≠ (0 : Int)) then some x1 else (F_scLeft (x1.fst, ())).bind fun x2 => bif decide ((0 : Int) < x2.snd) then some (x2.fst, (2 : Int)) else some (x2.fst, (0 : Int))) := by kernel_rfl

end Go.Sm
/- rule (checks, clocks, the reading of rules) as Lean functions. No condition. -/
set_option linter.unusedVariables false
namespace Go.Sm
open Go.Proofs
/-! ### internal/stringslite.Cut -/
noncomputable abbrev ct_sliteCut : List (FuncId × Bool × SpecT) := [(182, false, s_sliteIndex)]
theorem cs_sliteCut : AllSound Tryd.prog ct_sliteCut := ⟨so_sliteIndex, trivial⟩
noncomputable def F_sliteCut (x : ((List UInt8) × (List UInt8))) : Option ((List UInt8) × (List UInt8) × Bool) := (evalF Tryd.prog (lookT ct_sliteCut) (keepT []) (loopsT []) false false Tryd.f171 (codP [pS, pS]) 3 (codP [pS, pS, pB]) x).run
noncomputable abbrev s_sliteCut : SpecT := specF (codP [pS, pS]) 3 (codP [pS, pS, pB]) F_sliteCut
theorem so_sliteCut : SoundT Tryd.prog 171 s_sliteCut := soundG (P := Tryd.prog) mixed (t := ct_sliteCut) cs_sliteCut (f := 171) (fn := Tryd.f171) Tryd.func171 (by kernel_rfl) (by kernel_rfl) (by kernel_rfl) (ls := []) (by kernel_rfl) (kp := keepT []) (lps := loopsT []) (bump := false) (ice := false) (A := (codP [pS, pS])) (n := 3) (R := (codP [pS, pS, pB])) fun _ => lps_nil

theorem e_sliteCut (s : List UInt8) (c : UInt8) : F_sliteCut (s, [c]) = (
  bif decide ((0 : Int) ≤ Lib.indexByte s c) then
    (subI s (0 : Int) (Lib.indexByte s c)).bind fun x1 => (subI s (IntKind.i64.wrap (Lib.indexByte s c + (↑[c].length : Int))) (↑s.length : Int)).bind fun x2 => some (x1, x2, true)
  else some (s, [], false)) := by kernel_rfl


/-! ### strings.Cut -/
noncomputable abbrev ct_Cut : List (FuncId × Bool × SpecT) := [(171, false, s_sliteCut)]
theorem cs_Cut : AllSound Tryd.prog ct_Cut := ⟨so_sliteCut, trivial⟩
noncomputable def F_Cut (x : ((List UInt8) × (List UInt8))) : Option ((List UInt8) × (List UInt8) × Bool) := (evalF Tryd.prog (lookT ct_Cut) (keepT []) (loopsT []) false false Tryd.f146 (codP [pS, pS]) 3 (codP [pS, pS, pB]) x).run
noncomputable abbrev s_Cut : SpecT := specF (codP [pS, pS]) 3 (codP [pS, pS, pB]) F_Cut
theorem so_Cut : SoundT Tryd.prog 146 s_Cut := soundG (P := Tryd.prog) mixed (t := ct_Cut) cs_Cut (f := 146) (fn := Tryd.f146) Tryd.func146 (by kernel_rfl) (by kernel_rfl) (by kernel_rfl) (ls := []) (by kernel_rfl) (kp := keepT []) (lps := loopsT []) (bump := false) (ice := false) (A := (codP [pS, pS])) (n := 3) (R := (codP [pS, pS, pB])) fun _ => lps_nil

theorem e_Cut (s : List UInt8) (c : UInt8) : F_Cut (s, [c]) = (
  (F_sliteCut (s, [c])).bind fun x1 => some x1) := by kernel_rfl


/-! ### horologe/rule.in -/
noncomputable abbrev ct_ruleIn : List (FuncId × Bool × SpecT) := []
theorem cs_ruleIn : AllSound Tryd.prog ct_ruleIn := trivial
noncomputable def F_ruleIn (x : (Int × Int × Int)) : Option (Bool) := (evalF Tryd.prog (lookT ct_ruleIn) (keepT []) (loopsT []) false false Tryd.f103 (codP [pI, pI, pI]) 1 (codP [pB]) x).run
noncomputable abbrev s_ruleIn : SpecT := specF (codP [pI, pI, pI]) 1 (codP [pB]) F_ruleIn
theorem so_ruleIn : SoundT Tryd.prog 103 s_ruleIn := soundG (P := Tryd.prog) mixed (t := ct_ruleIn) cs_ruleIn (f := 103) (fn := Tryd.f103) Tryd.func103 (by kernel_rfl) (by kernel_rfl) (by kernel_rfl) (ls := []) (by kernel_rfl) (kp := keepT []) (lps := loopsT []) (bump := false) (ice := false) (A := (codP [pI, pI, pI])) (n := 1) (R := (codP [pB])) fun _ => lps_nil

theorem e_ruleIn (x l h : Int) : F_ruleIn (x, l, h) = (
  bif decide (l ≤ x) then some (decide (x ≤ h)) else some false) := by kernel_rfl


/-! ### (horologe/rule.Rule).may -/
noncomputable abbrev ct_ruleMay : List (FuncId × Bool × SpecT) := [(103, false, s_ruleIn)]
theorem cs_ruleMay : AllSound Tryd.prog ct_ruleMay := ⟨so_ruleIn, trivial⟩
noncomputable def F_ruleMay (x : ((Int × Int × Int × Int × Int))) : Option (Bool) := (evalF Tryd.prog (lookT ct_ruleMay) (keepT []) (loopsT []) false false Tryd.f104 (codP [pRule]) 1 (codP [pB]) x).run
noncomputable abbrev s_ruleMay : SpecT := specF (codP [pRule]) 1 (codP [pB]) F_ruleMay
theorem so_ruleMay : SoundT Tryd.prog 104 s_ruleMay := soundG (P := Tryd.prog) mixed (t := ct_ruleMay) cs_ruleMay (f := 104) (fn := Tryd.f104) Tryd.func104 (by kernel_rfl) (by kernel_rfl) (by kernel_rfl) (ls := []) (by kernel_rfl) (kp := keepT []) (lps := loopsT []) (bump := false) (ice := false) (A := (codP [pRule])) (n := 1) (R := (codP [pB])) fun _ => lps_nil

theorem e_ruleMay (r : Int × Int × Int × Int × Int) : F_ruleMay r = (
  bif decide (r.fst = (1 : Int)) then
    (F_ruleIn (r.snd.snd.snd.fst, (1 : Int), (365 : Int))).bind fun x1 => bif x1 then bif decide (r.snd.fst = (0 : Int)) then some (decide (r.snd.snd.fst = (0 : Int))) else some false else some false
  else
    bif decide (r.fst = (2 : Int)) then
      (F_ruleIn (r.snd.snd.snd.fst, (0 : Int), (365 : Int))).bind fun x1 => bif x1 then bif decide (r.snd.fst = (0 : Int)) then some (decide (r.snd.snd.fst = (0 : Int))) else some false else some false
    else
      (F_ruleIn (r.snd.fst, (1 : Int), (12 : Int))).bind fun x1 =>
        bif x1 then (F_ruleIn (r.snd.snd.fst, (1 : Int), (5 : Int))).bind fun x2 => bif x2 then (F_ruleIn (r.snd.snd.snd.fst, (0 : Int), (6 : Int))).bind fun x3 => some x3 else some false
        else some false) := by kernel_rfl


/-! ### horologe/rule.Check -/
noncomputable abbrev ct_ruleCheck : List (FuncId × Bool × SpecT) := [(103, false, s_ruleIn), (104, false, s_ruleMay)]
theorem cs_ruleCheck : AllSound Tryd.prog ct_ruleCheck := ⟨so_ruleIn, so_ruleMay, trivial⟩
noncomputable def F_ruleCheck (x : ((Int × Int × Int × Int × Int))) : Option (Int) := (evalF Tryd.prog (lookT ct_ruleCheck) (keepT []) (loopsT []) false false Tryd.f68 (codP [pRule]) 1 (codP [pE]) x).run
noncomputable abbrev s_ruleCheck : SpecT := specF (codP [pRule]) 1 (codP [pE]) F_ruleCheck
theorem so_ruleCheck : SoundT Tryd.prog 68 s_ruleCheck := soundG (P := Tryd.prog) mixed (t := ct_ruleCheck) cs_ruleCheck (f := 68) (fn := Tryd.f68) Tryd.func68 (by kernel_rfl) (by kernel_rfl) (by kernel_rfl) (ls := []) (by kernel_rfl) (kp := keepT []) (lps := loopsT []) (bump := false) (ice := false) (A := (codP [pRule])) (n := 1) (R := (codP [pE])) fun _ => lps_nil

theorem e_ruleCheck (r : Int × Int × Int × Int × Int) : F_ruleCheck r = (
  (F_ruleIn (r.fst, (1 : Int), (3 : Int))).bind fun x1 =>
    bif !x1 then some (11 : Int)
    else (F_ruleMay r).bind fun x2 => bif !x2 then some (1 : Int) else (F_ruleIn (r.snd.snd.snd.snd, (-604799 : Int), (604799 : Int))).bind fun x3 => bif !x3 then some (1 : Int) else some (0 : Int)) := by kernel_rfl


/-! ### horologe/rule.part -/
noncomputable abbrev ct_rulePart : List (FuncId × Bool × SpecT) := [(86, false, s_scTake), (122, false, s_scFigures)]
theorem cs_rulePart : AllSound Tryd.prog ct_rulePart := ⟨so_scTake, so_scFigures, trivial⟩
noncomputable def F_rulePart (x : (((List UInt8) × Int × Int) × (Unit))) : Option (((List UInt8) × Int × Int) × (Int × Bool)) := (evalF Tryd.prog (lookT ct_rulePart) (keepT []) (loopsT []) false false Tryd.f123 (codR 0 [pS, pI, pE] [p0]) 2 (codR 0 [pS, pI, pE] [pI, pB]) x).run
noncomputable abbrev s_rulePart : SpecT := specF (codR 0 [pS, pI, pE] [p0]) 2 (codR 0 [pS, pI, pE] [pI, pB]) F_rulePart
theorem so_rulePart : SoundT Tryd.prog 123 s_rulePart := soundG (P := Tryd.prog) mixed (t := ct_rulePart) cs_rulePart (f := 123) (fn := Tryd.f123) Tryd.func123 (by kernel_rfl) (by kernel_rfl) (by kernel_rfl) (ls := []) (by kernel_rfl) (kp := keepT []) (lps := loopsT []) (bump := false) (ice := false) (A := (codR 0 [pS, pI, pE] [p0])) (n := 2) (R := (codR 0 [pS, pI, pE] [pI, pB])) fun _ => lps_nil

theorem e_rulePart (z : (List UInt8) × Int × Int) : F_rulePart (z, ()) = (
  (F_scTake (z, (), (58 : UInt8))).bind fun x1 => bif !x1.snd then some (x1.fst, (0 : Int), false) else (F_scFigures (x1.fst, (), (2 : Int), (2 : Int))).bind fun x2 => some (x2.fst, x2.snd, true)) := by kernel_rfl


/-! ### horologe/rule.ParseClock -/
noncomputable abbrev ct_ruleParseClock : List (FuncId × Bool × SpecT) := [(103, false, s_ruleIn), (41, false, s_scNew), (86, false, s_scTake), (122, false, s_scFigures), (123, false, s_rulePart), (46, false, s_scEnd)]
theorem cs_ruleParseClock : AllSound Tryd.prog ct_ruleParseClock := ⟨so_ruleIn, so_scNew, so_scTake, so_scFigures, so_rulePart, so_scEnd, trivial⟩
noncomputable def F_ruleParseClock (x : ((List UInt8) × Int)) : Option (Int × Int) := (evalF Tryd.prog (lookT ct_ruleParseClock) (keepT []) (loopsT []) false false Tryd.f91 (codP [pS, pI]) 2 (codP [pI, pE]) x).run
noncomputable abbrev s_ruleParseClock : SpecT := specF (codP [pS, pI]) 2 (codP [pI, pE]) F_ruleParseClock
theorem so_ruleParseClock : SoundT Tryd.prog 91 s_ruleParseClock := soundG (P := Tryd.prog) mixed (t := ct_ruleParseClock) cs_ruleParseClock (f := 91) (fn := Tryd.f91) Tryd.func91 (by kernel_rfl) (by kernel_rfl) (by kernel_rfl) (ls := []) (by kernel_rfl) (kp := keepT []) (lps := loopsT []) (bump := false) (ice := false) (A := (codP [pS, pI])) (n := 2) (R := (codP [pI, pE])) fun _ => lps_nil

theorem e_ruleParseClock (s : List UInt8) (m : Int) : F_ruleParseClock (s, m) = (
  (F_ruleIn (m, (0 : Int), (999 : Int))).bind fun x1 =>
    bif !x1 then some ((0 : Int), (1 : Int))
    else
      (F_scNew s).bind fun x2 =>
        (F_scTake (x2.fst, (), (45 : UInt8))).bind fun x3 =>
          bif !x3.snd then
            (F_scTake (x3.fst, (), (43 : UInt8))).bind fun x4 =>
              (F_scFigures (x4.fst, (), (1 : Int), (3 : Int))).bind fun x5 =>
                (F_rulePart (x5.fst, ())).bind fun x6 =>
                  bif x6.snd.snd then
                    (F_rulePart (x6.fst, ())).bind fun x7 =>
                      (F_scEnd (x7.fst, ())).bind fun x8 =>
                        bif decide (x8.snd ≠ (0 : Int)) then some ((0 : Int), (2 : Int))
                        else
                          bif decide (m < x5.snd) then some ((0 : Int), (1 : Int))
                          else
                            bif decide ((60 : Int) ≤ x6.snd.fst) then some ((0 : Int), (1 : Int))
                            else
                              bif decide ((60 : Int) ≤ x7.snd.fst) then some ((0 : Int), (1 : Int))
                              else
                                bif x3.snd then
                                  some
                                    (IntKind.i64.wrap
                                        ((0 : Int) - IntKind.i64.wrap (IntKind.i64.wrap (IntKind.i64.wrap (x5.snd * (3600 : Int)) + IntKind.i64.wrap (x6.snd.fst * (60 : Int))) + x7.snd.fst)),
                                      (0 : Int))
                                else some (IntKind.i64.wrap (IntKind.i64.wrap (IntKind.i64.wrap (x5.snd * (3600 : Int)) + IntKind.i64.wrap (x6.snd.fst * (60 : Int))) + x7.snd.fst), (0 : Int))
                  else
                    (F_scEnd (x6.fst, ())).bind fun x7 =>
                      bif decide (x7.snd ≠ (0 : Int)) then some ((0 : Int), (2 : Int))
                      else
                        bif decide (m < x5.snd) then some ((0 : Int), (1 : Int))
                        else
                          bif decide ((60 : Int) ≤ x6.snd.fst) then some ((0 : Int), (1 : Int))
                          else
                            bif x3.snd then
                              some
                                (IntKind.i64.wrap ((0 : Int) - IntKind.i64.wrap (IntKind.i64.wrap (IntKind.i64.wrap (x5.snd * (3600 : Int)) + IntKind.i64.wrap (x6.snd.fst * (60 : Int))) + (0 : Int))),
                                  (0 : Int))
                            else some (IntKind.i64.wrap (IntKind.i64.wrap (IntKind.i64.wrap (x5.snd * (3600 : Int)) + IntKind.i64.wrap (x6.snd.fst * (60 : Int))) + (0 : Int)), (0 : Int))
          else
            (F_scFigures (x3.fst, (), (1 : Int), (3 : Int))).bind fun x4 =>
              (F_rulePart (x4.fst, ())).bind fun x5 =>
                bif x5.snd.snd then
                  (F_rulePart (x5.fst, ())).bind fun x6 =>
                    (F_scEnd (x6.fst, ())).bind fun x7 =>
                      bif decide (x7.snd ≠ (0 : Int)) then some ((0 : Int), (2 : Int))
                      else
                        bif decide (m < x4.snd) then some ((0 : Int), (1 : Int))
                        else
                          bif decide ((60 : Int) ≤ x5.snd.fst) then some ((0 : Int), (1 : Int))
                          else
                            bif decide ((60 : Int) ≤ x6.snd.fst) then some ((0 : Int), (1 : Int))
                            else
                              bif x3.snd then
                                some
                                  (IntKind.i64.wrap
                                      ((0 : Int) - IntKind.i64.wrap (IntKind.i64.wrap (IntKind.i64.wrap (x4.snd * (3600 : Int)) + IntKind.i64.wrap (x5.snd.fst * (60 : Int))) + x6.snd.fst)),
                                    (0 : Int))
                              else some (IntKind.i64.wrap (IntKind.i64.wrap (IntKind.i64.wrap (x4.snd * (3600 : Int)) + IntKind.i64.wrap (x5.snd.fst * (60 : Int))) + x6.snd.fst), (0 : Int))
                else
                  (F_scEnd (x5.fst, ())).bind fun x6 =>
                    bif decide (x6.snd ≠ (0 : Int)) then some ((0 : Int), (2 : Int))
                    else
                      bif decide (m < x4.snd) then some ((0 : Int), (1 : Int))
                      else
                        bif decide ((60 : Int) ≤ x5.snd.fst) then some ((0 : Int), (1 : Int))
                        else
                          bif x3.snd then
                            some
                              (IntKind.i64.wrap ((0 : Int) - IntKind.i64.wrap (IntKind.i64.wrap (IntKind.i64.wrap (x4.snd * (3600 : Int)) + IntKind.i64.wrap (x5.snd.fst * (60 : Int))) + (0 : Int))),
                                (0 : Int))
                          else some (IntKind.i64.wrap (IntKind.i64.wrap (IntKind.i64.wrap (x4.snd * (3600 : Int)) + IntKind.i64.wrap (x5.snd.fst * (60 : Int))) + (0 : Int)), (0 : Int))) := by kernel_rfl


/-! ### horologe/rule.weekly -/
noncomputable abbrev ct_ruleWeekly : List (FuncId × Bool × SpecT) := [(122, false, s_scFigures), (172, false, s_scMust)]
theorem cs_ruleWeekly : AllSound Tryd.prog ct_ruleWeekly := ⟨so_scFigures, so_scMust, trivial⟩
noncomputable def F_ruleWeekly (x : (((List UInt8) × Int × Int) × (Unit))) : Option (((List UInt8) × Int × Int) × ((Int × Int × Int × Int × Int))) := (evalF Tryd.prog (lookT ct_ruleWeekly) (keepT []) (loopsT []) false false Tryd.f147 (codR 0 [pS, pI, pE] [p0]) 1 (codR 0 [pS, pI, pE] [pRule]) x).run
noncomputable abbrev s_ruleWeekly : SpecT := specF (codR 0 [pS, pI, pE] [p0]) 1 (codR 0 [pS, pI, pE] [pRule]) F_ruleWeekly
theorem so_ruleWeekly : SoundT Tryd.prog 147 s_ruleWeekly := soundG (P := Tryd.prog) mixed (t := ct_ruleWeekly) cs_ruleWeekly (f := 147) (fn := Tryd.f147) Tryd.func147 (by kernel_rfl) (by kernel_rfl) (by kernel_rfl) (ls := []) (by kernel_rfl) (kp := keepT []) (lps := loopsT []) (bump := false) (ice := false) (A := (codR 0 [pS, pI, pE] [p0])) (n := 1) (R := (codR 0 [pS, pI, pE] [pRule])) fun _ => lps_nil

theorem e_ruleWeekly (z : (List UInt8) × Int × Int) : F_ruleWeekly (z, ()) = (
  (F_scFigures (z, (), (1 : Int), (2 : Int))).bind fun x1 =>
    (F_scMust (x1.fst, (), [(46 : UInt8)])).bind fun x2 =>
      (F_scFigures (x2.fst, (), (1 : Int), (1 : Int))).bind fun x3 =>
        (F_scMust (x3.fst, (), [(46 : UInt8)])).bind fun x4 => (F_scFigures (x4.fst, (), (1 : Int), (1 : Int))).bind fun x5 => some (x5.fst, (3 : Int), x1.snd, x3.snd, x5.snd, (0 : Int))) := by kernel_rfl


/-! ### horologe/rule.Parse -/
noncomputable abbrev ct_ruleParse : List (FuncId × Bool × SpecT) := [(146, false, s_Cut), (41, false, s_scNew), (86, false, s_scTake), (122, false, s_scFigures), (147, false, s_ruleWeekly), (46, false, s_scEnd), (91, false, s_ruleParseClock), (68, false, s_ruleCheck)]
theorem cs_ruleParse : AllSound Tryd.prog ct_ruleParse := ⟨so_Cut, so_scNew, so_scTake, so_scFigures, so_ruleWeekly, so_scEnd, so_ruleParseClock, so_ruleCheck, trivial⟩
noncomputable def F_ruleParse (x : ((List UInt8))) : Option ((Int × Int × Int × Int × Int) × Int) := (evalF Tryd.prog (lookT ct_ruleParse) (keepT []) (loopsT []) false false Tryd.f124 (codP [pS]) 2 (codP [pRule, pE]) x).run
noncomputable abbrev s_ruleParse : SpecT := specF (codP [pS]) 2 (codP [pRule, pE]) F_ruleParse
theorem so_ruleParse : SoundT Tryd.prog 124 s_ruleParse := soundG (P := Tryd.prog) mixed (t := ct_ruleParse) cs_ruleParse (f := 124) (fn := Tryd.f124) Tryd.func124 (by kernel_rfl) (by kernel_rfl) (by kernel_rfl) (ls := []) (by kernel_rfl) (kp := keepT []) (lps := loopsT []) (bump := false) (ice := false) (A := (codP [pS])) (n := 2) (R := (codP [pRule, pE])) fun _ => lps_nil

theorem e_ruleParse (s : List UInt8) : F_ruleParse s = (
  (F_Cut (s, [(47 : UInt8)])).bind fun x1 =>
    (F_scNew x1.fst).bind fun x2 =>
      (F_scTake (x2.fst, (), (74 : UInt8))).bind fun x3 =>
        bif x3.snd then
          (F_scFigures (x3.fst, (), (1 : Int), (3 : Int))).bind fun x4 =>
            (F_scEnd (x4.fst, ())).bind fun x5 =>
              bif decide (x5.snd ≠ (0 : Int)) then some (((0 : Int), (0 : Int), (0 : Int), (0 : Int), (0 : Int)), (2 : Int))
              else
                bif x1.snd.snd then
                  (F_ruleParseClock (x1.snd.fst, (167 : Int))).bind fun x6 =>
                    bif decide (x6.snd ≠ (0 : Int)) then some (((0 : Int), (0 : Int), (0 : Int), (0 : Int), (0 : Int)), x6.snd)
                    else
                      (F_ruleCheck ((1 : Int), (0 : Int), (0 : Int), x4.snd, x6.fst)).bind fun x7 =>
                        bif decide (x7 ≠ (0 : Int)) then some (((0 : Int), (0 : Int), (0 : Int), (0 : Int), (0 : Int)), x7) else some (((1 : Int), (0 : Int), (0 : Int), x4.snd, x6.fst), (0 : Int))
                else
                  (F_ruleCheck ((1 : Int), (0 : Int), (0 : Int), x4.snd, (7200 : Int))).bind fun x6 =>
                    bif decide (x6 ≠ (0 : Int)) then some (((0 : Int), (0 : Int), (0 : Int), (0 : Int), (0 : Int)), x6) else some (((1 : Int), (0 : Int), (0 : Int), x4.snd, (7200 : Int)), (0 : Int))
        else
          (F_scTake (x3.fst, (), (77 : UInt8))).bind fun x4 =>
            bif x4.snd then
              (F_ruleWeekly (x4.fst, ())).bind fun x5 =>
                (F_scEnd (x5.fst, ())).bind fun x6 =>
                  bif decide (x6.snd ≠ (0 : Int)) then some (((0 : Int), (0 : Int), (0 : Int), (0 : Int), (0 : Int)), (2 : Int))
                  else
                    bif x1.snd.snd then
                      (F_ruleParseClock (x1.snd.fst, (167 : Int))).bind fun x7 =>
                        bif decide (x7.snd ≠ (0 : Int)) then some (((0 : Int), (0 : Int), (0 : Int), (0 : Int), (0 : Int)), x7.snd)
                        else
                          (F_ruleCheck (x5.snd.fst, x5.snd.snd.fst, x5.snd.snd.snd.fst, x5.snd.snd.snd.snd.fst, x7.fst)).bind fun x8 =>
                            bif decide (x8 ≠ (0 : Int)) then some (((0 : Int), (0 : Int), (0 : Int), (0 : Int), (0 : Int)), x8)
                            else some ((x5.snd.fst, x5.snd.snd.fst, x5.snd.snd.snd.fst, x5.snd.snd.snd.snd.fst, x7.fst), (0 : Int))
                    else
                      (F_ruleCheck (x5.snd.fst, x5.snd.snd.fst, x5.snd.snd.snd.fst, x5.snd.snd.snd.snd.fst, (7200 : Int))).bind fun x7 =>
                        bif decide (x7 ≠ (0 : Int)) then some (((0 : Int), (0 : Int), (0 : Int), (0 : Int), (0 : Int)), x7)
                        else some ((x5.snd.fst, x5.snd.snd.fst, x5.snd.snd.snd.fst, x5.snd.snd.snd.snd.fst, (7200 : Int)), (0 : Int))
            else
              (F_scFigures (x4.fst, (), (1 : Int), (3 : Int))).bind fun x5 =>
                (F_scEnd (x5.fst, ())).bind fun x6 =>
                  bif decide (x6.snd ≠ (0 : Int)) then some (((0 : Int), (0 : Int), (0 : Int), (0 : Int), (0 : Int)), (2 : Int))
                  else
                    bif x1.snd.snd then
                      (F_ruleParseClock (x1.snd.fst, (167 : Int))).bind fun x7 =>
                        bif decide (x7.snd ≠ (0 : Int)) then some (((0 : Int), (0 : Int), (0 : Int), (0 : Int), (0 : Int)), x7.snd)
                        else
                          (F_ruleCheck ((2 : Int), (0 : Int), (0 : Int), x5.snd, x7.fst)).bind fun x8 =>
                            bif decide (x8 ≠ (0 : Int)) then some (((0 : Int), (0 : Int), (0 : Int), (0 : Int), (0 : Int)), x8) else some (((2 : Int), (0 : Int), (0 : Int), x5.snd, x7.fst), (0 : Int))
                    else
                      (F_ruleCheck ((2 : Int), (0 : Int), (0 : Int), x5.snd, (7200 : Int))).bind fun x7 =>
                        bif decide (x7 ≠ (0 : Int)) then some (((0 : Int), (0 : Int), (0 : Int), (0 : Int), (0 : Int)), x7) else some (((2 : Int), (0 : Int), (0 : Int), x5.snd, (7200 : Int)), (0 : Int))) := by kernel_rfl

end Go.Sm
/- posix: names, checks, the reading of plans. No condition. -/
set_option linter.unusedVariables false
namespace Go.Sm
open Go.Proofs

/-! ### horologe/posix.cutLeft -/
noncomputable abbrev ct_cutLeft : List (FuncId × Bool × SpecT) := []
theorem cs_cutLeft : AllSound Tryd.prog ct_cutLeft := trivial
-- loop 0 (key 2) exit 0: [0, 1, 11]
-- loop 0 (key 2) exit 2: [4]
-- loop 0 (key 2) exit 3: []
-- loop 1 (key 6) exit 0: [0, 1, 5, 6, 7, 11, 17]
-- loop 1 (key 6) exit 5: [0, 1, 5, 7, 11]
abbrev kp_cutLeft : Keep := keepT [(2, 0, [(0, none), (1, none), (11, none)]), (2, 2, [(4, none)]), (2, 3, []), (6, 0, [(0, none), (1, none), (5, none), (6, none), (7, none), (11, none), (17, none)]), (6, 5, [(0, none), (1, none), (5, none), (7, none), (11, none)])]
noncomputable abbrev b_cutLeft_0 : Code := loopAt Tryd.f113 0
noncomputable abbrev b_cutLeft_1 : Code := loopAt Tryd.f113 1
noncomputable def sp_cutLeft_1 (x : ((List UInt8) × (List UInt8) × Int × Int × Bool × (List UInt8 × Nat) × (List UInt8 × Nat))) : Option (((List UInt8) × (List UInt8) × Int × Int × Bool × (List UInt8 × Nat) × (List UInt8 × Nat)) ⊕ ((List UInt8) × (List UInt8) × Int × Bool × (List UInt8 × Nat))) := (stepL Tryd.prog (lookT ct_cutLeft) kp_cutLeft (loopsT []) 0 false b_cutLeft_1 (codP [pS, pS, pI, pR, pB, .it, .it]) (exO (.ext 2) (codP [pS, pS, pI, pB, .it])) x).run
noncomputable def w_cutLeft_1 : ((List UInt8) × (List UInt8) × Int × Int × Bool × (List UInt8 × Nat) × (List UInt8 × Nat)) → Option ((List UInt8) × (List UInt8) × Int × Bool × (List UInt8 × Nat)) := whileO sp_cutLeft_1
theorem ew_cutLeft_1 (x : ((List UInt8) × (List UInt8) × Int × Int × Bool × (List UInt8 × Nat) × (List UInt8 × Nat))) : w_cutLeft_1 x = (sp_cutLeft_1 x).bind (Sum.elim w_cutLeft_1 some) := whileO_eq _ _
noncomputable abbrev l_cutLeft_1 : LT := ltF (codP [pS, pS, pI, pR, pB, .it, .it]) (exO (.ext 2) (codP [pS, pS, pI, pB, .it])) w_cutLeft_1
theorem lo_cutLeft_1 : LoopOk Tryd.prog Tryd.f113.ntmps kp_cutLeft 0 false b_cutLeft_1 l_cutLeft_1 := loopG mixed cs_cutLeft (lps := loopsT []) (by kernel_rfl) (ls := []) (by kernel_rfl) lps_nil
noncomputable def sp_cutLeft_0 (x : ((List UInt8) × (List UInt8) × (List UInt8 × Nat))) : Option (((List UInt8) × (List UInt8) × (List UInt8 × Nat)) ⊕ (((List UInt8)) ⊕ Unit)) := (stepL Tryd.prog (lookT ct_cutLeft) kp_cutLeft (loopsT [(6, l_cutLeft_1)]) 0 false b_cutLeft_0 (codP [pS, pS, .it]) (exS (exO .ret (codP [pS])) (exO (.ext 0) (codP []))) x).run
noncomputable def w_cutLeft_0 : ((List UInt8) × (List UInt8) × (List UInt8 × Nat)) → Option (((List UInt8)) ⊕ Unit) := whileO sp_cutLeft_0
theorem ew_cutLeft_0 (x : ((List UInt8) × (List UInt8) × (List UInt8 × Nat))) : w_cutLeft_0 x = (sp_cutLeft_0 x).bind (Sum.elim w_cutLeft_0 some) := whileO_eq _ _
noncomputable abbrev l_cutLeft_0 : LT := ltF (codP [pS, pS, .it]) (exS (exO .ret (codP [pS])) (exO (.ext 0) (codP []))) w_cutLeft_0
theorem lo_cutLeft_0 : LoopOk Tryd.prog Tryd.f113.ntmps kp_cutLeft 0 false b_cutLeft_0 l_cutLeft_0 := loopG mixed cs_cutLeft (lps := loopsT [(6, l_cutLeft_1)]) (by kernel_rfl) (ls := [b_cutLeft_1]) (by kernel_rfl) (lps_cons l_cutLeft_1 (by kernel_rfl) lo_cutLeft_1 lps_nil)
noncomputable def F_cutLeft (x : ((List UInt8) × (List UInt8))) : Option ((List UInt8)) := (evalF Tryd.prog (lookT ct_cutLeft) (kp_cutLeft) (loopsT [(2, l_cutLeft_0), (6, l_cutLeft_1)]) false false Tryd.f113 (codP [pS, pS]) 1 (codP [pS]) x).run
noncomputable abbrev s_cutLeft : SpecT := specF (codP [pS, pS]) 1 (codP [pS]) F_cutLeft
theorem so_cutLeft : SoundT Tryd.prog 113 s_cutLeft := soundG (P := Tryd.prog) mixed (t := ct_cutLeft) cs_cutLeft (f := 113) (fn := Tryd.f113) Tryd.func113 (by kernel_rfl) (by kernel_rfl) (by kernel_rfl) (ls := [b_cutLeft_0, b_cutLeft_1]) (by kernel_rfl) (kp := kp_cutLeft) (lps := loopsT [(2, l_cutLeft_0), (6, l_cutLeft_1)]) (bump := false) (ice := false) (A := (codP [pS, pS])) (n := 1) (R := (codP [pS])) fun _ => (lps_cons l_cutLeft_0 (by kernel_rfl) lo_cutLeft_0 (lps_cons l_cutLeft_1 (by kernel_rfl) lo_cutLeft_1 lps_nil))

theorem es_cutLeft_0 (s t r : List UInt8) (p : Nat) : sp_cutLeft_0 (s, t, (r, p)) = (
  bif decide (p < r.length) then
    (w_cutLeft_1 (s, t, (↑p : Int), (↑(Utf8.decode { data := r.toArray } p).fst : Int), false, (r, p + (Utf8.decode { data := r.toArray } p).snd), t, (0 : Nat))).bind fun x1 =>
      bif !x1.snd.snd.snd.fst then (subI x1.fst x1.snd.snd.fst (↑(List.length x1.fst) : Int)).bind fun x2 => some (Sum.inr (Sum.inl x2)) else some (Sum.inl (x1.fst, x1.snd.fst, x1.snd.snd.snd.snd))
  else some (Sum.inr (Sum.inr ()))) := by kernel_rfl

theorem es_cutLeft_1 (s t : List UInt8) (i c : Int) (b : Bool) (r u : List UInt8) (p q : Nat) : sp_cutLeft_1 (s, t, i, c, b, (r, p), (u, q)) = (
  bif decide (q < u.length) then
    bif b then some (Sum.inl (s, t, i, c, true, (r, p), u, q + (Utf8.decode { data := u.toArray } q).snd))
    else some (Sum.inl (s, t, i, c, decide (c = (↑(Utf8.decode { data := u.toArray } q).fst : Int)), (r, p), u, q + (Utf8.decode { data := u.toArray } q).snd))
  else some (Sum.inr (s, t, i, b, r, p))) := by kernel_rfl

theorem e_cutLeft (s t : List UInt8) : F_cutLeft (s, t) = (
  (w_cutLeft_0 (s, t, s, (0 : Nat))).bind fun x1 => Sum.elim (fun x2 => some x2) (fun x2 => some []) x1) := by kernel_rfl


/-! ### horologe/posix.cutRight -/
noncomputable abbrev ct_cutRight : List (FuncId × Bool × SpecT) := [(138, false, s_DecodeLast)]
theorem cs_cutRight : AllSound Tryd.prog ct_cutRight := ⟨so_DecodeLast, trivial⟩
-- loop 0 (key 1) exit 0: [0, 1]
-- loop 0 (key 1) exit 2: [4]
-- loop 0 (key 1) exit 3: [0]
-- loop 1 (key 5) exit 0: [0, 1, 5, 6, 7, 19]
-- loop 1 (key 5) exit 5: [0, 1, 6, 7]
abbrev kp_cutRight : Keep := keepT [(1, 0, [(0, none), (1, none)]), (1, 2, [(4, none)]), (1, 3, [(0, none)]), (5, 0, [(0, none), (1, none), (5, none), (6, none), (7, none), (19, none)]), (5, 5, [(0, none), (1, none), (6, none), (7, none)])]
noncomputable abbrev b_cutRight_0 : Code := loopAt Tryd.f112 0
noncomputable abbrev b_cutRight_1 : Code := loopAt Tryd.f112 1
noncomputable def sp_cutRight_1 (x : ((List UInt8) × (List UInt8) × Int × Int × Bool × (List UInt8 × Nat))) : Option (((List UInt8) × (List UInt8) × Int × Int × Bool × (List UInt8 × Nat)) ⊕ ((List UInt8) × (List UInt8) × Int × Bool)) := (stepL Tryd.prog (lookT ct_cutRight) kp_cutRight (loopsT []) 0 false b_cutRight_1 (codP [pS, pS, pR, pI, pB, .it]) (exO (.ext 2) (codP [pS, pS, pI, pB])) x).run
noncomputable def w_cutRight_1 : ((List UInt8) × (List UInt8) × Int × Int × Bool × (List UInt8 × Nat)) → Option ((List UInt8) × (List UInt8) × Int × Bool) := whileO sp_cutRight_1
theorem ew_cutRight_1 (x : ((List UInt8) × (List UInt8) × Int × Int × Bool × (List UInt8 × Nat))) : w_cutRight_1 x = (sp_cutRight_1 x).bind (Sum.elim w_cutRight_1 some) := whileO_eq _ _
noncomputable abbrev l_cutRight_1 : LT := ltF (codP [pS, pS, pR, pI, pB, .it]) (exO (.ext 2) (codP [pS, pS, pI, pB])) w_cutRight_1
theorem lo_cutRight_1 : LoopOk Tryd.prog Tryd.f112.ntmps kp_cutRight 0 false b_cutRight_1 l_cutRight_1 := loopG mixed cs_cutRight (lps := loopsT []) (by kernel_rfl) (ls := []) (by kernel_rfl) lps_nil
noncomputable def sp_cutRight_0 (x : ((List UInt8) × (List UInt8))) : Option (((List UInt8) × (List UInt8)) ⊕ (((List UInt8)) ⊕ ((List UInt8)))) := (stepL Tryd.prog (lookT ct_cutRight) kp_cutRight (loopsT [(5, l_cutRight_1)]) 0 false b_cutRight_0 (codP [pS, pS]) (exS (exO .ret (codP [pS])) (exO (.ext 0) (codP [pS]))) x).run
noncomputable def w_cutRight_0 : ((List UInt8) × (List UInt8)) → Option (((List UInt8)) ⊕ ((List UInt8))) := whileO sp_cutRight_0
theorem ew_cutRight_0 (x : ((List UInt8) × (List UInt8))) : w_cutRight_0 x = (sp_cutRight_0 x).bind (Sum.elim w_cutRight_0 some) := whileO_eq _ _
noncomputable abbrev l_cutRight_0 : LT := ltF (codP [pS, pS]) (exS (exO .ret (codP [pS])) (exO (.ext 0) (codP [pS]))) w_cutRight_0
theorem lo_cutRight_0 : LoopOk Tryd.prog Tryd.f112.ntmps kp_cutRight 0 false b_cutRight_0 l_cutRight_0 := loopG mixed cs_cutRight (lps := loopsT [(5, l_cutRight_1)]) (by kernel_rfl) (ls := [b_cutRight_1]) (by kernel_rfl) (lps_cons l_cutRight_1 (by kernel_rfl) lo_cutRight_1 lps_nil)
noncomputable def F_cutRight (x : ((List UInt8) × (List UInt8))) : Option ((List UInt8)) := (evalF Tryd.prog (lookT ct_cutRight) (kp_cutRight) (loopsT [(1, l_cutRight_0), (5, l_cutRight_1)]) false false Tryd.f112 (codP [pS, pS]) 1 (codP [pS]) x).run
noncomputable abbrev s_cutRight : SpecT := specF (codP [pS, pS]) 1 (codP [pS]) F_cutRight
theorem so_cutRight : SoundT Tryd.prog 112 s_cutRight := soundG (P := Tryd.prog) mixed (t := ct_cutRight) cs_cutRight (f := 112) (fn := Tryd.f112) Tryd.func112 (by kernel_rfl) (by kernel_rfl) (by kernel_rfl) (ls := [b_cutRight_0, b_cutRight_1]) (by kernel_rfl) (kp := kp_cutRight) (lps := loopsT [(1, l_cutRight_0), (5, l_cutRight_1)]) (bump := false) (ice := false) (A := (codP [pS, pS])) (n := 1) (R := (codP [pS])) fun _ => (lps_cons l_cutRight_0 (by kernel_rfl) lo_cutRight_0 (lps_cons l_cutRight_1 (by kernel_rfl) lo_cutRight_1 lps_nil))

theorem es_cutRight_0 (s t : List UInt8) : sp_cutRight_0 (s, t) = (
  bif decide ((0 : Int) < (↑s.length : Int)) then
    bif decide (s.length ≤ (9223372036854775807 : Nat)) then
      (w_cutRight_1 (s, t, (↑(Lib.decodeLastL s).fst : Int), (↑(Lib.decodeLastL s).snd : Int), false, t, (0 : Nat))).bind fun x1 =>
        bif !x1.snd.snd.snd then some (Sum.inr (Sum.inl x1.fst))
        else (subI x1.fst (0 : Int) (IntKind.i64.wrap ((↑(List.length x1.fst) : Int) - x1.snd.snd.fst))).bind fun x2 => some (Sum.inl (x2, x1.snd.fst))
    else none
  else some (Sum.inr (Sum.inr s))) := by kernel_rfl

theorem es_cutRight_1 (s t : List UInt8) (c n : Int) (b : Bool) (u : List UInt8) (q : Nat) : sp_cutRight_1 (s, t, c, n, b, (u, q)) = (
  bif decide (q < u.length) then
    bif b then some (Sum.inl (s, t, c, n, true, u, q + (Utf8.decode { data := u.toArray } q).snd))
    else some (Sum.inl (s, t, c, n, decide (c = (↑(Utf8.decode { data := u.toArray } q).fst : Int)), u, q + (Utf8.decode { data := u.toArray } q).snd))
  else some (Sum.inr (s, t, n, b))) := by kernel_rfl

theorem e_cutRight (s t : List UInt8) : F_cutRight (s, t) = (
  (w_cutRight_0 (s, t)).bind fun x1 => Sum.elim (fun x2 => some x2) (fun x2 => some x2) x1) := by kernel_rfl


/-! ### horologe/posix.of -/
noncomputable abbrev ct_pxOf : List (FuncId × Bool × SpecT) := [(113, false, s_cutLeft), (112, false, s_cutRight)]
theorem cs_pxOf : AllSound Tryd.prog ct_pxOf := ⟨so_cutLeft, so_cutRight, trivial⟩
noncomputable def F_pxOf (x : ((List UInt8) × (List UInt8))) : Option (Bool) := (evalF Tryd.prog (lookT ct_pxOf) (keepT []) (loopsT []) false false Tryd.f78 (codP [pS, pS]) 1 (codP [pB]) x).run
noncomputable abbrev s_pxOf : SpecT := specF (codP [pS, pS]) 1 (codP [pB]) F_pxOf
theorem so_pxOf : SoundT Tryd.prog 78 s_pxOf := soundG (P := Tryd.prog) mixed (t := ct_pxOf) cs_pxOf (f := 78) (fn := Tryd.f78) Tryd.func78 (by kernel_rfl) (by kernel_rfl) (by kernel_rfl) (ls := []) (by kernel_rfl) (kp := keepT []) (lps := loopsT []) (bump := false) (ice := false) (A := (codP [pS, pS])) (n := 1) (R := (codP [pB])) fun _ => lps_nil

theorem e_pxOf (s t : List UInt8) : F_pxOf (s, t) = (
  (F_cutLeft (s, t)).bind fun x1 => (F_cutRight (x1, t)).bind fun x2 => some (decide (x2 = []))) := by kernel_rfl


/-! ### horologe/posix.Name -/
noncomputable abbrev ct_pxName : List (FuncId × Bool × SpecT) := [(78, false, s_pxOf)]
theorem cs_pxName : AllSound Tryd.prog ct_pxName := ⟨so_pxOf, trivial⟩
noncomputable def F_pxName (x : ((List UInt8))) : Option (Bool) := (evalF Tryd.prog (lookT ct_pxName) (keepT []) (loopsT []) false false Tryd.f34 (codP [pS]) 1 (codP [pB]) x).run
noncomputable abbrev s_pxName : SpecT := specF (codP [pS]) 1 (codP [pB]) F_pxName
theorem so_pxName : SoundT Tryd.prog 34 s_pxName := soundG (P := Tryd.prog) mixed (t := ct_pxName) cs_pxName (f := 34) (fn := Tryd.f34) Tryd.func34 (by kernel_rfl) (by kernel_rfl) (by kernel_rfl) (ls := []) (by kernel_rfl) (kp := keepT []) (lps := loopsT []) (bump := false) (ice := false) (A := (codP [pS])) (n := 1) (R := (codP [pB])) fun _ => lps_nil

theorem e_pxName (s : List UInt8) : F_pxName s = (
  bif decide ((3 : Int) ≤ (↑s.length : Int)) then
    bif decide ((↑s.length : Int) ≤ (16 : Int)) then
      (F_pxOf
            (s,
              [(65 : UInt8), (66 : UInt8), (67 : UInt8), (68 : UInt8), (69 : UInt8), (70 : UInt8), (71 : UInt8), (72 : UInt8), (73 : UInt8), (74 : UInt8), (75 : UInt8), (76 : UInt8), (77 : UInt8),
                (78 : UInt8), (79 : UInt8), (80 : UInt8), (81 : UInt8), (82 : UInt8), (83 : UInt8), (84 : UInt8), (85 : UInt8), (86 : UInt8), (87 : UInt8), (88 : UInt8), (89 : UInt8), (90 : UInt8),
                (97 : UInt8), (98 : UInt8), (99 : UInt8), (100 : UInt8), (101 : UInt8), (102 : UInt8), (103 : UInt8), (104 : UInt8), (105 : UInt8), (106 : UInt8), (107 : UInt8), (108 : UInt8),
                (109 : UInt8), (110 : UInt8), (111 : UInt8), (112 : UInt8), (113 : UInt8), (114 : UInt8), (115 : UInt8), (116 : UInt8), (117 : UInt8), (118 : UInt8), (119 : UInt8), (120 : UInt8),
                (121 : UInt8), (122 : UInt8), (48 : UInt8), (49 : UInt8), (50 : UInt8), (51 : UInt8), (52 : UInt8), (53 : UInt8), (54 : UInt8), (55 : UInt8), (56 : UInt8), (57 : UInt8), (43 : UInt8),
                (45 : UInt8)])).bind
        fun x1 => some x1
    else some false
  else some false) := by kernel_rfl


/-! ### horologe/posix.Changes -/
noncomputable abbrev ct_pxChanges : List (FuncId × Bool × SpecT) := []
theorem cs_pxChanges : AllSound Tryd.prog ct_pxChanges := trivial
noncomputable def F_pxChanges (x : ((List UInt8 × List UInt8 × Int × Int × (Int × Int × Int × Int × Int) × (Int × Int × Int × Int × Int)))) : Option (Bool) := (evalF Tryd.prog (lookT ct_pxChanges) (keepT []) (loopsT []) false false Tryd.f33 (codP [pPlan]) 1 (codP [pB]) x).run
noncomputable abbrev s_pxChanges : SpecT := specF (codP [pPlan]) 1 (codP [pB]) F_pxChanges
theorem so_pxChanges : SoundT Tryd.prog 33 s_pxChanges := soundG (P := Tryd.prog) mixed (t := ct_pxChanges) cs_pxChanges (f := 33) (fn := Tryd.f33) Tryd.func33 (by kernel_rfl) (by kernel_rfl) (by kernel_rfl) (ls := []) (by kernel_rfl) (kp := keepT []) (lps := loopsT []) (bump := false) (ice := false) (A := (codP [pPlan])) (n := 1) (R := (codP [pB])) fun _ => lps_nil

theorem e_pxChanges (p : List UInt8 × List UInt8 × Int × Int × (Int × Int × Int × Int × Int) × (Int × Int × Int × Int × Int)) : F_pxChanges p = (
  some (decide (p.snd.fst ≠ []))) := by kernel_rfl


/-! ### horologe/posix.shifts -/
noncomputable abbrev ct_pxShifts : List (FuncId × Bool × SpecT) := []
theorem cs_pxShifts : AllSound Tryd.prog ct_pxShifts := trivial
noncomputable def F_pxShifts (x : (Int)) : Option (Bool) := (evalF Tryd.prog (lookT ct_pxShifts) (keepT []) (loopsT []) false false Tryd.f67 (codP [pI]) 1 (codP [pB]) x).run
noncomputable abbrev s_pxShifts : SpecT := specF (codP [pI]) 1 (codP [pB]) F_pxShifts
theorem so_pxShifts : SoundT Tryd.prog 67 s_pxShifts := soundG (P := Tryd.prog) mixed (t := ct_pxShifts) cs_pxShifts (f := 67) (fn := Tryd.f67) Tryd.func67 (by kernel_rfl) (by kernel_rfl) (by kernel_rfl) (ls := []) (by kernel_rfl) (kp := keepT []) (lps := loopsT []) (bump := false) (ice := false) (A := (codP [pI])) (n := 1) (R := (codP [pB])) fun _ => lps_nil

theorem e_pxShifts (o : Int) : F_pxShifts o = (
  bif decide ((-89999 : Int) ≤ o) then some (decide (o ≤ (89999 : Int))) else some false) := by kernel_rfl


/-! ### (horologe/posix.Plan).idle -/
noncomputable abbrev ct_pxIdle : List (FuncId × Bool × SpecT) := []
theorem cs_pxIdle : AllSound Tryd.prog ct_pxIdle := trivial
noncomputable def F_pxIdle (x : ((List UInt8 × List UInt8 × Int × Int × (Int × Int × Int × Int × Int) × (Int × Int × Int × Int × Int)))) : Option (Bool) := (evalF Tryd.prog (lookT ct_pxIdle) (keepT []) (loopsT []) false false Tryd.f66 (codP [pPlan]) 1 (codP [pB]) x).run
noncomputable abbrev s_pxIdle : SpecT := specF (codP [pPlan]) 1 (codP [pB]) F_pxIdle
theorem so_pxIdle : SoundT Tryd.prog 66 s_pxIdle := soundG (P := Tryd.prog) mixed (t := ct_pxIdle) cs_pxIdle (f := 66) (fn := Tryd.f66) Tryd.func66 (by kernel_rfl) (by kernel_rfl) (by kernel_rfl) (ls := []) (by kernel_rfl) (kp := keepT []) (lps := loopsT []) (bump := false) (ice := false) (A := (codP [pPlan])) (n := 1) (R := (codP [pB])) fun _ => lps_nil

theorem e_pxIdle (p : List UInt8 × List UInt8 × Int × Int × (Int × Int × Int × Int × Int) × (Int × Int × Int × Int × Int)) : F_pxIdle p = (
  bif decide (p.snd.snd.snd.fst = (0 : Int)) then
    bif
        decide (p.snd.snd.snd.snd.fst.fst = (0 : Int)) &&
          (decide (p.snd.snd.snd.snd.fst.snd.fst = (0 : Int)) &&
            (decide (p.snd.snd.snd.snd.fst.snd.snd.fst = (0 : Int)) &&
              (decide (p.snd.snd.snd.snd.fst.snd.snd.snd.fst = (0 : Int)) && (decide (p.snd.snd.snd.snd.fst.snd.snd.snd.snd = (0 : Int)) && true)))) then
      some
        (decide (p.snd.snd.snd.snd.snd.fst = (0 : Int)) &&
          (decide (p.snd.snd.snd.snd.snd.snd.fst = (0 : Int)) &&
            (decide (p.snd.snd.snd.snd.snd.snd.snd.fst = (0 : Int)) &&
              (decide (p.snd.snd.snd.snd.snd.snd.snd.snd.fst = (0 : Int)) && (decide (p.snd.snd.snd.snd.snd.snd.snd.snd.snd = (0 : Int)) && true)))))
    else some false
  else some false) := by kernel_rfl


/-! ### horologe/posix.Check -/
noncomputable abbrev ct_pxCheck : List (FuncId × Bool × SpecT) := [(34, false, s_pxName), (33, false, s_pxChanges), (66, false, s_pxIdle), (67, false, s_pxShifts), (68, false, s_ruleCheck)]
theorem cs_pxCheck : AllSound Tryd.prog ct_pxCheck := ⟨so_pxName, so_pxChanges, so_pxIdle, so_pxShifts, so_ruleCheck, trivial⟩
noncomputable def F_pxCheck (x : ((List UInt8 × List UInt8 × Int × Int × (Int × Int × Int × Int × Int) × (Int × Int × Int × Int × Int)))) : Option (Int) := (evalF Tryd.prog (lookT ct_pxCheck) (keepT []) (loopsT []) false false Tryd.f28 (codP [pPlan]) 1 (codP [pE]) x).run
noncomputable abbrev s_pxCheck : SpecT := specF (codP [pPlan]) 1 (codP [pE]) F_pxCheck
theorem so_pxCheck : SoundT Tryd.prog 28 s_pxCheck := soundG (P := Tryd.prog) mixed (t := ct_pxCheck) cs_pxCheck (f := 28) (fn := Tryd.f28) Tryd.func28 (by kernel_rfl) (by kernel_rfl) (by kernel_rfl) (ls := []) (by kernel_rfl) (kp := keepT []) (lps := loopsT []) (bump := false) (ice := false) (A := (codP [pPlan])) (n := 1) (R := (codP [pE])) fun _ => lps_nil

theorem e_pxCheck (p : List UInt8 × List UInt8 × Int × Int × (Int × Int × Int × Int × Int) × (Int × Int × Int × Int × Int)) : F_pxCheck p = (
  (F_pxName p.fst).bind fun x1 =>
    bif !x1 then some (2 : Int)
    else
      (F_pxChanges p).bind fun x2 =>
        bif x2 then
          (F_pxName p.snd.fst).bind fun x3 =>
            bif !x3 then some (2 : Int)
            else
              (F_pxChanges p).bind fun x4 =>
                bif !x4 then
                  (F_pxIdle p).bind fun x5 =>
                    bif !x5 then some (2 : Int)
                    else
                      (F_pxShifts p.snd.snd.fst).bind fun x6 =>
                        bif !x6 then some (1 : Int)
                        else
                          (F_pxShifts p.snd.snd.snd.fst).bind fun x7 =>
                            bif !x7 then some (1 : Int)
                            else
                              (F_pxChanges p).bind fun x8 =>
                                bif !x8 then some (0 : Int)
                                else (F_ruleCheck p.snd.snd.snd.snd.fst).bind fun x9 => bif decide (x9 ≠ (0 : Int)) then some x9 else (F_ruleCheck p.snd.snd.snd.snd.snd).bind fun x10 => some x10
                else
                  (F_pxShifts p.snd.snd.fst).bind fun x5 =>
                    bif !x5 then some (1 : Int)
                    else
                      (F_pxShifts p.snd.snd.snd.fst).bind fun x6 =>
                        bif !x6 then some (1 : Int)
                        else
                          (F_pxChanges p).bind fun x7 =>
                            bif !x7 then some (0 : Int)
                            else (F_ruleCheck p.snd.snd.snd.snd.fst).bind fun x8 => bif decide (x8 ≠ (0 : Int)) then some x8 else (F_ruleCheck p.snd.snd.snd.snd.snd).bind fun x9 => some x9
        else
          (F_pxChanges p).bind fun x3 =>
            bif !x3 then
              (F_pxIdle p).bind fun x4 =>
                bif !x4 then some (2 : Int)
                else
                  (F_pxShifts p.snd.snd.fst).bind fun x5 =>
                    bif !x5 then some (1 : Int)
                    else
                      (F_pxShifts p.snd.snd.snd.fst).bind fun x6 =>
                        bif !x6 then some (1 : Int)
                        else
                          (F_pxChanges p).bind fun x7 =>
                            bif !x7 then some (0 : Int)
                            else (F_ruleCheck p.snd.snd.snd.snd.fst).bind fun x8 => bif decide (x8 ≠ (0 : Int)) then some x8 else (F_ruleCheck p.snd.snd.snd.snd.snd).bind fun x9 => some x9
            else
              (F_pxShifts p.snd.snd.fst).bind fun x4 =>
                bif !x4 then some (1 : Int)
                else
                  (F_pxShifts p.snd.snd.snd.fst).bind fun x5 =>
                    bif !x5 then some (1 : Int)
                    else
                      (F_pxChanges p).bind fun x6 =>
                        bif !x6 then some (0 : Int)
                        else (F_ruleCheck p.snd.snd.snd.snd.fst).bind fun x7 => bif decide (x7 ≠ (0 : Int)) then some x7 else (F_ruleCheck p.snd.snd.snd.snd.snd).bind fun x8 => some x8) := by kernel_rfl


/-! ### horologe/posix.Fixed -/
noncomputable abbrev ct_pxFixed : List (FuncId × Bool × SpecT) := [(28, false, s_pxCheck)]
theorem cs_pxFixed : AllSound Tryd.prog ct_pxFixed := ⟨so_pxCheck, trivial⟩
noncomputable def F_pxFixed (x : ((List UInt8) × Int)) : Option ((List UInt8 × List UInt8 × Int × Int × (Int × Int × Int × Int × Int) × (Int × Int × Int × Int × Int)) × Int) := (evalF Tryd.prog (lookT ct_pxFixed) (keepT []) (loopsT []) false false Tryd.f36 (codP [pS, pI]) 2 (codP [pPlan, pE]) x).run
noncomputable abbrev s_pxFixed : SpecT := specF (codP [pS, pI]) 2 (codP [pPlan, pE]) F_pxFixed
theorem so_pxFixed : SoundT Tryd.prog 36 s_pxFixed := soundG (P := Tryd.prog) mixed (t := ct_pxFixed) cs_pxFixed (f := 36) (fn := Tryd.f36) Tryd.func36 (by kernel_rfl) (by kernel_rfl) (by kernel_rfl) (ls := []) (by kernel_rfl) (kp := keepT []) (lps := loopsT []) (bump := false) (ice := false) (A := (codP [pS, pI])) (n := 2) (R := (codP [pPlan, pE])) fun _ => lps_nil

theorem e_pxFixed (s : List UInt8) (o : Int) : F_pxFixed (s, o) = (
  (F_pxCheck (s, [], o, (0 : Int), ((0 : Int), (0 : Int), (0 : Int), (0 : Int), (0 : Int)), (0 : Int), (0 : Int), (0 : Int), (0 : Int), (0 : Int))).bind fun x1 =>
    bif decide (x1 ≠ (0 : Int)) then some (([], [], (0 : Int), (0 : Int), ((0 : Int), (0 : Int), (0 : Int), (0 : Int), (0 : Int)), (0 : Int), (0 : Int), (0 : Int), (0 : Int), (0 : Int)), x1)
    else some ((s, [], o, (0 : Int), ((0 : Int), (0 : Int), (0 : Int), (0 : Int), (0 : Int)), (0 : Int), (0 : Int), (0 : Int), (0 : Int), (0 : Int)), (0 : Int))) := by kernel_rfl


/-! ### (horologe/posix.reader).name -/
noncomputable abbrev ct_rdName : List (FuncId × Bool × SpecT) := [(86, false, s_scTake), (87, false, s_scRun), (34, false, s_pxName), (88, false, s_scFail), (89, false, s_scUntil)]
theorem cs_rdName : AllSound Tryd.prog ct_rdName := ⟨so_scTake, so_scRun, so_pxName, so_scFail, so_scUntil, trivial⟩
noncomputable def F_rdName (x : (((List UInt8) × Int × Int) × (Unit))) : Option (((List UInt8) × Int × Int) × ((List UInt8))) := (evalF Tryd.prog (lookT ct_rdName) (keepT []) (loopsT []) false false Tryd.f42 (codR 0 [pS, pI, pE] [pA]) 1 (codR 0 [pS, pI, pE] [pS]) x).run
noncomputable abbrev s_rdName : SpecT := specF (codR 0 [pS, pI, pE] [pA]) 1 (codR 0 [pS, pI, pE] [pS]) F_rdName
theorem so_rdName : SoundT Tryd.prog 42 s_rdName := soundG (P := Tryd.prog) mixed (t := ct_rdName) cs_rdName (f := 42) (fn := Tryd.f42) Tryd.func42 (by kernel_rfl) (by kernel_rfl) (by kernel_rfl) (ls := []) (by kernel_rfl) (kp := keepT []) (lps := loopsT []) (bump := false) (ice := false) (A := (codR 0 [pS, pI, pE] [pA])) (n := 1) (R := (codR 0 [pS, pI, pE] [pS])) fun _ => lps_nil

theorem e_rdName (z : (List UInt8) × Int × Int) : F_rdName (z, ()) = (
  (F_scTake (z, (), (60 : UInt8))).bind fun x1 =>
    bif !x1.snd then
      (F_scRun
            (x1.fst, (),
              [(65 : UInt8), (66 : UInt8), (67 : UInt8), (68 : UInt8), (69 : UInt8), (70 : UInt8), (71 : UInt8), (72 : UInt8), (73 : UInt8), (74 : UInt8), (75 : UInt8), (76 : UInt8), (77 : UInt8),
                (78 : UInt8), (79 : UInt8), (80 : UInt8), (81 : UInt8), (82 : UInt8), (83 : UInt8), (84 : UInt8), (85 : UInt8), (86 : UInt8), (87 : UInt8), (88 : UInt8), (89 : UInt8), (90 : UInt8),
                (97 : UInt8), (98 : UInt8), (99 : UInt8), (100 : UInt8), (101 : UInt8), (102 : UInt8), (103 : UInt8), (104 : UInt8), (105 : UInt8), (106 : UInt8), (107 : UInt8), (108 : UInt8),
                (109 : UInt8), (110 : UInt8), (111 : UInt8), (112 : UInt8), (113 : UInt8), (114 : UInt8), (115 : UInt8), (116 : UInt8), (117 : UInt8), (118 : UInt8), (119 : UInt8), (120 : UInt8),
                (121 : UInt8), (122 : UInt8)])).bind
        fun x2 => (F_pxName x2.snd).bind fun x3 => bif !x3 then (F_scFail (x2.fst, (), (2 : Int))).bind fun x4 => some (x4.fst, x2.snd) else some x2
    else
      (F_scUntil (x1.fst, (), (62 : UInt8))).bind fun x2 =>
        (F_pxName x2.snd).bind fun x3 =>
          bif !x3 then (F_scFail (x2.fst, (), (2 : Int))).bind fun x4 => some (x4.fst, x2.snd)
          else (F_scTake (x2.fst, (), (62 : UInt8))).bind fun x4 => bif !x4.snd then (F_scFail (x4.fst, (), (2 : Int))).bind fun x5 => some (x5.fst, x2.snd) else some (x4.fst, x2.snd)) := by kernel_rfl


/-! ### (horologe/posix.reader).offset -/
noncomputable abbrev ct_rdOffset : List (FuncId × Bool × SpecT) := [(87, false, s_scRun), (90, false, s_scErr), (91, false, s_ruleParseClock), (88, false, s_scFail)]
theorem cs_rdOffset : AllSound Tryd.prog ct_rdOffset := ⟨so_scRun, so_scErr, so_ruleParseClock, so_scFail, trivial⟩
noncomputable def F_rdOffset (x : (((List UInt8) × Int × Int) × (Unit))) : Option (((List UInt8) × Int × Int) × (Int)) := (evalF Tryd.prog (lookT ct_rdOffset) (keepT []) (loopsT []) false false Tryd.f43 (codR 0 [pS, pI, pE] [pA]) 1 (codR 0 [pS, pI, pE] [pI]) x).run
noncomputable abbrev s_rdOffset : SpecT := specF (codR 0 [pS, pI, pE] [pA]) 1 (codR 0 [pS, pI, pE] [pI]) F_rdOffset
theorem so_rdOffset : SoundT Tryd.prog 43 s_rdOffset := soundG (P := Tryd.prog) mixed (t := ct_rdOffset) cs_rdOffset (f := 43) (fn := Tryd.f43) Tryd.func43 (by kernel_rfl) (by kernel_rfl) (by kernel_rfl) (ls := []) (by kernel_rfl) (kp := keepT []) (lps := loopsT []) (bump := false) (ice := false) (A := (codR 0 [pS, pI, pE] [pA])) (n := 1) (R := (codR 0 [pS, pI, pE] [pI])) fun _ => lps_nil

theorem e_rdOffset (z : (List UInt8) × Int × Int) : F_rdOffset (z, ()) = (
  (F_scRun
        (z, (),
          [(48 : UInt8), (49 : UInt8), (50 : UInt8), (51 : UInt8), (52 : UInt8), (53 : UInt8), (54 : UInt8), (55 : UInt8), (56 : UInt8), (57 : UInt8), (43 : UInt8), (45 : UInt8), (58 : UInt8)])).bind
    fun x1 =>
    (F_scErr (x1.fst, ())).bind fun x2 =>
      bif decide (x2.snd ≠ (0 : Int)) then some (x2.fst, (0 : Int))
      else
        (F_ruleParseClock (x1.snd, (24 : Int))).bind fun x3 =>
          bif decide (x3.snd ≠ (0 : Int)) then (F_scFail (x2.fst, (), x3.snd)).bind fun x4 => some (x4.fst, IntKind.i64.wrap ((0 : Int) - x3.fst))
          else some (x2.fst, IntKind.i64.wrap ((0 : Int) - x3.fst))) := by kernel_rfl


/-! ### (horologe/posix.reader).rule -/
noncomputable abbrev ct_rdRule : List (FuncId × Bool × SpecT) := [(86, false, s_scTake), (88, false, s_scFail), (89, false, s_scUntil), (90, false, s_scErr), (124, false, s_ruleParse)]
theorem cs_rdRule : AllSound Tryd.prog ct_rdRule := ⟨so_scTake, so_scFail, so_scUntil, so_scErr, so_ruleParse, trivial⟩
noncomputable def F_rdRule (x : (((List UInt8) × Int × Int) × (Unit))) : Option (((List UInt8) × Int × Int) × ((Int × Int × Int × Int × Int))) := (evalF Tryd.prog (lookT ct_rdRule) (keepT []) (loopsT []) false false Tryd.f94 (codR 0 [pS, pI, pE] [pA]) 1 (codR 0 [pS, pI, pE] [pRule]) x).run
noncomputable abbrev s_rdRule : SpecT := specF (codR 0 [pS, pI, pE] [pA]) 1 (codR 0 [pS, pI, pE] [pRule]) F_rdRule
theorem so_rdRule : SoundT Tryd.prog 94 s_rdRule := soundG (P := Tryd.prog) mixed (t := ct_rdRule) cs_rdRule (f := 94) (fn := Tryd.f94) Tryd.func94 (by kernel_rfl) (by kernel_rfl) (by kernel_rfl) (ls := []) (by kernel_rfl) (kp := keepT []) (lps := loopsT []) (bump := false) (ice := false) (A := (codR 0 [pS, pI, pE] [pA])) (n := 1) (R := (codR 0 [pS, pI, pE] [pRule])) fun _ => lps_nil

theorem e_rdRule (z : (List UInt8) × Int × Int) : F_rdRule (z, ()) = (
  (F_scTake (z, (), (44 : UInt8))).bind fun x1 =>
    bif !x1.snd then
      (F_scFail (x1.fst, (), (2 : Int))).bind fun x2 =>
        (F_scUntil (x2.fst, (), (44 : UInt8))).bind fun x3 =>
          (F_scErr (x3.fst, ())).bind fun x4 =>
            bif decide (x4.snd ≠ (0 : Int)) then some (x4.fst, (0 : Int), (0 : Int), (0 : Int), (0 : Int), (0 : Int))
            else (F_ruleParse x3.snd).bind fun x5 => bif decide (x5.snd ≠ (0 : Int)) then (F_scFail (x4.fst, (), x5.snd)).bind fun x6 => some (x6.fst, x5.fst) else some (x4.fst, x5.fst)
    else
      (F_scUntil (x1.fst, (), (44 : UInt8))).bind fun x2 =>
        (F_scErr (x2.fst, ())).bind fun x3 =>
          bif decide (x3.snd ≠ (0 : Int)) then some (x3.fst, (0 : Int), (0 : Int), (0 : Int), (0 : Int), (0 : Int))
          else (F_ruleParse x2.snd).bind fun x4 => bif decide (x4.snd ≠ (0 : Int)) then (F_scFail (x3.fst, (), x4.snd)).bind fun x5 => some (x5.fst, x4.fst) else some (x3.fst, x4.fst)) := by kernel_rfl


/-! ### (horologe/posix.reader).summer -/
noncomputable abbrev ct_rdSummer : List (FuncId × Bool × SpecT) := [(42, false, s_rdName), (93, false, s_scPeek), (43, false, s_rdOffset), (94, false, s_rdRule)]
theorem cs_rdSummer : AllSound Tryd.prog ct_rdSummer := ⟨so_rdName, so_scPeek, so_rdOffset, so_rdRule, trivial⟩
noncomputable def F_rdSummer (x : (((List UInt8) × Int × Int) × (Unit × (List UInt8 × List UInt8 × Int × Int × (Int × Int × Int × Int × Int) × (Int × Int × Int × Int × Int))))) : Option (((List UInt8) × Int × Int) × ((List UInt8 × List UInt8 × Int × Int × (Int × Int × Int × Int × Int) × (Int × Int × Int × Int × Int)))) := (evalF Tryd.prog (lookT ct_rdSummer) (keepT []) (loopsT []) false false Tryd.f45 (codR 0 [pS, pI, pE] [pA, pPlan]) 1 (codR 0 [pS, pI, pE] [pPlan]) x).run
noncomputable abbrev s_rdSummer : SpecT := specF (codR 0 [pS, pI, pE] [pA, pPlan]) 1 (codR 0 [pS, pI, pE] [pPlan]) F_rdSummer
theorem so_rdSummer : SoundT Tryd.prog 45 s_rdSummer := soundG (P := Tryd.prog) mixed (t := ct_rdSummer) cs_rdSummer (f := 45) (fn := Tryd.f45) Tryd.func45 (by kernel_rfl) (by kernel_rfl) (by kernel_rfl) (ls := []) (by kernel_rfl) (kp := keepT []) (lps := loopsT []) (bump := false) (ice := false) (A := (codR 0 [pS, pI, pE] [pA, pPlan])) (n := 1) (R := (codR 0 [pS, pI, pE] [pPlan])) fun _ => lps_nil

theorem e_rdSummer (z : (List UInt8) × Int × Int) (p : List UInt8 × List UInt8 × Int × Int × (Int × Int × Int × Int × Int) × (Int × Int × Int × Int × Int)) : F_rdSummer (z, (), p) = (
  (F_rdName (z, ())).bind fun x1 =>
    (F_scPeek (x1.fst, ())).bind fun x2 =>
      bif x2.snd.snd then
        bif decide (x2.snd.fst ≠ (44 : UInt8)) then
          (F_rdOffset (x2.fst, ())).bind fun x3 => (F_rdRule (x3.fst, ())).bind fun x4 => (F_rdRule (x4.fst, ())).bind fun x5 => some (x5.fst, p.fst, x1.snd, p.snd.snd.fst, x3.snd, x4.snd, x5.snd)
        else (F_rdRule (x2.fst, ())).bind fun x3 => (F_rdRule (x3.fst, ())).bind fun x4 => some (x4.fst, p.fst, x1.snd, p.snd.snd.fst, IntKind.i64.wrap (p.snd.snd.fst + (3600 : Int)), x3.snd, x4.snd)
      else (F_rdRule (x2.fst, ())).bind fun x3 => (F_rdRule (x3.fst, ())).bind fun x4 => some (x4.fst, p.fst, x1.snd, p.snd.snd.fst, IntKind.i64.wrap (p.snd.snd.fst + (3600 : Int)), x3.snd, x4.snd)) := by kernel_rfl


/-! ### horologe/posix.Parse -/
noncomputable abbrev ct_pxParse : List (FuncId × Bool × SpecT) := [(41, false, s_scNew), (42, false, s_rdName), (43, false, s_rdOffset), (44, false, s_scLeft), (45, false, s_rdSummer), (46, false, s_scEnd), (28, false, s_pxCheck)]
theorem cs_pxParse : AllSound Tryd.prog ct_pxParse := ⟨so_scNew, so_rdName, so_rdOffset, so_scLeft, so_rdSummer, so_scEnd, so_pxCheck, trivial⟩
noncomputable def F_pxParse (x : ((List UInt8))) : Option ((List UInt8 × List UInt8 × Int × Int × (Int × Int × Int × Int × Int) × (Int × Int × Int × Int × Int)) × Int) := (evalF Tryd.prog (lookT ct_pxParse) (keepT []) (loopsT []) false false Tryd.f11 (codP [pS]) 2 (codP [pPlan, pE]) x).run
noncomputable abbrev s_pxParse : SpecT := specF (codP [pS]) 2 (codP [pPlan, pE]) F_pxParse
theorem so_pxParse : SoundT Tryd.prog 11 s_pxParse := soundG (P := Tryd.prog) mixed (t := ct_pxParse) cs_pxParse (f := 11) (fn := Tryd.f11) Tryd.func11 (by kernel_rfl) (by kernel_rfl) (by kernel_rfl) (ls := []) (by kernel_rfl) (kp := keepT []) (lps := loopsT []) (bump := false) (ice := false) (A := (codP [pS])) (n := 2) (R := (codP [pPlan, pE])) fun _ => lps_nil

theorem e_pxParse (s : List UInt8) : F_pxParse s = (
  (F_scNew s).bind fun x1 =>
    (F_rdName (x1.fst, ())).bind fun x2 =>
      (F_rdOffset (x2.fst, ())).bind fun x3 =>
        (F_scLeft (x3.fst, ())).bind fun x4 =>
          bif decide ((0 : Int) < x4.snd) then
            (F_rdSummer (x4.fst, (), x2.snd, [], x3.snd, (0 : Int), ((0 : Int), (0 : Int), (0 : Int), (0 : Int), (0 : Int)), (0 : Int), (0 : Int), (0 : Int), (0 : Int), (0 : Int))).bind fun x5 =>
              (F_scEnd (x5.fst, ())).bind fun x6 =>
                bif decide (x6.snd ≠ (0 : Int)) then
                  some (([], [], (0 : Int), (0 : Int), ((0 : Int), (0 : Int), (0 : Int), (0 : Int), (0 : Int)), (0 : Int), (0 : Int), (0 : Int), (0 : Int), (0 : Int)), x6.snd)
                else
                  (F_pxCheck x5.snd).bind fun x7 =>
                    bif decide (x7 ≠ (0 : Int)) then
                      some (([], [], (0 : Int), (0 : Int), ((0 : Int), (0 : Int), (0 : Int), (0 : Int), (0 : Int)), (0 : Int), (0 : Int), (0 : Int), (0 : Int), (0 : Int)), x7)
                    else some (x5.snd, (0 : Int))
          else
            (F_scEnd (x4.fst, ())).bind fun x5 =>
              bif decide (x5.snd ≠ (0 : Int)) then
                some (([], [], (0 : Int), (0 : Int), ((0 : Int), (0 : Int), (0 : Int), (0 : Int), (0 : Int)), (0 : Int), (0 : Int), (0 : Int), (0 : Int), (0 : Int)), x5.snd)
              else
                (F_pxCheck (x2.snd, [], x3.snd, (0 : Int), ((0 : Int), (0 : Int), (0 : Int), (0 : Int), (0 : Int)), (0 : Int), (0 : Int), (0 : Int), (0 : Int), (0 : Int))).bind fun x6 =>
                  bif decide (x6 ≠ (0 : Int)) then
                    some (([], [], (0 : Int), (0 : Int), ((0 : Int), (0 : Int), (0 : Int), (0 : Int), (0 : Int)), (0 : Int), (0 : Int), (0 : Int), (0 : Int), (0 : Int)), x6)
                  else some ((x2.snd, [], x3.snd, (0 : Int), ((0 : Int), (0 : Int), (0 : Int), (0 : Int), (0 : Int)), (0 : Int), (0 : Int), (0 : Int), (0 : Int), (0 : Int)), (0 : Int))) := by kernel_rfl

end Go.Sm
/- num, day, rules' days and footers as Lean functions. No condition. -/
set_option linter.unusedVariables false
namespace Go.Sm
open Go.Proofs
/-! ### horologe/num.Div -/
noncomputable abbrev ct_numDiv : List (FuncId × Bool × SpecT) := []
theorem cs_numDiv : AllSound Tryd.prog ct_numDiv := trivial
noncomputable def F_numDiv (x : (Int × Int)) : Option (Int × Int) := (evalF Tryd.prog (lookT ct_numDiv) (keepT []) (loopsT []) false false Tryd.f140 (codP [pI, pI]) 2 (codP [pI, pE]) x).run
noncomputable abbrev s_numDiv : SpecT := specF (codP [pI, pI]) 2 (codP [pI, pE]) F_numDiv
theorem so_numDiv : SoundT Tryd.prog 140 s_numDiv := soundG (P := Tryd.prog) mixed (t := ct_numDiv) cs_numDiv (f := 140) (fn := Tryd.f140) Tryd.func140 (by kernel_rfl) (by kernel_rfl) (by kernel_rfl) (ls := []) (by kernel_rfl) (kp := keepT []) (lps := loopsT []) (bump := false) (ice := false) (A := (codP [pI, pI])) (n := 2) (R := (codP [pI, pE])) fun _ => lps_nil

theorem e_numDiv (a b : Int) : F_numDiv (a, b) = (
  bif decide (b = (0 : Int)) then some ((0 : Int), (1 : Int))
  else
    bif decide (a = (-9223372036854775808 : Int)) then
      bif decide (b = (-1 : Int)) then some ((0 : Int), (5 : Int))
      else
        bif decide (b = (0 : Int)) then none
        else
          bif decide (b = (0 : Int)) then none
          else
            bif decide (a.tmod b ≠ (0 : Int)) then
              bif !decide (a < (0 : Int)) == decide (b < (0 : Int)) then some (IntKind.i64.wrap (IntKind.i64.wrap (a.tdiv b) - (1 : Int)), (0 : Int)) else some (IntKind.i64.wrap (a.tdiv b), (0 : Int))
            else some (IntKind.i64.wrap (a.tdiv b), (0 : Int))
    else
      bif decide (b = (0 : Int)) then none
      else
        bif decide (b = (0 : Int)) then none
        else
          bif decide (a.tmod b ≠ (0 : Int)) then
            bif !decide (a < (0 : Int)) == decide (b < (0 : Int)) then some (IntKind.i64.wrap (IntKind.i64.wrap (a.tdiv b) - (1 : Int)), (0 : Int)) else some (IntKind.i64.wrap (a.tdiv b), (0 : Int))
          else some (IntKind.i64.wrap (a.tdiv b), (0 : Int))) := by kernel_rfl


/-! ### horologe/num.Mod -/
noncomputable abbrev ct_numMod : List (FuncId × Bool × SpecT) := []
theorem cs_numMod : AllSound Tryd.prog ct_numMod := trivial
noncomputable def F_numMod (x : (Int × Int)) : Option (Int × Int) := (evalF Tryd.prog (lookT ct_numMod) (keepT []) (loopsT []) false false Tryd.f141 (codP [pI, pI]) 2 (codP [pI, pE]) x).run
noncomputable abbrev s_numMod : SpecT := specF (codP [pI, pI]) 2 (codP [pI, pE]) F_numMod
theorem so_numMod : SoundT Tryd.prog 141 s_numMod := soundG (P := Tryd.prog) mixed (t := ct_numMod) cs_numMod (f := 141) (fn := Tryd.f141) Tryd.func141 (by kernel_rfl) (by kernel_rfl) (by kernel_rfl) (ls := []) (by kernel_rfl) (kp := keepT []) (lps := loopsT []) (bump := false) (ice := false) (A := (codP [pI, pI])) (n := 2) (R := (codP [pI, pE])) fun _ => lps_nil

theorem e_numMod (a b : Int) : F_numMod (a, b) = (
  bif decide (b = (0 : Int)) then some ((0 : Int), (1 : Int))
  else
    bif decide (b = (-1 : Int)) then some ((0 : Int), (0 : Int))
    else
      bif decide (b = (0 : Int)) then none
      else
        bif decide (a.tmod b ≠ (0 : Int)) then bif !decide (a.tmod b < (0 : Int)) == decide (b < (0 : Int)) then some (IntKind.i64.wrap (a.tmod b + b), (0 : Int)) else some (a.tmod b, (0 : Int))
        else some (a.tmod b, (0 : Int))) := by kernel_rfl


/-! ### horologe/num.Split -/
noncomputable abbrev ct_numSplit : List (FuncId × Bool × SpecT) := [(140, false, s_numDiv), (141, false, s_numMod)]
theorem cs_numSplit : AllSound Tryd.prog ct_numSplit := ⟨so_numDiv, so_numMod, trivial⟩
noncomputable def F_numSplit (x : (Int × Int)) : Option (Int × Int × Int) := (evalF Tryd.prog (lookT ct_numSplit) (keepT []) (loopsT []) false false Tryd.f115 (codP [pI, pI]) 3 (codP [pI, pI, pE]) x).run
noncomputable abbrev s_numSplit : SpecT := specF (codP [pI, pI]) 3 (codP [pI, pI, pE]) F_numSplit
theorem so_numSplit : SoundT Tryd.prog 115 s_numSplit := soundG (P := Tryd.prog) mixed (t := ct_numSplit) cs_numSplit (f := 115) (fn := Tryd.f115) Tryd.func115 (by kernel_rfl) (by kernel_rfl) (by kernel_rfl) (ls := []) (by kernel_rfl) (kp := keepT []) (lps := loopsT []) (bump := false) (ice := false) (A := (codP [pI, pI])) (n := 3) (R := (codP [pI, pI, pE])) fun _ => lps_nil

theorem e_numSplit (a b : Int) : F_numSplit (a, b) = (
  bif decide (b < (1 : Int)) then some ((0 : Int), (0 : Int), (1 : Int))
  else
    (F_numDiv (a, b)).bind fun x1 =>
      bif decide (x1.snd ≠ (0 : Int)) then some ((0 : Int), (0 : Int), x1.snd)
      else (F_numMod (a, b)).bind fun x2 => bif decide (x2.snd ≠ (0 : Int)) then some ((0 : Int), (0 : Int), x2.snd) else some (x1.fst, x2.fst, (0 : Int))) := by kernel_rfl


/-! ### horologe/day.right -/
noncomputable abbrev ct_dayRight : List (FuncId × Bool × SpecT) := []
theorem cs_dayRight : AllSound Tryd.prog ct_dayRight := trivial
noncomputable def F_dayRight (x : (Int)) : Option (Bool) := (evalF Tryd.prog (lookT ct_dayRight) (keepT []) (loopsT []) false false Tryd.f191 (codP [pI]) 1 (codP [pB]) x).run
noncomputable abbrev s_dayRight : SpecT := specF (codP [pI]) 1 (codP [pB]) F_dayRight
theorem so_dayRight : SoundT Tryd.prog 191 s_dayRight := soundG (P := Tryd.prog) mixed (t := ct_dayRight) cs_dayRight (f := 191) (fn := Tryd.f191) Tryd.func191 (by kernel_rfl) (by kernel_rfl) (by kernel_rfl) (ls := []) (by kernel_rfl) (kp := keepT []) (lps := loopsT []) (bump := false) (ice := false) (A := (codP [pI])) (n := 1) (R := (codP [pB])) fun _ => lps_nil

theorem e_dayRight (y : Int) : F_dayRight y = (
  bif decide ((-9999 : Int) ≤ y) then some (decide (y ≤ (9999 : Int))) else some false) := by kernel_rfl


/-! ### horologe/day.Leap -/
noncomputable abbrev ct_dayLeap : List (FuncId × Bool × SpecT) := []
theorem cs_dayLeap : AllSound Tryd.prog ct_dayLeap := trivial
noncomputable def F_dayLeap (x : (Int)) : Option (Bool) := (evalF Tryd.prog (lookT ct_dayLeap) (keepT []) (loopsT []) false false Tryd.f167 (codP [pI]) 1 (codP [pB]) x).run
noncomputable abbrev s_dayLeap : SpecT := specF (codP [pI]) 1 (codP [pB]) F_dayLeap
theorem so_dayLeap : SoundT Tryd.prog 167 s_dayLeap := soundG (P := Tryd.prog) mixed (t := ct_dayLeap) cs_dayLeap (f := 167) (fn := Tryd.f167) Tryd.func167 (by kernel_rfl) (by kernel_rfl) (by kernel_rfl) (ls := []) (by kernel_rfl) (kp := keepT []) (lps := loopsT []) (bump := false) (ice := false) (A := (codP [pI])) (n := 1) (R := (codP [pB])) fun _ => lps_nil

theorem e_dayLeap (y : Int) : F_dayLeap y = (
  bif decide (y.tmod (4 : Int) = (0 : Int)) then bif decide (y.tmod (100 : Int) ≠ (0 : Int)) then some true else some (decide (y.tmod (400 : Int) = (0 : Int))) else some false) := by kernel_rfl


/-! ### horologe/day.Month -/
noncomputable abbrev ct_dayMonth : List (FuncId × Bool × SpecT) := [(191, false, s_dayRight), (167, false, s_dayLeap)]
theorem cs_dayMonth : AllSound Tryd.prog ct_dayMonth := ⟨so_dayRight, so_dayLeap, trivial⟩
noncomputable def F_dayMonth (x : (Int × Int)) : Option (Int × Int) := (evalF Tryd.prog (lookT ct_dayMonth) (keepT []) (loopsT []) false false Tryd.f185 (codP [pI, pI]) 2 (codP [pI, pE]) x).run
noncomputable abbrev s_dayMonth : SpecT := specF (codP [pI, pI]) 2 (codP [pI, pE]) F_dayMonth
theorem so_dayMonth : SoundT Tryd.prog 185 s_dayMonth := soundG (P := Tryd.prog) mixed (t := ct_dayMonth) cs_dayMonth (f := 185) (fn := Tryd.f185) Tryd.func185 (by kernel_rfl) (by kernel_rfl) (by kernel_rfl) (ls := []) (by kernel_rfl) (kp := keepT []) (lps := loopsT []) (bump := false) (ice := false) (A := (codP [pI, pI])) (n := 2) (R := (codP [pI, pE])) fun _ => lps_nil

theorem e_dayMonth (y m : Int) : F_dayMonth (y, m) = (
  (F_dayRight y).bind fun x1 =>
    bif !x1 then some ((0 : Int), (13 : Int))
    else
      bif decide (m < (1 : Int)) then some ((0 : Int), (1 : Int))
      else
        bif decide ((12 : Int) < m) then some ((0 : Int), (1 : Int))
        else
          bif decide (m = (2 : Int)) then
            (F_dayLeap y).bind fun x2 =>
              bif x2 then some ((29 : Int), (0 : Int))
              else
                bif decide (m = (2 : Int)) then some ((28 : Int), (0 : Int))
                else some (IntKind.i64.wrap ((30 : Int) + (IntKind.i64.wrap (m + IntKind.i64.wrap (m.tdiv (8 : Int)))).tmod (2 : Int)), (0 : Int))
          else
            bif decide (m = (2 : Int)) then some ((28 : Int), (0 : Int))
            else some (IntKind.i64.wrap ((30 : Int) + (IntKind.i64.wrap (m + IntKind.i64.wrap (m.tdiv (8 : Int)))).tmod (2 : Int)), (0 : Int))) := by kernel_rfl


/-! ### horologe/day.floor -/
noncomputable abbrev ct_dayFloor : List (FuncId × Bool × SpecT) := []
theorem cs_dayFloor : AllSound Tryd.prog ct_dayFloor := trivial
noncomputable def F_dayFloor (x : (Int × Int)) : Option (Int) := (evalF Tryd.prog (lookT ct_dayFloor) (keepT []) (loopsT []) false false Tryd.f142 (codP [pI, pI]) 1 (codP [pI]) x).run
noncomputable abbrev s_dayFloor : SpecT := specF (codP [pI, pI]) 1 (codP [pI]) F_dayFloor
theorem so_dayFloor : SoundT Tryd.prog 142 s_dayFloor := soundG (P := Tryd.prog) mixed (t := ct_dayFloor) cs_dayFloor (f := 142) (fn := Tryd.f142) Tryd.func142 (by kernel_rfl) (by kernel_rfl) (by kernel_rfl) (ls := []) (by kernel_rfl) (kp := keepT []) (lps := loopsT []) (bump := false) (ice := false) (A := (codP [pI, pI])) (n := 1) (R := (codP [pI])) fun _ => lps_nil

theorem e_dayFloor (a b : Int) : F_dayFloor (a, b) = (
  bif decide (b = (0 : Int)) then none
  else bif decide (b = (0 : Int)) then none else bif decide (a.tmod b < (0 : Int)) then some (IntKind.i64.wrap (IntKind.i64.wrap (a.tdiv b) - (1 : Int))) else some (IntKind.i64.wrap (a.tdiv b))) := by kernel_rfl


/-! ### horologe/day.number -/
noncomputable abbrev ct_dayNumber : List (FuncId × Bool × SpecT) := [(142, false, s_dayFloor)]
theorem cs_dayNumber : AllSound Tryd.prog ct_dayNumber := ⟨so_dayFloor, trivial⟩
noncomputable def F_dayNumber (x : (Int × Int × Int)) : Option (Int) := (evalF Tryd.prog (lookT ct_dayNumber) (keepT []) (loopsT []) false false Tryd.f158 (codP [pI, pI, pI]) 1 (codP [pI]) x).run
noncomputable abbrev s_dayNumber : SpecT := specF (codP [pI, pI, pI]) 1 (codP [pI]) F_dayNumber
theorem so_dayNumber : SoundT Tryd.prog 158 s_dayNumber := soundG (P := Tryd.prog) mixed (t := ct_dayNumber) cs_dayNumber (f := 158) (fn := Tryd.f158) Tryd.func158 (by kernel_rfl) (by kernel_rfl) (by kernel_rfl) (ls := []) (by kernel_rfl) (kp := keepT []) (lps := loopsT []) (bump := false) (ice := false) (A := (codP [pI, pI, pI])) (n := 1) (R := (codP [pI])) fun _ => lps_nil

theorem e_dayNumber (y m d : Int) : F_dayNumber (y, m, d) = (
  bif decide (m ≤ (2 : Int)) then
    (F_dayFloor (IntKind.i64.wrap (y - (1 : Int)), (400 : Int))).bind fun x1 =>
      some
        (IntKind.i64.wrap
          (IntKind.i64.wrap
              (IntKind.i64.wrap
                  (IntKind.i64.wrap
                      (IntKind.i64.wrap
                          (IntKind.i64.wrap (x1 * (146097 : Int)) + IntKind.i64.wrap (IntKind.i64.wrap (IntKind.i64.wrap (y - (1 : Int)) - IntKind.i64.wrap (x1 * (400 : Int))) * (365 : Int))) +
                        IntKind.i64.wrap ((IntKind.i64.wrap (IntKind.i64.wrap (y - (1 : Int)) - IntKind.i64.wrap (x1 * (400 : Int)))).tdiv (4 : Int))) -
                    IntKind.i64.wrap ((IntKind.i64.wrap (IntKind.i64.wrap (y - (1 : Int)) - IntKind.i64.wrap (x1 * (400 : Int)))).tdiv (100 : Int))) +
                IntKind.i64.wrap
                  (IntKind.i64.wrap
                      (IntKind.i64.wrap ((IntKind.i64.wrap (IntKind.i64.wrap ((153 : Int) * IntKind.i64.wrap (IntKind.i64.wrap (m + (12 : Int)) - (3 : Int))) + (2 : Int))).tdiv (5 : Int)) + d) -
                    (1 : Int))) -
            (719468 : Int)))
  else
    (F_dayFloor (y, (400 : Int))).bind fun x1 =>
      some
        (IntKind.i64.wrap
          (IntKind.i64.wrap
              (IntKind.i64.wrap
                  (IntKind.i64.wrap
                      (IntKind.i64.wrap (IntKind.i64.wrap (x1 * (146097 : Int)) + IntKind.i64.wrap (IntKind.i64.wrap (y - IntKind.i64.wrap (x1 * (400 : Int))) * (365 : Int))) +
                        IntKind.i64.wrap ((IntKind.i64.wrap (y - IntKind.i64.wrap (x1 * (400 : Int)))).tdiv (4 : Int))) -
                    IntKind.i64.wrap ((IntKind.i64.wrap (y - IntKind.i64.wrap (x1 * (400 : Int)))).tdiv (100 : Int))) +
                IntKind.i64.wrap
                  (IntKind.i64.wrap (IntKind.i64.wrap ((IntKind.i64.wrap (IntKind.i64.wrap ((153 : Int) * IntKind.i64.wrap (m - (3 : Int))) + (2 : Int))).tdiv (5 : Int)) + d) - (1 : Int))) -
            (719468 : Int)))) := by kernel_rfl


/-! ### horologe/day.First -/
noncomputable abbrev ct_dayFirst : List (FuncId × Bool × SpecT) := [(158, false, s_dayNumber)]
theorem cs_dayFirst : AllSound Tryd.prog ct_dayFirst := ⟨so_dayNumber, trivial⟩
noncomputable def F_dayFirst (x : Unit) : Option (Int) := (evalF Tryd.prog (lookT ct_dayFirst) (keepT []) (loopsT []) false false Tryd.f131 (codP []) 1 (codP [pI]) x).run
noncomputable abbrev s_dayFirst : SpecT := specF (codP []) 1 (codP [pI]) F_dayFirst
theorem so_dayFirst : SoundT Tryd.prog 131 s_dayFirst := soundG (P := Tryd.prog) mixed (t := ct_dayFirst) cs_dayFirst (f := 131) (fn := Tryd.f131) Tryd.func131 (by kernel_rfl) (by kernel_rfl) (by kernel_rfl) (ls := []) (by kernel_rfl) (kp := keepT []) (lps := loopsT []) (bump := false) (ice := false) (A := (codP [])) (n := 1) (R := (codP [pI])) fun _ => lps_nil

theorem e_dayFirst  : F_dayFirst () = (
  (F_dayNumber ((-9999 : Int), (1 : Int), (1 : Int))).bind fun x1 => some x1) := by kernel_rfl


/-! ### horologe/day.Last -/
noncomputable abbrev ct_dayLast : List (FuncId × Bool × SpecT) := [(158, false, s_dayNumber)]
theorem cs_dayLast : AllSound Tryd.prog ct_dayLast := ⟨so_dayNumber, trivial⟩
noncomputable def F_dayLast (x : Unit) : Option (Int) := (evalF Tryd.prog (lookT ct_dayLast) (keepT []) (loopsT []) false false Tryd.f132 (codP []) 1 (codP [pI]) x).run
noncomputable abbrev s_dayLast : SpecT := specF (codP []) 1 (codP [pI]) F_dayLast
theorem so_dayLast : SoundT Tryd.prog 132 s_dayLast := soundG (P := Tryd.prog) mixed (t := ct_dayLast) cs_dayLast (f := 132) (fn := Tryd.f132) Tryd.func132 (by kernel_rfl) (by kernel_rfl) (by kernel_rfl) (ls := []) (by kernel_rfl) (kp := keepT []) (lps := loopsT []) (bump := false) (ice := false) (A := (codP [])) (n := 1) (R := (codP [pI])) fun _ => lps_nil

theorem e_dayLast  : F_dayLast () = (
  (F_dayNumber ((9999 : Int), (12 : Int), (31 : Int))).bind fun x1 => some x1) := by kernel_rfl


/-! ### horologe/day.Date -/
noncomputable abbrev ct_dayDate : List (FuncId × Bool × SpecT) := [(131, false, s_dayFirst), (132, false, s_dayLast), (142, false, s_dayFloor)]
theorem cs_dayDate : AllSound Tryd.prog ct_dayDate := ⟨so_dayFirst, so_dayLast, so_dayFloor, trivial⟩
noncomputable def F_dayDate (x : (Int)) : Option (Int × Int × Int × Int) := (evalF Tryd.prog (lookT ct_dayDate) (keepT []) (loopsT []) false false Tryd.f116 (codP [pI]) 4 (codP [pI, pI, pI, pE]) x).run
noncomputable abbrev s_dayDate : SpecT := specF (codP [pI]) 4 (codP [pI, pI, pI, pE]) F_dayDate
theorem so_dayDate : SoundT Tryd.prog 116 s_dayDate := soundG (P := Tryd.prog) mixed (t := ct_dayDate) cs_dayDate (f := 116) (fn := Tryd.f116) Tryd.func116 (by kernel_rfl) (by kernel_rfl) (by kernel_rfl) (ls := []) (by kernel_rfl) (kp := keepT []) (lps := loopsT []) (bump := false) (ice := false) (A := (codP [pI])) (n := 4) (R := (codP [pI, pI, pI, pE])) fun _ => lps_nil

theorem e_dayDate (n : Int) : F_dayDate n = (
  (F_dayFirst ()).bind fun x1 =>
    bif decide (n < x1) then some ((0 : Int), (0 : Int), (0 : Int), (13 : Int))
    else
      (F_dayLast ()).bind fun x2 =>
        bif decide (x2 < n) then some ((0 : Int), (0 : Int), (0 : Int), (13 : Int))
        else
          (F_dayFloor (IntKind.i64.wrap (n + (719468 : Int)), (146097 : Int))).bind fun x3 =>
            bif
                decide
                  ((12 : Int) <
                    IntKind.i64.wrap
                      (IntKind.i64.wrap
                          ((IntKind.i64.wrap
                                (IntKind.i64.wrap
                                    ((5 : Int) *
                                      IntKind.i64.wrap
                                        (IntKind.i64.wrap (IntKind.i64.wrap (n + (719468 : Int)) - IntKind.i64.wrap (x3 * (146097 : Int))) -
                                          IntKind.i64.wrap
                                            (IntKind.i64.wrap
                                                (IntKind.i64.wrap
                                                    ((365 : Int) *
                                                      IntKind.i64.wrap
                                                        ((IntKind.i64.wrap
                                                              (IntKind.i64.wrap
                                                                  (IntKind.i64.wrap
                                                                      (IntKind.i64.wrap (IntKind.i64.wrap (n + (719468 : Int)) - IntKind.i64.wrap (x3 * (146097 : Int))) -
                                                                        IntKind.i64.wrap
                                                                          ((IntKind.i64.wrap (IntKind.i64.wrap (n + (719468 : Int)) - IntKind.i64.wrap (x3 * (146097 : Int)))).tdiv (1460 : Int))) +
                                                                    IntKind.i64.wrap
                                                                      ((IntKind.i64.wrap (IntKind.i64.wrap (n + (719468 : Int)) - IntKind.i64.wrap (x3 * (146097 : Int)))).tdiv (36524 : Int))) -
                                                                IntKind.i64.wrap
                                                                  ((IntKind.i64.wrap (IntKind.i64.wrap (n + (719468 : Int)) - IntKind.i64.wrap (x3 * (146097 : Int)))).tdiv (146096 : Int)))).tdiv
                                                          (365 : Int))) +
                                                  IntKind.i64.wrap
                                                    ((IntKind.i64.wrap
                                                          ((IntKind.i64.wrap
                                                                (IntKind.i64.wrap
                                                                    (IntKind.i64.wrap
                                                                        (IntKind.i64.wrap (IntKind.i64.wrap (n + (719468 : Int)) - IntKind.i64.wrap (x3 * (146097 : Int))) -
                                                                          IntKind.i64.wrap
                                                                            ((IntKind.i64.wrap (IntKind.i64.wrap (n + (719468 : Int)) - IntKind.i64.wrap (x3 * (146097 : Int)))).tdiv (1460 : Int))) +
                                                                      IntKind.i64.wrap
                                                                        ((IntKind.i64.wrap (IntKind.i64.wrap (n + (719468 : Int)) - IntKind.i64.wrap (x3 * (146097 : Int)))).tdiv (36524 : Int))) -
                                                                  IntKind.i64.wrap
                                                                    ((IntKind.i64.wrap (IntKind.i64.wrap (n + (719468 : Int)) - IntKind.i64.wrap (x3 * (146097 : Int)))).tdiv (146096 : Int)))).tdiv
                                                            (365 : Int))).tdiv
                                                      (4 : Int))) -
                                              IntKind.i64.wrap
                                                ((IntKind.i64.wrap
                                                      ((IntKind.i64.wrap
                                                            (IntKind.i64.wrap
                                                                (IntKind.i64.wrap
                                                                    (IntKind.i64.wrap (IntKind.i64.wrap (n + (719468 : Int)) - IntKind.i64.wrap (x3 * (146097 : Int))) -
                                                                      IntKind.i64.wrap
                                                                        ((IntKind.i64.wrap (IntKind.i64.wrap (n + (719468 : Int)) - IntKind.i64.wrap (x3 * (146097 : Int)))).tdiv (1460 : Int))) +
                                                                  IntKind.i64.wrap
                                                                    ((IntKind.i64.wrap (IntKind.i64.wrap (n + (719468 : Int)) - IntKind.i64.wrap (x3 * (146097 : Int)))).tdiv (36524 : Int))) -
                                                              IntKind.i64.wrap
                                                                ((IntKind.i64.wrap (IntKind.i64.wrap (n + (719468 : Int)) - IntKind.i64.wrap (x3 * (146097 : Int)))).tdiv (146096 : Int)))).tdiv
                                                        (365 : Int))).tdiv
                                                  (100 : Int))))) +
                                  (2 : Int))).tdiv
                            (153 : Int)) +
                        (3 : Int))) then
              some
                (IntKind.i64.wrap
                    (IntKind.i64.wrap
                        (IntKind.i64.wrap
                            ((IntKind.i64.wrap
                                  (IntKind.i64.wrap
                                      (IntKind.i64.wrap
                                          (IntKind.i64.wrap (IntKind.i64.wrap (n + (719468 : Int)) - IntKind.i64.wrap (x3 * (146097 : Int))) -
                                            IntKind.i64.wrap ((IntKind.i64.wrap (IntKind.i64.wrap (n + (719468 : Int)) - IntKind.i64.wrap (x3 * (146097 : Int)))).tdiv (1460 : Int))) +
                                        IntKind.i64.wrap ((IntKind.i64.wrap (IntKind.i64.wrap (n + (719468 : Int)) - IntKind.i64.wrap (x3 * (146097 : Int)))).tdiv (36524 : Int))) -
                                    IntKind.i64.wrap ((IntKind.i64.wrap (IntKind.i64.wrap (n + (719468 : Int)) - IntKind.i64.wrap (x3 * (146097 : Int)))).tdiv (146096 : Int)))).tdiv
                              (365 : Int)) +
                          IntKind.i64.wrap (x3 * (400 : Int))) +
                      (1 : Int)),
                  IntKind.i64.wrap
                    (IntKind.i64.wrap
                        (IntKind.i64.wrap
                            ((IntKind.i64.wrap
                                  (IntKind.i64.wrap
                                      ((5 : Int) *
                                        IntKind.i64.wrap
                                          (IntKind.i64.wrap (IntKind.i64.wrap (n + (719468 : Int)) - IntKind.i64.wrap (x3 * (146097 : Int))) -
                                            IntKind.i64.wrap
                                              (IntKind.i64.wrap
                                                  (IntKind.i64.wrap
                                                      ((365 : Int) *
                                                        IntKind.i64.wrap
                                                          ((IntKind.i64.wrap
                                                                (IntKind.i64.wrap
                                                                    (IntKind.i64.wrap
                                                                        (IntKind.i64.wrap (IntKind.i64.wrap (n + (719468 : Int)) - IntKind.i64.wrap (x3 * (146097 : Int))) -
                                                                          IntKind.i64.wrap
                                                                            ((IntKind.i64.wrap (IntKind.i64.wrap (n + (719468 : Int)) - IntKind.i64.wrap (x3 * (146097 : Int)))).tdiv (1460 : Int))) +
                                                                      IntKind.i64.wrap
                                                                        ((IntKind.i64.wrap (IntKind.i64.wrap (n + (719468 : Int)) - IntKind.i64.wrap (x3 * (146097 : Int)))).tdiv (36524 : Int))) -
                                                                  IntKind.i64.wrap
                                                                    ((IntKind.i64.wrap (IntKind.i64.wrap (n + (719468 : Int)) - IntKind.i64.wrap (x3 * (146097 : Int)))).tdiv (146096 : Int)))).tdiv
                                                            (365 : Int))) +
                                                    IntKind.i64.wrap
                                                      ((IntKind.i64.wrap
                                                            ((IntKind.i64.wrap
                                                                  (IntKind.i64.wrap
                                                                      (IntKind.i64.wrap
                                                                          (IntKind.i64.wrap (IntKind.i64.wrap (n + (719468 : Int)) - IntKind.i64.wrap (x3 * (146097 : Int))) -
                                                                            IntKind.i64.wrap
                                                                              ((IntKind.i64.wrap (IntKind.i64.wrap (n + (719468 : Int)) - IntKind.i64.wrap (x3 * (146097 : Int)))).tdiv (1460 : Int))) +
                                                                        IntKind.i64.wrap
                                                                          ((IntKind.i64.wrap (IntKind.i64.wrap (n + (719468 : Int)) - IntKind.i64.wrap (x3 * (146097 : Int)))).tdiv (36524 : Int))) -
                                                                    IntKind.i64.wrap
                                                                      ((IntKind.i64.wrap (IntKind.i64.wrap (n + (719468 : Int)) - IntKind.i64.wrap (x3 * (146097 : Int)))).tdiv (146096 : Int)))).tdiv
                                                              (365 : Int))).tdiv
                                                        (4 : Int))) -
                                                IntKind.i64.wrap
                                                  ((IntKind.i64.wrap
                                                        ((IntKind.i64.wrap
                                                              (IntKind.i64.wrap
                                                                  (IntKind.i64.wrap
                                                                      (IntKind.i64.wrap (IntKind.i64.wrap (n + (719468 : Int)) - IntKind.i64.wrap (x3 * (146097 : Int))) -
                                                                        IntKind.i64.wrap
                                                                          ((IntKind.i64.wrap (IntKind.i64.wrap (n + (719468 : Int)) - IntKind.i64.wrap (x3 * (146097 : Int)))).tdiv (1460 : Int))) +
                                                                    IntKind.i64.wrap
                                                                      ((IntKind.i64.wrap (IntKind.i64.wrap (n + (719468 : Int)) - IntKind.i64.wrap (x3 * (146097 : Int)))).tdiv (36524 : Int))) -
                                                                IntKind.i64.wrap
                                                                  ((IntKind.i64.wrap (IntKind.i64.wrap (n + (719468 : Int)) - IntKind.i64.wrap (x3 * (146097 : Int)))).tdiv (146096 : Int)))).tdiv
                                                          (365 : Int))).tdiv
                                                    (100 : Int))))) +
                                    (2 : Int))).tdiv
                              (153 : Int)) +
                          (3 : Int)) -
                      (12 : Int)),
                  IntKind.i64.wrap
                    (IntKind.i64.wrap
                        (IntKind.i64.wrap
                            (IntKind.i64.wrap (IntKind.i64.wrap (n + (719468 : Int)) - IntKind.i64.wrap (x3 * (146097 : Int))) -
                              IntKind.i64.wrap
                                (IntKind.i64.wrap
                                    (IntKind.i64.wrap
                                        ((365 : Int) *
                                          IntKind.i64.wrap
                                            ((IntKind.i64.wrap
                                                  (IntKind.i64.wrap
                                                      (IntKind.i64.wrap
                                                          (IntKind.i64.wrap (IntKind.i64.wrap (n + (719468 : Int)) - IntKind.i64.wrap (x3 * (146097 : Int))) -
                                                            IntKind.i64.wrap ((IntKind.i64.wrap (IntKind.i64.wrap (n + (719468 : Int)) - IntKind.i64.wrap (x3 * (146097 : Int)))).tdiv (1460 : Int))) +
                                                        IntKind.i64.wrap ((IntKind.i64.wrap (IntKind.i64.wrap (n + (719468 : Int)) - IntKind.i64.wrap (x3 * (146097 : Int)))).tdiv (36524 : Int))) -
                                                    IntKind.i64.wrap ((IntKind.i64.wrap (IntKind.i64.wrap (n + (719468 : Int)) - IntKind.i64.wrap (x3 * (146097 : Int)))).tdiv (146096 : Int)))).tdiv
                                              (365 : Int))) +
                                      IntKind.i64.wrap
                                        ((IntKind.i64.wrap
                                              ((IntKind.i64.wrap
                                                    (IntKind.i64.wrap
                                                        (IntKind.i64.wrap
                                                            (IntKind.i64.wrap (IntKind.i64.wrap (n + (719468 : Int)) - IntKind.i64.wrap (x3 * (146097 : Int))) -
                                                              IntKind.i64.wrap ((IntKind.i64.wrap (IntKind.i64.wrap (n + (719468 : Int)) - IntKind.i64.wrap (x3 * (146097 : Int)))).tdiv (1460 : Int))) +
                                                          IntKind.i64.wrap ((IntKind.i64.wrap (IntKind.i64.wrap (n + (719468 : Int)) - IntKind.i64.wrap (x3 * (146097 : Int)))).tdiv (36524 : Int))) -
                                                      IntKind.i64.wrap ((IntKind.i64.wrap (IntKind.i64.wrap (n + (719468 : Int)) - IntKind.i64.wrap (x3 * (146097 : Int)))).tdiv (146096 : Int)))).tdiv
                                                (365 : Int))).tdiv
                                          (4 : Int))) -
                                  IntKind.i64.wrap
                                    ((IntKind.i64.wrap
                                          ((IntKind.i64.wrap
                                                (IntKind.i64.wrap
                                                    (IntKind.i64.wrap
                                                        (IntKind.i64.wrap (IntKind.i64.wrap (n + (719468 : Int)) - IntKind.i64.wrap (x3 * (146097 : Int))) -
                                                          IntKind.i64.wrap ((IntKind.i64.wrap (IntKind.i64.wrap (n + (719468 : Int)) - IntKind.i64.wrap (x3 * (146097 : Int)))).tdiv (1460 : Int))) +
                                                      IntKind.i64.wrap ((IntKind.i64.wrap (IntKind.i64.wrap (n + (719468 : Int)) - IntKind.i64.wrap (x3 * (146097 : Int)))).tdiv (36524 : Int))) -
                                                  IntKind.i64.wrap ((IntKind.i64.wrap (IntKind.i64.wrap (n + (719468 : Int)) - IntKind.i64.wrap (x3 * (146097 : Int)))).tdiv (146096 : Int)))).tdiv
                                            (365 : Int))).tdiv
                                      (100 : Int)))) -
                          IntKind.i64.wrap
                            ((IntKind.i64.wrap
                                  (IntKind.i64.wrap
                                      ((153 : Int) *
                                        IntKind.i64.wrap
                                          ((IntKind.i64.wrap
                                                (IntKind.i64.wrap
                                                    ((5 : Int) *
                                                      IntKind.i64.wrap
                                                        (IntKind.i64.wrap (IntKind.i64.wrap (n + (719468 : Int)) - IntKind.i64.wrap (x3 * (146097 : Int))) -
                                                          IntKind.i64.wrap
                                                            (IntKind.i64.wrap
                                                                (IntKind.i64.wrap
                                                                    ((365 : Int) *
                                                                      IntKind.i64.wrap
                                                                        ((IntKind.i64.wrap
                                                                              (IntKind.i64.wrap
                                                                                  (IntKind.i64.wrap
                                                                                      (IntKind.i64.wrap (IntKind.i64.wrap (n + (719468 : Int)) - IntKind.i64.wrap (x3 * (146097 : Int))) -
                                                                                        IntKind.i64.wrap
                                                                                          ((IntKind.i64.wrap (IntKind.i64.wrap (n + (719468 : Int)) - IntKind.i64.wrap (x3 * (146097 : Int)))).tdiv
                                                                                            (1460 : Int))) +
                                                                                    IntKind.i64.wrap
                                                                                      ((IntKind.i64.wrap (IntKind.i64.wrap (n + (719468 : Int)) - IntKind.i64.wrap (x3 * (146097 : Int)))).tdiv
                                                                                        (36524 : Int))) -
                                                                                IntKind.i64.wrap
                                                                                  ((IntKind.i64.wrap (IntKind.i64.wrap (n + (719468 : Int)) - IntKind.i64.wrap (x3 * (146097 : Int)))).tdiv
                                                                                    (146096 : Int)))).tdiv
                                                                          (365 : Int))) +
                                                                  IntKind.i64.wrap
                                                                    ((IntKind.i64.wrap
                                                                          ((IntKind.i64.wrap
                                                                                (IntKind.i64.wrap
                                                                                    (IntKind.i64.wrap
                                                                                        (IntKind.i64.wrap (IntKind.i64.wrap (n + (719468 : Int)) - IntKind.i64.wrap (x3 * (146097 : Int))) -
                                                                                          IntKind.i64.wrap
                                                                                            ((IntKind.i64.wrap (IntKind.i64.wrap (n + (719468 : Int)) - IntKind.i64.wrap (x3 * (146097 : Int)))).tdiv
                                                                                              (1460 : Int))) +
                                                                                      IntKind.i64.wrap
                                                                                        ((IntKind.i64.wrap (IntKind.i64.wrap (n + (719468 : Int)) - IntKind.i64.wrap (x3 * (146097 : Int)))).tdiv
                                                                                          (36524 : Int))) -
                                                                                  IntKind.i64.wrap
                                                                                    ((IntKind.i64.wrap (IntKind.i64.wrap (n + (719468 : Int)) - IntKind.i64.wrap (x3 * (146097 : Int)))).tdiv
                                                                                      (146096 : Int)))).tdiv
                                                                            (365 : Int))).tdiv
                                                                      (4 : Int))) -
                                                              IntKind.i64.wrap
                                                                ((IntKind.i64.wrap
                                                                      ((IntKind.i64.wrap
                                                                            (IntKind.i64.wrap
                                                                                (IntKind.i64.wrap
                                                                                    (IntKind.i64.wrap (IntKind.i64.wrap (n + (719468 : Int)) - IntKind.i64.wrap (x3 * (146097 : Int))) -
                                                                                      IntKind.i64.wrap
                                                                                        ((IntKind.i64.wrap (IntKind.i64.wrap (n + (719468 : Int)) - IntKind.i64.wrap (x3 * (146097 : Int)))).tdiv
                                                                                          (1460 : Int))) +
                                                                                  IntKind.i64.wrap
                                                                                    ((IntKind.i64.wrap (IntKind.i64.wrap (n + (719468 : Int)) - IntKind.i64.wrap (x3 * (146097 : Int)))).tdiv
                                                                                      (36524 : Int))) -
                                                                              IntKind.i64.wrap
                                                                                ((IntKind.i64.wrap (IntKind.i64.wrap (n + (719468 : Int)) - IntKind.i64.wrap (x3 * (146097 : Int)))).tdiv
                                                                                  (146096 : Int)))).tdiv
                                                                        (365 : Int))).tdiv
                                                                  (100 : Int))))) +
                                                  (2 : Int))).tdiv
                                            (153 : Int))) +
                                    (2 : Int))).tdiv
                              (5 : Int))) +
                      (1 : Int)),
                  (0 : Int))
            else
              some
                (IntKind.i64.wrap
                    (IntKind.i64.wrap
                        ((IntKind.i64.wrap
                              (IntKind.i64.wrap
                                  (IntKind.i64.wrap
                                      (IntKind.i64.wrap (IntKind.i64.wrap (n + (719468 : Int)) - IntKind.i64.wrap (x3 * (146097 : Int))) -
                                        IntKind.i64.wrap ((IntKind.i64.wrap (IntKind.i64.wrap (n + (719468 : Int)) - IntKind.i64.wrap (x3 * (146097 : Int)))).tdiv (1460 : Int))) +
                                    IntKind.i64.wrap ((IntKind.i64.wrap (IntKind.i64.wrap (n + (719468 : Int)) - IntKind.i64.wrap (x3 * (146097 : Int)))).tdiv (36524 : Int))) -
                                IntKind.i64.wrap ((IntKind.i64.wrap (IntKind.i64.wrap (n + (719468 : Int)) - IntKind.i64.wrap (x3 * (146097 : Int)))).tdiv (146096 : Int)))).tdiv
                          (365 : Int)) +
                      IntKind.i64.wrap (x3 * (400 : Int))),
                  IntKind.i64.wrap
                    (IntKind.i64.wrap
                        ((IntKind.i64.wrap
                              (IntKind.i64.wrap
                                  ((5 : Int) *
                                    IntKind.i64.wrap
                                      (IntKind.i64.wrap (IntKind.i64.wrap (n + (719468 : Int)) - IntKind.i64.wrap (x3 * (146097 : Int))) -
                                        IntKind.i64.wrap
                                          (IntKind.i64.wrap
                                              (IntKind.i64.wrap
                                                  ((365 : Int) *
                                                    IntKind.i64.wrap
                                                      ((IntKind.i64.wrap
                                                            (IntKind.i64.wrap
                                                                (IntKind.i64.wrap
                                                                    (IntKind.i64.wrap (IntKind.i64.wrap (n + (719468 : Int)) - IntKind.i64.wrap (x3 * (146097 : Int))) -
                                                                      IntKind.i64.wrap
                                                                        ((IntKind.i64.wrap (IntKind.i64.wrap (n + (719468 : Int)) - IntKind.i64.wrap (x3 * (146097 : Int)))).tdiv (1460 : Int))) +
                                                                  IntKind.i64.wrap
                                                                    ((IntKind.i64.wrap (IntKind.i64.wrap (n + (719468 : Int)) - IntKind.i64.wrap (x3 * (146097 : Int)))).tdiv (36524 : Int))) -
                                                              IntKind.i64.wrap
                                                                ((IntKind.i64.wrap (IntKind.i64.wrap (n + (719468 : Int)) - IntKind.i64.wrap (x3 * (146097 : Int)))).tdiv (146096 : Int)))).tdiv
                                                        (365 : Int))) +
                                                IntKind.i64.wrap
                                                  ((IntKind.i64.wrap
                                                        ((IntKind.i64.wrap
                                                              (IntKind.i64.wrap
                                                                  (IntKind.i64.wrap
                                                                      (IntKind.i64.wrap (IntKind.i64.wrap (n + (719468 : Int)) - IntKind.i64.wrap (x3 * (146097 : Int))) -
                                                                        IntKind.i64.wrap
                                                                          ((IntKind.i64.wrap (IntKind.i64.wrap (n + (719468 : Int)) - IntKind.i64.wrap (x3 * (146097 : Int)))).tdiv (1460 : Int))) +
                                                                    IntKind.i64.wrap
                                                                      ((IntKind.i64.wrap (IntKind.i64.wrap (n + (719468 : Int)) - IntKind.i64.wrap (x3 * (146097 : Int)))).tdiv (36524 : Int))) -
                                                                IntKind.i64.wrap
                                                                  ((IntKind.i64.wrap (IntKind.i64.wrap (n + (719468 : Int)) - IntKind.i64.wrap (x3 * (146097 : Int)))).tdiv (146096 : Int)))).tdiv
                                                          (365 : Int))).tdiv
                                                    (4 : Int))) -
                                            IntKind.i64.wrap
                                              ((IntKind.i64.wrap
                                                    ((IntKind.i64.wrap
                                                          (IntKind.i64.wrap
                                                              (IntKind.i64.wrap
                                                                  (IntKind.i64.wrap (IntKind.i64.wrap (n + (719468 : Int)) - IntKind.i64.wrap (x3 * (146097 : Int))) -
                                                                    IntKind.i64.wrap
                                                                      ((IntKind.i64.wrap (IntKind.i64.wrap (n + (719468 : Int)) - IntKind.i64.wrap (x3 * (146097 : Int)))).tdiv (1460 : Int))) +
                                                                IntKind.i64.wrap
                                                                  ((IntKind.i64.wrap (IntKind.i64.wrap (n + (719468 : Int)) - IntKind.i64.wrap (x3 * (146097 : Int)))).tdiv (36524 : Int))) -
                                                            IntKind.i64.wrap
                                                              ((IntKind.i64.wrap (IntKind.i64.wrap (n + (719468 : Int)) - IntKind.i64.wrap (x3 * (146097 : Int)))).tdiv (146096 : Int)))).tdiv
                                                      (365 : Int))).tdiv
                                                (100 : Int))))) +
                                (2 : Int))).tdiv
                          (153 : Int)) +
                      (3 : Int)),
                  IntKind.i64.wrap
                    (IntKind.i64.wrap
                        (IntKind.i64.wrap
                            (IntKind.i64.wrap (IntKind.i64.wrap (n + (719468 : Int)) - IntKind.i64.wrap (x3 * (146097 : Int))) -
                              IntKind.i64.wrap
                                (IntKind.i64.wrap
                                    (IntKind.i64.wrap
                                        ((365 : Int) *
                                          IntKind.i64.wrap
                                            ((IntKind.i64.wrap
                                                  (IntKind.i64.wrap
                                                      (IntKind.i64.wrap
                                                          (IntKind.i64.wrap (IntKind.i64.wrap (n + (719468 : Int)) - IntKind.i64.wrap (x3 * (146097 : Int))) -
                                                            IntKind.i64.wrap ((IntKind.i64.wrap (IntKind.i64.wrap (n + (719468 : Int)) - IntKind.i64.wrap (x3 * (146097 : Int)))).tdiv (1460 : Int))) +
                                                        IntKind.i64.wrap ((IntKind.i64.wrap (IntKind.i64.wrap (n + (719468 : Int)) - IntKind.i64.wrap (x3 * (146097 : Int)))).tdiv (36524 : Int))) -
                                                    IntKind.i64.wrap ((IntKind.i64.wrap (IntKind.i64.wrap (n + (719468 : Int)) - IntKind.i64.wrap (x3 * (146097 : Int)))).tdiv (146096 : Int)))).tdiv
                                              (365 : Int))) +
                                      IntKind.i64.wrap
                                        ((IntKind.i64.wrap
                                              ((IntKind.i64.wrap
                                                    (IntKind.i64.wrap
                                                        (IntKind.i64.wrap
                                                            (IntKind.i64.wrap (IntKind.i64.wrap (n + (719468 : Int)) - IntKind.i64.wrap (x3 * (146097 : Int))) -
                                                              IntKind.i64.wrap ((IntKind.i64.wrap (IntKind.i64.wrap (n + (719468 : Int)) - IntKind.i64.wrap (x3 * (146097 : Int)))).tdiv (1460 : Int))) +
                                                          IntKind.i64.wrap ((IntKind.i64.wrap (IntKind.i64.wrap (n + (719468 : Int)) - IntKind.i64.wrap (x3 * (146097 : Int)))).tdiv (36524 : Int))) -
                                                      IntKind.i64.wrap ((IntKind.i64.wrap (IntKind.i64.wrap (n + (719468 : Int)) - IntKind.i64.wrap (x3 * (146097 : Int)))).tdiv (146096 : Int)))).tdiv
                                                (365 : Int))).tdiv
                                          (4 : Int))) -
                                  IntKind.i64.wrap
                                    ((IntKind.i64.wrap
                                          ((IntKind.i64.wrap
                                                (IntKind.i64.wrap
                                                    (IntKind.i64.wrap
                                                        (IntKind.i64.wrap (IntKind.i64.wrap (n + (719468 : Int)) - IntKind.i64.wrap (x3 * (146097 : Int))) -
                                                          IntKind.i64.wrap ((IntKind.i64.wrap (IntKind.i64.wrap (n + (719468 : Int)) - IntKind.i64.wrap (x3 * (146097 : Int)))).tdiv (1460 : Int))) +
                                                      IntKind.i64.wrap ((IntKind.i64.wrap (IntKind.i64.wrap (n + (719468 : Int)) - IntKind.i64.wrap (x3 * (146097 : Int)))).tdiv (36524 : Int))) -
                                                  IntKind.i64.wrap ((IntKind.i64.wrap (IntKind.i64.wrap (n + (719468 : Int)) - IntKind.i64.wrap (x3 * (146097 : Int)))).tdiv (146096 : Int)))).tdiv
                                            (365 : Int))).tdiv
                                      (100 : Int)))) -
                          IntKind.i64.wrap
                            ((IntKind.i64.wrap
                                  (IntKind.i64.wrap
                                      ((153 : Int) *
                                        IntKind.i64.wrap
                                          ((IntKind.i64.wrap
                                                (IntKind.i64.wrap
                                                    ((5 : Int) *
                                                      IntKind.i64.wrap
                                                        (IntKind.i64.wrap (IntKind.i64.wrap (n + (719468 : Int)) - IntKind.i64.wrap (x3 * (146097 : Int))) -
                                                          IntKind.i64.wrap
                                                            (IntKind.i64.wrap
                                                                (IntKind.i64.wrap
                                                                    ((365 : Int) *
                                                                      IntKind.i64.wrap
                                                                        ((IntKind.i64.wrap
                                                                              (IntKind.i64.wrap
                                                                                  (IntKind.i64.wrap
                                                                                      (IntKind.i64.wrap (IntKind.i64.wrap (n + (719468 : Int)) - IntKind.i64.wrap (x3 * (146097 : Int))) -
                                                                                        IntKind.i64.wrap
                                                                                          ((IntKind.i64.wrap (IntKind.i64.wrap (n + (719468 : Int)) - IntKind.i64.wrap (x3 * (146097 : Int)))).tdiv
                                                                                            (1460 : Int))) +
                                                                                    IntKind.i64.wrap
                                                                                      ((IntKind.i64.wrap (IntKind.i64.wrap (n + (719468 : Int)) - IntKind.i64.wrap (x3 * (146097 : Int)))).tdiv
                                                                                        (36524 : Int))) -
                                                                                IntKind.i64.wrap
                                                                                  ((IntKind.i64.wrap (IntKind.i64.wrap (n + (719468 : Int)) - IntKind.i64.wrap (x3 * (146097 : Int)))).tdiv
                                                                                    (146096 : Int)))).tdiv
                                                                          (365 : Int))) +
                                                                  IntKind.i64.wrap
                                                                    ((IntKind.i64.wrap
                                                                          ((IntKind.i64.wrap
                                                                                (IntKind.i64.wrap
                                                                                    (IntKind.i64.wrap
                                                                                        (IntKind.i64.wrap (IntKind.i64.wrap (n + (719468 : Int)) - IntKind.i64.wrap (x3 * (146097 : Int))) -
                                                                                          IntKind.i64.wrap
                                                                                            ((IntKind.i64.wrap (IntKind.i64.wrap (n + (719468 : Int)) - IntKind.i64.wrap (x3 * (146097 : Int)))).tdiv
                                                                                              (1460 : Int))) +
                                                                                      IntKind.i64.wrap
                                                                                        ((IntKind.i64.wrap (IntKind.i64.wrap (n + (719468 : Int)) - IntKind.i64.wrap (x3 * (146097 : Int)))).tdiv
                                                                                          (36524 : Int))) -
                                                                                  IntKind.i64.wrap
                                                                                    ((IntKind.i64.wrap (IntKind.i64.wrap (n + (719468 : Int)) - IntKind.i64.wrap (x3 * (146097 : Int)))).tdiv
                                                                                      (146096 : Int)))).tdiv
                                                                            (365 : Int))).tdiv
                                                                      (4 : Int))) -
                                                              IntKind.i64.wrap
                                                                ((IntKind.i64.wrap
                                                                      ((IntKind.i64.wrap
                                                                            (IntKind.i64.wrap
                                                                                (IntKind.i64.wrap
                                                                                    (IntKind.i64.wrap (IntKind.i64.wrap (n + (719468 : Int)) - IntKind.i64.wrap (x3 * (146097 : Int))) -
                                                                                      IntKind.i64.wrap
                                                                                        ((IntKind.i64.wrap (IntKind.i64.wrap (n + (719468 : Int)) - IntKind.i64.wrap (x3 * (146097 : Int)))).tdiv
                                                                                          (1460 : Int))) +
                                                                                  IntKind.i64.wrap
                                                                                    ((IntKind.i64.wrap (IntKind.i64.wrap (n + (719468 : Int)) - IntKind.i64.wrap (x3 * (146097 : Int)))).tdiv
                                                                                      (36524 : Int))) -
                                                                              IntKind.i64.wrap
                                                                                ((IntKind.i64.wrap (IntKind.i64.wrap (n + (719468 : Int)) - IntKind.i64.wrap (x3 * (146097 : Int)))).tdiv
                                                                                  (146096 : Int)))).tdiv
                                                                        (365 : Int))).tdiv
                                                                  (100 : Int))))) +
                                                  (2 : Int))).tdiv
                                            (153 : Int))) +
                                    (2 : Int))).tdiv
                              (5 : Int))) +
                      (1 : Int)),
                  (0 : Int))) := by kernel_rfl


/-! ### horologe/day.Start -/
noncomputable abbrev ct_dayStart : List (FuncId × Bool × SpecT) := [(158, false, s_dayNumber)]
theorem cs_dayStart : AllSound Tryd.prog ct_dayStart := ⟨so_dayNumber, trivial⟩
noncomputable def F_dayStart (x : (Int)) : Option (Int × Int) := (evalF Tryd.prog (lookT ct_dayStart) (keepT []) (loopsT []) false false Tryd.f166 (codP [pI]) 2 (codP [pI, pE]) x).run
noncomputable abbrev s_dayStart : SpecT := specF (codP [pI]) 2 (codP [pI, pE]) F_dayStart
theorem so_dayStart : SoundT Tryd.prog 166 s_dayStart := soundG (P := Tryd.prog) mixed (t := ct_dayStart) cs_dayStart (f := 166) (fn := Tryd.f166) Tryd.func166 (by kernel_rfl) (by kernel_rfl) (by kernel_rfl) (ls := []) (by kernel_rfl) (kp := keepT []) (lps := loopsT []) (bump := false) (ice := false) (A := (codP [pI])) (n := 2) (R := (codP [pI, pE])) fun _ => lps_nil

theorem e_dayStart (y : Int) : F_dayStart y = (
  bif decide (y < (-20000 : Int)) then some ((0 : Int), (13 : Int))
  else bif decide ((20000 : Int) < y) then some ((0 : Int), (13 : Int)) else (F_dayNumber (y, (1 : Int), (1 : Int))).bind fun x1 => some (x1, (0 : Int))) := by kernel_rfl


/-! ### horologe/day.Weekday -/
noncomputable abbrev ct_dayWeekday : List (FuncId × Bool × SpecT) := []
theorem cs_dayWeekday : AllSound Tryd.prog ct_dayWeekday := trivial
noncomputable def F_dayWeekday (x : (Int)) : Option (Int) := (evalF Tryd.prog (lookT ct_dayWeekday) (keepT []) (loopsT []) false false Tryd.f179 (codP [pI]) 1 (codP [pI]) x).run
noncomputable abbrev s_dayWeekday : SpecT := specF (codP [pI]) 1 (codP [pI]) F_dayWeekday
theorem so_dayWeekday : SoundT Tryd.prog 179 s_dayWeekday := soundG (P := Tryd.prog) mixed (t := ct_dayWeekday) cs_dayWeekday (f := 179) (fn := Tryd.f179) Tryd.func179 (by kernel_rfl) (by kernel_rfl) (by kernel_rfl) (ls := []) (by kernel_rfl) (kp := keepT []) (lps := loopsT []) (bump := false) (ice := false) (A := (codP [pI])) (n := 1) (R := (codP [pI])) fun _ => lps_nil

theorem e_dayWeekday (n : Int) : F_dayWeekday n = (
  some (IntKind.i64.wrap ((IntKind.i64.wrap ((IntKind.i64.wrap (n.tmod (7 : Int) + (3 : Int))).tmod (7 : Int) + (7 : Int))).tmod (7 : Int) + (1 : Int)))) := by kernel_rfl


/-! ### horologe/rule.month -/
noncomputable abbrev ct_ruleMonth : List (FuncId × Bool × SpecT) := [(166, false, s_dayStart), (185, false, s_dayMonth)]
theorem cs_ruleMonth : AllSound Tryd.prog ct_ruleMonth := ⟨so_dayStart, so_dayMonth, trivial⟩
-- loop 0 (key 5) exit 0: [0, 1, 6, 8]
-- loop 0 (key 5) exit 2: [4, 5]
-- loop 0 (key 5) exit 3: [6]
abbrev kp_ruleMonth : Keep := keepT [(5, 0, [(0, none), (1, none), (6, none), (8, none)]), (5, 2, [(4, none), (5, none)]), (5, 3, [(6, none)])]
noncomputable abbrev b_ruleMonth_0 : Code := loopAt Tryd.f178 0
noncomputable def sp_ruleMonth_0 (x : (Int × Int × Int × Int)) : Option ((Int × Int × Int × Int) ⊕ ((Int × Int) ⊕ (Int))) := (stepL Tryd.prog (lookT ct_ruleMonth) kp_ruleMonth (loopsT []) 0 false b_ruleMonth_0 (codP [pI, pI, pI, pI]) (exS (exO .ret (codP [pI, pE])) (exO (.ext 0) (codP [pI]))) x).run
noncomputable def w_ruleMonth_0 : (Int × Int × Int × Int) → Option ((Int × Int) ⊕ (Int)) := whileO sp_ruleMonth_0
theorem ew_ruleMonth_0 (x : (Int × Int × Int × Int)) : w_ruleMonth_0 x = (sp_ruleMonth_0 x).bind (Sum.elim w_ruleMonth_0 some) := whileO_eq _ _
noncomputable abbrev l_ruleMonth_0 : LT := ltF (codP [pI, pI, pI, pI]) (exS (exO .ret (codP [pI, pE])) (exO (.ext 0) (codP [pI]))) w_ruleMonth_0
theorem lo_ruleMonth_0 : LoopOk Tryd.prog Tryd.f178.ntmps kp_ruleMonth 0 false b_ruleMonth_0 l_ruleMonth_0 := loopG mixed cs_ruleMonth (lps := loopsT []) (by kernel_rfl) (ls := []) (by kernel_rfl) lps_nil
noncomputable def F_ruleMonth (x : (Int × Int)) : Option (Int × Int) := (evalF Tryd.prog (lookT ct_ruleMonth) (kp_ruleMonth) (loopsT [(5, l_ruleMonth_0)]) false false Tryd.f178 (codP [pI, pI]) 2 (codP [pI, pE]) x).run
noncomputable abbrev s_ruleMonth : SpecT := specF (codP [pI, pI]) 2 (codP [pI, pE]) F_ruleMonth
theorem so_ruleMonth : SoundT Tryd.prog 178 s_ruleMonth := soundG (P := Tryd.prog) mixed (t := ct_ruleMonth) cs_ruleMonth (f := 178) (fn := Tryd.f178) Tryd.func178 (by kernel_rfl) (by kernel_rfl) (by kernel_rfl) (ls := [b_ruleMonth_0]) (by kernel_rfl) (kp := kp_ruleMonth) (lps := loopsT [(5, l_ruleMonth_0)]) (bump := false) (ice := false) (A := (codP [pI, pI])) (n := 2) (R := (codP [pI, pE])) fun _ => (lps_cons l_ruleMonth_0 (by kernel_rfl) lo_ruleMonth_0 lps_nil)

theorem es_ruleMonth_0 (y w n m : Int) : sp_ruleMonth_0 (y, w, n, m) = (
  bif decide (m < w) then
    (F_dayMonth (IntKind.i64.wrap (y.tmod (400 : Int) + (2000 : Int)), m)).bind fun x1 =>
      bif decide (x1.snd ≠ (0 : Int)) then some (Sum.inr (Sum.inl ((0 : Int), x1.snd))) else some (Sum.inl (y, w, IntKind.i64.wrap (n + x1.fst), IntKind.i64.wrap (m + (1 : Int))))
  else some (Sum.inr (Sum.inr n))) := by kernel_rfl

theorem e_ruleMonth (y w : Int) : F_ruleMonth (y, w) = (
  (F_dayStart y).bind fun x1 =>
    bif decide (x1.snd ≠ (0 : Int)) then some ((0 : Int), x1.snd) else (w_ruleMonth_0 (y, w, x1.fst, (1 : Int))).bind fun x2 => Sum.elim (fun x3 => some x3) (fun x3 => some (x3, (0 : Int))) x2) := by kernel_rfl


/-! ### (horologe/rule.Rule).weekly -/
noncomputable abbrev ct_ruleWeek : List (FuncId × Bool × SpecT) := [(178, false, s_ruleMonth), (179, false, s_dayWeekday)]
theorem cs_ruleWeek : AllSound Tryd.prog ct_ruleWeek := ⟨so_ruleMonth, so_dayWeekday, trivial⟩
noncomputable def F_ruleWeek (x : ((Int × Int × Int × Int × Int) × Int)) : Option (Int × Int) := (evalF Tryd.prog (lookT ct_ruleWeek) (keepT []) (loopsT []) false false Tryd.f165 (codP [pRule, pI]) 2 (codP [pI, pE]) x).run
noncomputable abbrev s_ruleWeek : SpecT := specF (codP [pRule, pI]) 2 (codP [pI, pE]) F_ruleWeek
theorem so_ruleWeek : SoundT Tryd.prog 165 s_ruleWeek := soundG (P := Tryd.prog) mixed (t := ct_ruleWeek) cs_ruleWeek (f := 165) (fn := Tryd.f165) Tryd.func165 (by kernel_rfl) (by kernel_rfl) (by kernel_rfl) (ls := []) (by kernel_rfl) (kp := keepT []) (lps := loopsT []) (bump := false) (ice := false) (A := (codP [pRule, pI])) (n := 2) (R := (codP [pI, pE])) fun _ => lps_nil

theorem e_ruleWeek (k m w d t : Int) (y : Int) : F_ruleWeek ((k, m, w, d, t), y) = (
  (F_ruleMonth (y, m)).bind fun x1 =>
    bif decide (x1.snd ≠ (0 : Int)) then some ((0 : Int), x1.snd)
    else
      (F_ruleMonth (y, IntKind.i64.wrap (m + (1 : Int)))).bind fun x2 =>
        bif decide (x2.snd ≠ (0 : Int)) then some ((0 : Int), x2.snd)
        else
          (F_dayWeekday x1.fst).bind fun x3 =>
            bif
                decide
                  (x2.fst ≤
                    IntKind.i64.wrap
                      (x1.fst +
                        IntKind.i64.wrap
                          ((IntKind.i64.wrap (IntKind.i64.wrap (d - x3.tmod (7 : Int)) + (7 : Int))).tmod (7 : Int) + IntKind.i64.wrap ((7 : Int) * IntKind.i64.wrap (w - (1 : Int)))))) then
              some
                (IntKind.i64.wrap
                    (IntKind.i64.wrap
                        (x1.fst +
                          IntKind.i64.wrap ((IntKind.i64.wrap (IntKind.i64.wrap (d - x3.tmod (7 : Int)) + (7 : Int))).tmod (7 : Int) + IntKind.i64.wrap ((7 : Int) * IntKind.i64.wrap (w - (1 : Int))))) -
                      (7 : Int)),
                  (0 : Int))
            else
              some
                (IntKind.i64.wrap
                    (x1.fst +
                      IntKind.i64.wrap ((IntKind.i64.wrap (IntKind.i64.wrap (d - x3.tmod (7 : Int)) + (7 : Int))).tmod (7 : Int) + IntKind.i64.wrap ((7 : Int) * IntKind.i64.wrap (w - (1 : Int))))),
                  (0 : Int))) := by kernel_rfl


/-! ### horologe/rule.Day -/
noncomputable abbrev ct_ruleDay : List (FuncId × Bool × SpecT) := [(68, false, s_ruleCheck), (103, false, s_ruleIn), (165, false, s_ruleWeek), (166, false, s_dayStart), (167, false, s_dayLeap)]
theorem cs_ruleDay : AllSound Tryd.prog ct_ruleDay := ⟨so_ruleCheck, so_ruleIn, so_ruleWeek, so_dayStart, so_dayLeap, trivial⟩
noncomputable def F_ruleDay (x : ((Int × Int × Int × Int × Int) × Int)) : Option (Int × Int) := (evalF Tryd.prog (lookT ct_ruleDay) (keepT []) (loopsT []) false false Tryd.f139 (codP [pRule, pI]) 2 (codP [pI, pE]) x).run
noncomputable abbrev s_ruleDay : SpecT := specF (codP [pRule, pI]) 2 (codP [pI, pE]) F_ruleDay
theorem so_ruleDay : SoundT Tryd.prog 139 s_ruleDay := soundG (P := Tryd.prog) mixed (t := ct_ruleDay) cs_ruleDay (f := 139) (fn := Tryd.f139) Tryd.func139 (by kernel_rfl) (by kernel_rfl) (by kernel_rfl) (ls := []) (by kernel_rfl) (kp := keepT []) (lps := loopsT []) (bump := false) (ice := false) (A := (codP [pRule, pI])) (n := 2) (R := (codP [pI, pE])) fun _ => lps_nil

theorem e_ruleDay (k m w d t : Int) (y : Int) : F_ruleDay ((k, m, w, d, t), y) = (
  (F_ruleCheck (k, m, w, d, t)).bind fun x1 =>
    bif decide (x1 ≠ (0 : Int)) then some ((0 : Int), x1)
    else
      (F_ruleIn (y, (-10001 : Int), (10001 : Int))).bind fun x2 =>
        bif !x2 then some ((0 : Int), (13 : Int))
        else
          bif decide (k = (3 : Int)) then (F_ruleWeek ((k, m, w, d, t), y)).bind fun x3 => some x3
          else
            (F_dayStart y).bind fun x3 =>
              bif decide (x3.snd ≠ (0 : Int)) then some ((0 : Int), x3.snd)
              else
                bif decide (k = (1 : Int)) then
                  bif decide (d < (60 : Int)) then some (IntKind.i64.wrap (IntKind.i64.wrap (x3.fst + d) - (1 : Int)), (0 : Int))
                  else (F_dayLeap y).bind fun x4 => bif !x4 then some (IntKind.i64.wrap (IntKind.i64.wrap (x3.fst + d) - (1 : Int)), (0 : Int)) else some (IntKind.i64.wrap (x3.fst + d), (0 : Int))
                else some (IntKind.i64.wrap (x3.fst + d), (0 : Int))) := by kernel_rfl


/-! ### horologe/rule.At -/
noncomputable abbrev ct_ruleAt : List (FuncId × Bool × SpecT) := [(139, false, s_ruleDay)]
theorem cs_ruleAt : AllSound Tryd.prog ct_ruleAt := ⟨so_ruleDay, trivial⟩
noncomputable def F_ruleAt (x : ((Int × Int × Int × Int × Int) × Int)) : Option (Int × Int) := (evalF Tryd.prog (lookT ct_ruleAt) (keepT []) (loopsT []) false false Tryd.f114 (codP [pRule, pI]) 2 (codP [pI, pE]) x).run
noncomputable abbrev s_ruleAt : SpecT := specF (codP [pRule, pI]) 2 (codP [pI, pE]) F_ruleAt
theorem so_ruleAt : SoundT Tryd.prog 114 s_ruleAt := soundG (P := Tryd.prog) mixed (t := ct_ruleAt) cs_ruleAt (f := 114) (fn := Tryd.f114) Tryd.func114 (by kernel_rfl) (by kernel_rfl) (by kernel_rfl) (ls := []) (by kernel_rfl) (kp := keepT []) (lps := loopsT []) (bump := false) (ice := false) (A := (codP [pRule, pI])) (n := 2) (R := (codP [pI, pE])) fun _ => lps_nil

theorem e_ruleAt (k m w d t : Int) (y : Int) : F_ruleAt ((k, m, w, d, t), y) = (
  (F_ruleDay ((k, m, w, d, t), y)).bind fun x1 => bif decide (x1.snd ≠ (0 : Int)) then some ((0 : Int), x1.snd) else some (IntKind.i64.wrap (IntKind.i64.wrap (x1.fst * (86400 : Int)) + t), (0 : Int))) := by kernel_rfl


/-! ### horologe/footer.year -/
noncomputable abbrev ct_ftYear : List (FuncId × Bool × SpecT) := [(115, false, s_numSplit), (116, false, s_dayDate)]
theorem cs_ftYear : AllSound Tryd.prog ct_ftYear := ⟨so_numSplit, so_dayDate, trivial⟩
noncomputable def F_ftYear (x : (Int)) : Option (Int × Int) := (evalF Tryd.prog (lookT ct_ftYear) (keepT []) (loopsT []) false false Tryd.f82 (codP [pI]) 2 (codP [pI, pE]) x).run
noncomputable abbrev s_ftYear : SpecT := specF (codP [pI]) 2 (codP [pI, pE]) F_ftYear
theorem so_ftYear : SoundT Tryd.prog 82 s_ftYear := soundG (P := Tryd.prog) mixed (t := ct_ftYear) cs_ftYear (f := 82) (fn := Tryd.f82) Tryd.func82 (by kernel_rfl) (by kernel_rfl) (by kernel_rfl) (ls := []) (by kernel_rfl) (kp := keepT []) (lps := loopsT []) (bump := false) (ice := false) (A := (codP [pI])) (n := 2) (R := (codP [pI, pE])) fun _ => lps_nil

theorem e_ftYear (t : Int) : F_ftYear t = (
  (F_numSplit (t, (86400 : Int))).bind fun x1 => bif decide (x1.snd.snd ≠ (0 : Int)) then some ((0 : Int), x1.snd.snd) else (F_dayDate x1.fst).bind fun x2 => some (x2.fst, x2.snd.snd.snd)) := by kernel_rfl


/-! ### horologe/footer.turns -/
noncomputable abbrev ct_ftTurns : List (FuncId × Bool × SpecT) := [(114, false, s_ruleAt)]
theorem cs_ftTurns : AllSound Tryd.prog ct_ftTurns := ⟨so_ruleAt, trivial⟩
noncomputable def F_ftTurns (x : ((List UInt8 × List UInt8 × Int × Int × (Int × Int × Int × Int × Int) × (Int × Int × Int × Int × Int)) × Int)) : Option (Int × Int × Int) := (evalF Tryd.prog (lookT ct_ftTurns) (keepT []) (loopsT []) false false Tryd.f81 (codP [pPlan, pI]) 3 (codP [pI, pI, pE]) x).run
noncomputable abbrev s_ftTurns : SpecT := specF (codP [pPlan, pI]) 3 (codP [pI, pI, pE]) F_ftTurns
theorem so_ftTurns : SoundT Tryd.prog 81 s_ftTurns := soundG (P := Tryd.prog) mixed (t := ct_ftTurns) cs_ftTurns (f := 81) (fn := Tryd.f81) Tryd.func81 (by kernel_rfl) (by kernel_rfl) (by kernel_rfl) (ls := []) (by kernel_rfl) (kp := keepT []) (lps := loopsT []) (bump := false) (ice := false) (A := (codP [pPlan, pI])) (n := 3) (R := (codP [pI, pI, pE])) fun _ => lps_nil

theorem e_ftTurns (p : List UInt8 × List UInt8 × Int × Int × (Int × Int × Int × Int × Int) × (Int × Int × Int × Int × Int)) (y : Int) : F_ftTurns (p, y) = (
  (F_ruleAt (p.snd.snd.snd.snd.fst, y)).bind fun x1 =>
    bif decide (x1.snd ≠ (0 : Int)) then some ((0 : Int), (0 : Int), x1.snd)
    else
      (F_ruleAt (p.snd.snd.snd.snd.snd, y)).bind fun x2 =>
        bif decide (x2.snd ≠ (0 : Int)) then some ((0 : Int), (0 : Int), x2.snd) else some (IntKind.i64.wrap (x1.fst - p.snd.snd.fst), IntKind.i64.wrap (x2.fst - p.snd.snd.snd.fst), (0 : Int))) := by kernel_rfl


/-! ### horologe/footer.Turns -/
noncomputable abbrev ct_FtTurns : List (FuncId × Bool × SpecT) := [(28, false, s_pxCheck), (33, false, s_pxChanges), (81, false, s_ftTurns)]
theorem cs_FtTurns : AllSound Tryd.prog ct_FtTurns := ⟨so_pxCheck, so_pxChanges, so_ftTurns, trivial⟩
noncomputable def F_FtTurns (x : ((List UInt8 × List UInt8 × Int × Int × (Int × Int × Int × Int × Int) × (Int × Int × Int × Int × Int)) × Int)) : Option (Int × Int × Int) := (evalF Tryd.prog (lookT ct_FtTurns) (keepT []) (loopsT []) false false Tryd.f38 (codP [pPlan, pI]) 3 (codP [pI, pI, pE]) x).run
noncomputable abbrev s_FtTurns : SpecT := specF (codP [pPlan, pI]) 3 (codP [pI, pI, pE]) F_FtTurns
theorem so_FtTurns : SoundT Tryd.prog 38 s_FtTurns := soundG (P := Tryd.prog) mixed (t := ct_FtTurns) cs_FtTurns (f := 38) (fn := Tryd.f38) Tryd.func38 (by kernel_rfl) (by kernel_rfl) (by kernel_rfl) (ls := []) (by kernel_rfl) (kp := keepT []) (lps := loopsT []) (bump := false) (ice := false) (A := (codP [pPlan, pI])) (n := 3) (R := (codP [pI, pI, pE])) fun _ => lps_nil

theorem e_FtTurns (p : List UInt8 × List UInt8 × Int × Int × (Int × Int × Int × Int × Int) × (Int × Int × Int × Int × Int)) (y : Int) : F_FtTurns (p, y) = (
  (F_pxCheck p).bind fun x1 =>
    bif decide (x1 ≠ (0 : Int)) then some ((0 : Int), (0 : Int), x1)
    else
      (F_pxChanges p).bind fun x2 =>
        bif !x2 then some ((0 : Int), (0 : Int), (8 : Int))
        else
          bif decide (y < (-10001 : Int)) then some ((0 : Int), (0 : Int), (13 : Int))
          else bif decide ((10001 : Int) < y) then some ((0 : Int), (0 : Int), (13 : Int)) else (F_ftTurns (p, y)).bind fun x3 => some x3) := by kernel_rfl


/-! ### horologe/footer.about -/
noncomputable abbrev ct_ftAbout : List (FuncId × Bool × SpecT) := [(81, false, s_ftTurns)]
theorem cs_ftAbout : AllSound Tryd.prog ct_ftAbout := ⟨so_ftTurns, trivial⟩
-- loop 0 (key 2) exit 0: [1, 2, 4, 5, 7]
-- loop 0 (key 2) exit 2: [4, 5, 6]
-- loop 0 (key 2) exit 3: [4, 5]
abbrev kp_ftAbout : Keep := keepT [(2, 0, [(1, none), (2, none), (4, some cI), (5, some cI), (7, none)]), (2, 2, [(4, none), (5, none), (6, none)]), (2, 3, [(4, some cI), (5, some cI)])]
noncomputable abbrev b_ftAbout_0 : Code := loopAt Tryd.f84 0
noncomputable def sp_ftAbout_0 (x : (Int × (List UInt8 × List UInt8 × Int × Int × (Int × Int × Int × Int × Int) × (Int × Int × Int × Int × Int)) × (List Int) × (List Int) × Int)) : Option ((Int × (List UInt8 × List UInt8 × Int × Int × (Int × Int × Int × Int × Int) × (Int × Int × Int × Int × Int)) × (List Int) × (List Int) × Int) ⊕ (((List Int) × (List Int) × Int) ⊕ ((List Int) × (List Int)))) := (stepL Tryd.prog (lookT ct_ftAbout) kp_ftAbout (loopsT []) 0 false b_ftAbout_0 (codP [pI, (.box cPlan), (.own cI), (.own cI), pI]) (exS (exO .ret (codP [pL, pL, pE])) (exO (.ext 0) (codP [(.own cI), (.own cI)]))) x).run
noncomputable def w_ftAbout_0 : (Int × (List UInt8 × List UInt8 × Int × Int × (Int × Int × Int × Int × Int) × (Int × Int × Int × Int × Int)) × (List Int) × (List Int) × Int) → Option (((List Int) × (List Int) × Int) ⊕ ((List Int) × (List Int))) := whileO sp_ftAbout_0
theorem ew_ftAbout_0 (x : (Int × (List UInt8 × List UInt8 × Int × Int × (Int × Int × Int × Int × Int) × (Int × Int × Int × Int × Int)) × (List Int) × (List Int) × Int)) : w_ftAbout_0 x = (sp_ftAbout_0 x).bind (Sum.elim w_ftAbout_0 some) := whileO_eq _ _
noncomputable abbrev l_ftAbout_0 : LT := ltF (codP [pI, (.box cPlan), (.own cI), (.own cI), pI]) (exS (exO .ret (codP [pL, pL, pE])) (exO (.ext 0) (codP [(.own cI), (.own cI)]))) w_ftAbout_0
theorem lo_ftAbout_0 : LoopOk Tryd.prog Tryd.f84.ntmps kp_ftAbout 0 false b_ftAbout_0 l_ftAbout_0 := loopG mixed cs_ftAbout (lps := loopsT []) (by kernel_rfl) (ls := []) (by kernel_rfl) lps_nil
noncomputable def F_ftAbout (x : ((List UInt8 × List UInt8 × Int × Int × (Int × Int × Int × Int × Int) × (Int × Int × Int × Int × Int)) × Int)) : Option ((List Int) × (List Int) × Int) := (evalF Tryd.prog (lookT ct_ftAbout) (kp_ftAbout) (loopsT [(2, l_ftAbout_0)]) false true Tryd.f84 (codP [pPlan, pI]) 3 (codP [pL, pL, pE]) x).run
noncomputable abbrev s_ftAbout : SpecT := specF (codP [pPlan, pI]) 3 (codP [pL, pL, pE]) F_ftAbout
theorem so_ftAbout : SoundT Tryd.prog 84 s_ftAbout := soundG (P := Tryd.prog) mixed (t := ct_ftAbout) cs_ftAbout (f := 84) (fn := Tryd.f84) Tryd.func84 (by kernel_rfl) (by kernel_rfl) (by kernel_rfl) (ls := [b_ftAbout_0]) (by kernel_rfl) (kp := kp_ftAbout) (lps := loopsT [(2, l_ftAbout_0)]) (bump := false) (ice := true) (A := (codP [pPlan, pI])) (n := 3) (R := (codP [pL, pL, pE])) fun _ => (lps_cons l_ftAbout_0 (by kernel_rfl) lo_ftAbout_0 lps_nil)

theorem es_ftAbout_0 (y : Int) (p : List UInt8 × List UInt8 × Int × Int × (Int × Int × Int × Int × Int) × (Int × Int × Int × Int × Int)) (b e : List Int) (k : Int) : sp_ftAbout_0 (y, p, b, e, k) = (
  bif decide (k ≤ IntKind.i64.wrap (y + (2 : Int))) then
    (F_ftTurns (p, k)).bind fun x1 =>
      bif decide (x1.snd.snd ≠ (0 : Int)) then some (Sum.inr (Sum.inl ([], [], x1.snd.snd)))
      else
        bif roomB b.length [x1.fst].length (8 : Nat) then
          bif roomB e.length [x1.snd.fst].length (8 : Nat) then some (Sum.inl (y, p, b ++ [x1.fst], e ++ [x1.snd.fst], IntKind.i64.wrap (k + (1 : Int)))) else none
        else none
  else some (Sum.inr (Sum.inr (b, e)))) := by kernel_rfl

theorem e_ftAbout (p : List UInt8 × List UInt8 × Int × Int × (Int × Int × Int × Int × Int) × (Int × Int × Int × Int × Int)) (y : Int) : F_ftAbout (p, y) = (
  (w_ftAbout_0 (y, p, [], [], IntKind.i64.wrap (y - (2 : Int)))).bind fun x1 => Sum.elim (fun x2 => some x2) (fun x2 => some (x2.fst, x2.snd, (0 : Int))) x1) := by kernel_rfl


/-! ### cmp.isNaN[int64] -/
noncomputable abbrev ct_cmpIsNaN : List (FuncId × Bool × SpecT) := []
theorem cs_cmpIsNaN : AllSound Tryd.prog ct_cmpIsNaN := trivial
noncomputable def F_cmpIsNaN (x : (Int)) : Option (Bool) := (evalF Tryd.prog (lookT ct_cmpIsNaN) (keepT []) (loopsT []) false false Tryd.f159 (codP [pI]) 1 (codP [pB]) x).run
noncomputable abbrev s_cmpIsNaN : SpecT := specF (codP [pI]) 1 (codP [pB]) F_cmpIsNaN
theorem so_cmpIsNaN : SoundT Tryd.prog 159 s_cmpIsNaN := soundG (P := Tryd.prog) mixed (t := ct_cmpIsNaN) cs_cmpIsNaN (f := 159) (fn := Tryd.f159) Tryd.func159 (by kernel_rfl) (by kernel_rfl) (by kernel_rfl) (ls := []) (by kernel_rfl) (kp := keepT []) (lps := loopsT []) (bump := false) (ice := false) (A := (codP [pI])) (n := 1) (R := (codP [pB])) fun _ => lps_nil

theorem e_cmpIsNaN (x : Int) : F_cmpIsNaN x = (
  some (decide (x ≠ x))) := by kernel_rfl


/-! ### slices.isNaN[int64] -/
noncomputable abbrev ct_slIsNaN : List (FuncId × Bool × SpecT) := []
theorem cs_slIsNaN : AllSound Tryd.prog ct_slIsNaN := trivial
noncomputable def F_slIsNaN (x : (Int)) : Option (Bool) := (evalF Tryd.prog (lookT ct_slIsNaN) (keepT []) (loopsT []) false false Tryd.f134 (codP [pI]) 1 (codP [pB]) x).run
noncomputable abbrev s_slIsNaN : SpecT := specF (codP [pI]) 1 (codP [pB]) F_slIsNaN
theorem so_slIsNaN : SoundT Tryd.prog 134 s_slIsNaN := soundG (P := Tryd.prog) mixed (t := ct_slIsNaN) cs_slIsNaN (f := 134) (fn := Tryd.f134) Tryd.func134 (by kernel_rfl) (by kernel_rfl) (by kernel_rfl) (ls := []) (by kernel_rfl) (kp := keepT []) (lps := loopsT []) (bump := false) (ice := false) (A := (codP [pI])) (n := 1) (R := (codP [pB])) fun _ => lps_nil

theorem e_slIsNaN (x : Int) : F_slIsNaN x = (
  some (decide (x ≠ x))) := by kernel_rfl


/-! ### cmp.Less[int64] -/
noncomputable abbrev ct_cmpLess : List (FuncId × Bool × SpecT) := [(159, false, s_cmpIsNaN)]
theorem cs_cmpLess : AllSound Tryd.prog ct_cmpLess := ⟨so_cmpIsNaN, trivial⟩
noncomputable def F_cmpLess (x : (Int × Int)) : Option (Bool) := (evalF Tryd.prog (lookT ct_cmpLess) (keepT []) (loopsT []) false false Tryd.f133 (codP [pI, pI]) 1 (codP [pB]) x).run
noncomputable abbrev s_cmpLess : SpecT := specF (codP [pI, pI]) 1 (codP [pB]) F_cmpLess
theorem so_cmpLess : SoundT Tryd.prog 133 s_cmpLess := soundG (P := Tryd.prog) mixed (t := ct_cmpLess) cs_cmpLess (f := 133) (fn := Tryd.f133) Tryd.func133 (by kernel_rfl) (by kernel_rfl) (by kernel_rfl) (ls := []) (by kernel_rfl) (kp := keepT []) (lps := loopsT []) (bump := false) (ice := false) (A := (codP [pI, pI])) (n := 1) (R := (codP [pB])) fun _ => lps_nil

theorem e_cmpLess (x y : Int) : F_cmpLess (x, y) = (
  (F_cmpIsNaN x).bind fun x1 => bif x1 then (F_cmpIsNaN y).bind fun x2 => bif !x2 then some true else some (decide (x < y)) else some (decide (x < y))) := by kernel_rfl


/-! ### slices.BinarySearch[[]int64,int64] -/
noncomputable abbrev ct_slSearch : List (FuncId × Bool × SpecT) := [(133, false, s_cmpLess), (134, false, s_slIsNaN)]
theorem cs_slSearch : AllSound Tryd.prog ct_slSearch := ⟨so_cmpLess, so_slIsNaN, trivial⟩
-- loop 0 (key 3) exit 0: [0, 1, 6, 7, 8]
-- loop 0 (key 3) exit 3: [0, 1, 6, 7]
abbrev kp_slSearch : Keep := keepT [(3, 0, [(0, none), (1, none), (6, none), (7, none), (8, none)]), (3, 3, [(0, none), (1, none), (6, none), (7, none)])]
noncomputable abbrev b_slSearch_0 : Code := loopAt Tryd.f102 0
noncomputable def sp_slSearch_0 (x : ((List Int) × Int × Int × Int × Int)) : Option (((List Int) × Int × Int × Int × Int) ⊕ ((List Int) × Int × Int × Int)) := (stepL Tryd.prog (lookT ct_slSearch) kp_slSearch (loopsT []) 0 false b_slSearch_0 (codP [pL, pI, pI, pI, pI]) (exO (.ext 0) (codP [pL, pI, pI, pI])) x).run
noncomputable def w_slSearch_0 : ((List Int) × Int × Int × Int × Int) → Option ((List Int) × Int × Int × Int) := whileO sp_slSearch_0
theorem ew_slSearch_0 (x : ((List Int) × Int × Int × Int × Int)) : w_slSearch_0 x = (sp_slSearch_0 x).bind (Sum.elim w_slSearch_0 some) := whileO_eq _ _
noncomputable abbrev l_slSearch_0 : LT := ltF (codP [pL, pI, pI, pI, pI]) (exO (.ext 0) (codP [pL, pI, pI, pI])) w_slSearch_0
theorem lo_slSearch_0 : LoopOk Tryd.prog Tryd.f102.ntmps kp_slSearch 0 false b_slSearch_0 l_slSearch_0 := loopG mixed cs_slSearch (lps := loopsT []) (by kernel_rfl) (ls := []) (by kernel_rfl) lps_nil
noncomputable def F_slSearch (x : ((List Int) × Int)) : Option (Int × Bool) := (evalF Tryd.prog (lookT ct_slSearch) (kp_slSearch) (loopsT [(3, l_slSearch_0)]) false false Tryd.f102 (codP [pL, pI]) 2 (codP [pI, pB]) x).run
noncomputable abbrev s_slSearch : SpecT := specF (codP [pL, pI]) 2 (codP [pI, pB]) F_slSearch
theorem so_slSearch : SoundT Tryd.prog 102 s_slSearch := soundG (P := Tryd.prog) mixed (t := ct_slSearch) cs_slSearch (f := 102) (fn := Tryd.f102) Tryd.func102 (by kernel_rfl) (by kernel_rfl) (by kernel_rfl) (ls := [b_slSearch_0]) (by kernel_rfl) (kp := kp_slSearch) (lps := loopsT [(3, l_slSearch_0)]) (bump := false) (ice := false) (A := (codP [pL, pI])) (n := 2) (R := (codP [pI, pB])) fun _ => (lps_cons l_slSearch_0 (by kernel_rfl) lo_slSearch_0 lps_nil)

theorem es_slSearch_0 (l : List Int) (x n i j : Int) : sp_slSearch_0 (l, x, n, i, j) = (
  bif decide (i < j) then
    (getI l (IntKind.i64.wrap ((IntKind.u64.wrap (IntKind.i64.wrap (i + j))).fdiv (2 : Int)))).bind fun x1 =>
      (F_cmpLess (x1, x)).bind fun x2 =>
        bif x2 then some (Sum.inl (l, x, n, IntKind.i64.wrap (IntKind.i64.wrap ((IntKind.u64.wrap (IntKind.i64.wrap (i + j))).fdiv (2 : Int)) + (1 : Int)), j))
        else some (Sum.inl (l, x, n, i, IntKind.i64.wrap ((IntKind.u64.wrap (IntKind.i64.wrap (i + j))).fdiv (2 : Int))))
  else some (Sum.inr (l, x, n, i))) := by kernel_rfl

theorem e_slSearch (l : List Int) (x : Int) : F_slSearch (l, x) = (
  (w_slSearch_0 (l, x, (↑l.length : Int), (0 : Int), (↑l.length : Int))).bind fun x1 =>
    bif decide (x1.snd.snd.snd < x1.snd.snd.fst) then
      (getI x1.fst x1.snd.snd.snd).bind fun x2 =>
        bif decide (x2 = x1.snd.fst) then some (x1.snd.snd.snd, true)
        else (getI x1.fst x1.snd.snd.snd).bind fun x3 => (F_slIsNaN x3).bind fun x4 => bif x4 then (F_slIsNaN x1.snd.fst).bind fun x5 => some (x1.snd.snd.snd, x5) else some (x1.snd.snd.snd, false)
    else some (x1.snd.snd.snd, false)) := by kernel_rfl


/-! ### horologe/footer.last -/
noncomputable abbrev ct_ftLast : List (FuncId × Bool × SpecT) := [(102, false, s_slSearch)]
theorem cs_ftLast : AllSound Tryd.prog ct_ftLast := ⟨so_slSearch, trivial⟩
noncomputable def F_ftLast (x : ((List Int) × Int)) : Option (Int) := (evalF Tryd.prog (lookT ct_ftLast) (keepT []) (loopsT []) false false Tryd.f117 (codP [pL, pI]) 1 (codP [pI]) x).run
noncomputable abbrev s_ftLast : SpecT := specF (codP [pL, pI]) 1 (codP [pI]) F_ftLast
theorem so_ftLast : SoundT Tryd.prog 117 s_ftLast := soundG (P := Tryd.prog) mixed (t := ct_ftLast) cs_ftLast (f := 117) (fn := Tryd.f117) Tryd.func117 (by kernel_rfl) (by kernel_rfl) (by kernel_rfl) (ls := []) (by kernel_rfl) (kp := keepT []) (lps := loopsT []) (bump := false) (ice := false) (A := (codP [pL, pI])) (n := 1) (R := (codP [pI])) fun _ => lps_nil

theorem e_ftLast (l : List Int) (x : Int) : F_ftLast (l, x) = (
  (F_slSearch (l, x)).bind fun x1 => bif !x1.snd then (getI l (max (IntKind.i64.wrap (x1.fst - (1 : Int))) (0 : Int))).bind fun x2 => some x2 else (getI l (max x1.fst (0 : Int))).bind fun x2 => some x2) := by kernel_rfl


/-! ### horologe/footer.summer -/
noncomputable abbrev ct_ftSummer : List (FuncId × Bool × SpecT) := [(33, false, s_pxChanges), (84, false, s_ftAbout), (117, false, s_ftLast)]
theorem cs_ftSummer : AllSound Tryd.prog ct_ftSummer := ⟨so_pxChanges, so_ftAbout, so_ftLast, trivial⟩
noncomputable def F_ftSummer (x : ((List UInt8 × List UInt8 × Int × Int × (Int × Int × Int × Int × Int) × (Int × Int × Int × Int × Int)) × Int × Int)) : Option (Bool × Int) := (evalF Tryd.prog (lookT ct_ftSummer) (keepT []) (loopsT []) false false Tryd.f83 (codP [pPlan, pI, pI]) 2 (codP [pB, pE]) x).run
noncomputable abbrev s_ftSummer : SpecT := specF (codP [pPlan, pI, pI]) 2 (codP [pB, pE]) F_ftSummer
theorem so_ftSummer : SoundT Tryd.prog 83 s_ftSummer := soundG (P := Tryd.prog) mixed (t := ct_ftSummer) cs_ftSummer (f := 83) (fn := Tryd.f83) Tryd.func83 (by kernel_rfl) (by kernel_rfl) (by kernel_rfl) (ls := []) (by kernel_rfl) (kp := keepT []) (lps := loopsT []) (bump := false) (ice := false) (A := (codP [pPlan, pI, pI])) (n := 2) (R := (codP [pB, pE])) fun _ => lps_nil

theorem e_ftSummer (p : List UInt8 × List UInt8 × Int × Int × (Int × Int × Int × Int × Int) × (Int × Int × Int × Int × Int)) (t y : Int) : F_ftSummer (p, t, y) = (
  (F_pxChanges p).bind fun x1 =>
    bif !x1 then some (false, (0 : Int))
    else
      (F_ftAbout (p, y)).bind fun x2 =>
        bif decide (x2.snd.snd ≠ (0 : Int)) then some (false, x2.snd.snd) else (F_ftLast (x2.fst, t)).bind fun x3 => (F_ftLast (x2.snd.fst, t)).bind fun x4 => some (decide (x4 ≤ x3), (0 : Int))) := by kernel_rfl


/-! ### horologe/footer.At -/
noncomputable abbrev ct_ftAt : List (FuncId × Bool × SpecT) := [(28, false, s_pxCheck), (82, false, s_ftYear), (83, false, s_ftSummer)]
theorem cs_ftAt : AllSound Tryd.prog ct_ftAt := ⟨so_pxCheck, so_ftYear, so_ftSummer, trivial⟩
noncomputable def F_ftAt (x : ((List UInt8 × List UInt8 × Int × Int × (Int × Int × Int × Int × Int) × (Int × Int × Int × Int × Int)) × Int)) : Option ((Int × Bool × List UInt8) × Int) := (evalF Tryd.prog (lookT ct_ftAt) (keepT []) (loopsT []) false false Tryd.f39 (codP [pPlan, pI]) 2 (codP [pTyp, pE]) x).run
noncomputable abbrev s_ftAt : SpecT := specF (codP [pPlan, pI]) 2 (codP [pTyp, pE]) F_ftAt
theorem so_ftAt : SoundT Tryd.prog 39 s_ftAt := soundG (P := Tryd.prog) mixed (t := ct_ftAt) cs_ftAt (f := 39) (fn := Tryd.f39) Tryd.func39 (by kernel_rfl) (by kernel_rfl) (by kernel_rfl) (ls := []) (by kernel_rfl) (kp := keepT []) (lps := loopsT []) (bump := false) (ice := false) (A := (codP [pPlan, pI])) (n := 2) (R := (codP [pTyp, pE])) fun _ => lps_nil

theorem e_ftAt (p : List UInt8 × List UInt8 × Int × Int × (Int × Int × Int × Int × Int) × (Int × Int × Int × Int × Int)) (t : Int) : F_ftAt (p, t) = (
  (F_pxCheck p).bind fun x1 =>
    bif decide (x1 ≠ (0 : Int)) then some (((0 : Int), false, []), x1)
    else
      (F_ftYear t).bind fun x2 =>
        bif decide (x2.snd ≠ (0 : Int)) then some (((0 : Int), false, []), x2.snd)
        else
          (F_ftSummer (p, t, x2.fst)).bind fun x3 =>
            bif decide (x3.snd ≠ (0 : Int)) then some (((0 : Int), false, []), x3.snd)
            else bif x3.fst then some ((p.snd.snd.snd.fst, true, p.snd.fst), (0 : Int)) else some ((p.snd.snd.fst, false, p.fst), (0 : Int))) := by kernel_rfl

end Go.Sm
