/- append, copy, slice literals, make, conversions. No condition. -/
import Derived.Test.YtllddkbfeienhaaDoorMA
import Derived.Laws.BytesString
import Derived.Laws.IdiomStrings
import Derived.Laws.MakeOwn
import Derived.Orders
set_option linter.unusedVariables false
set_option linter.unusedSimpArgs false
namespace Go.Sm
section
variable {P : Program} {M : Mem} {e : RR} {H : List AB} {w : World} {ty : TypeId}
/-- append's run where it makes a new row. -/
theorem append_new {t t2 el : TypeId} {d2 : TypeDesc} {ei : TI} {inf : TypeInfo} {de : TypeDesc} (hu : P.underlying t = some (.slice el)) (hu2 : P.underlying t2 = some d2) (hd2 : d2 = .string ∨ ∃ x, d2 = .slice x)
    (hty : TyAt P el ei inf de) {z : Value} (hz : inf.zero = some z) {n cap m : Nat} {a : Option Addr} {cy : Value} {old new : Array Value} (hlen : (Builtin.lenOf cy).run P w = .ok m w)
    (hold : ∀ w', (∀ i, i < w.heap.size → w'.heap[i]? = w.heap[i]?) → (Builtin.firstCells ei.size n (.slice a n cap)).run P w' = .ok old w') (hnew : ∀ w', (∀ i, i < w.heap.size → w'.heap[i]? = w.heap[i]?) → (Builtin.firstCells ei.size m cy).run P w' = .ok new w')
    (hg : ¬ n + m ≤ cap) (hb : (n + m) * ei.bytes ≤ 140737488355328) (hb2 : n + m ≤ 140737488355328) :
    ∃ newCap, n + m ≤ newCap ∧ (Builtin.append_ #[t, t2] ty #[.slice a n cap, cy]).run P w = .ok (.slice (some ⟨w.heap.size, 0, none⟩) (n + m) newCap)
      (w.drew.alloc (.cells (old ++ new ++ Builtin.zeroCells z.cells (newCap - (n + m))) el)) := by
  refine ⟨n + m + w.tape w.drawn (.appendCap (n + m) cap el) % (2 ^ 63 - (n + m)), by omega, ?_⟩
  have hne : ¬ (Builtin.nextslicecap (n + m) cap * inf.bytes > 2 ^ 48) := by
    have := growslice_fits (need := n + m) (old := cap) (bytes := inf.bytes) (by omega) (by rw [← hty.bytes]; exact hb)
    omega
  have hmax : ¬ (((n + m : Nat) : Int) > IntKind.i64.max) := by
    have : IntKind.i64.max = 9223372036854775807 := by decide
    rw [this]
    omega
  have ho := hold w.drew (fun _ _ => rfl)
  have hn := hnew w.drew (fun _ _ => rfl)
  have hru : (underlying t).run P w = .ok (.slice el) w := by simp [underlying, hu]
  have hru2 : (underlying t2).run P w = .ok d2 w := by simp [underlying, hu2]
  rcases hd2 with rfl | ⟨_, rfl⟩
  all_goals
    simp only [Builtin.append_, List.getElem?_toArray, List.getElem?_cons_zero, List.getElem?_cons_succ, Sem.run_bind, hru, hru2, Result.andThen_ok, hty.run_size, Sem.run_pure, Bool.false_eq_true, if_false, hlen, hg, Bool.not_false, if_true, false_or,
      Sem.run_ite, hty.run_info, hmax, false_and, hne, run_choose, Question.forced, Question.cut, run_askRoom, ho, hn, hty.run_zero _ hz, newRow, run_newObj, World.drew_eq, World.alloc_eq]
    try rfl
theorem append_room {t t2 el : TypeId} {d2 : TypeDesc} {ei : TI} {inf : TypeInfo} {de : TypeDesc} (hu : P.underlying t = some (.slice el)) (hu2 : P.underlying t2 = some d2) (hd2 : d2 = .string ∨ ∃ x, d2 = .slice x)
    (hty : TyAt P el ei inf de) {n cap m : Nat} {a : Option Addr} {cy : Value} {new : Array Value} (hlen : (Builtin.lenOf cy).run P w = .ok m w) (hnew : (Builtin.firstCells ei.size m cy).run P w = .ok new w) (hg : n + m ≤ cap) {w' : World}
    (hst : ∀ x, a = some x → (storeCells (x.add (n * ei.size)) new.toList).run P w = .ok () w') (hno : a = none → w' = w) :
    (Builtin.append_ #[t, t2] ty #[.slice a n cap, cy]).run P w = .ok (.slice a (n + m) cap) w' := by
  have hru : (underlying t).run P w = .ok (.slice el) w := by simp [underlying, hu]
  have hru2 : (underlying t2).run P w = .ok d2 w := by simp [underlying, hu2]
  rcases hd2 with rfl | ⟨_, rfl⟩
  all_goals
    cases a with
    | none =>
      rw [hno rfl]
      simp only [Builtin.append_, List.getElem?_toArray, List.getElem?_cons_zero, List.getElem?_cons_succ, Sem.run_bind, hru, hru2, Result.andThen_ok, hty.run_size, Sem.run_pure, Bool.false_eq_true, if_false, hlen, hg, Bool.not_false, if_true,
        Sem.run_ite, hnew]
    | some x =>
      simp only [Builtin.append_, List.getElem?_toArray, List.getElem?_cons_zero, List.getElem?_cons_succ, Sem.run_bind, hru, hru2, Result.andThen_ok, hty.run_size, Sem.run_pure, Bool.false_eq_true, if_false, hlen, hg, Bool.not_false, if_true,
        Sem.run_ite, hnew, hst x rfl]


/-- What is appended or copied. -/
theorem src_sound {y : AV} {c : Cd} {ys : List (τ c)} {cy : Value} (h : HR M e H w) (hs : srcT H y c = some ys) (hy : VR M e y cy) :
    (Builtin.lenOf cy).run P w = .ok ys.length w ∧ ∀ n, n ≤ ys.length → ∃ cells, (∀ w', (∀ i, i < w.heap.size → w'.heap[i]? = w.heap[i]?) → (Builtin.firstCells (sizeC c) n cy).run P w' = .ok cells w') ∧ cells.size = n * sizeC c ∧ Holds M c (ys.take n) (fun o => cells[o]?) := by
  unfold srcT at hs
  split at hs
  · rename_i s
    obtain ⟨rfl, hq⟩ := castL_some hs
    obtain rfl := eq_of_heq hq
    cases hy with
    | @str _ _ b hb =>
      have hsz : b.size = s.length := by rw [← hb]; rfl
      refine ⟨by simp [Builtin.lenOf, hsz], fun n hn => ⟨(b.extract 0 n).data.map fun x => .int .u8 x.toNat, fun w' _ => rfl, ?_, ?_⟩⟩
      · have h1 : (b.extract 0 n).data.size = n := by
          rw [← Array.length_toList, Lib.extract_data]
          have : b.data.toList.length = s.length := by rw [hb]
          simp at this ⊢
          omega
        simp [h1, sizeC]
        omega
      · intro i j y z hy hz
        rw [List.getElem?_map] at hy
        obtain ⟨x, hx, rfl⟩ : ∃ x, (s.take n)[i]? = some x ∧ y = .u8 x := by
          cases hq : (s.take n)[i]? with
          | none => rw [hq] at hy; simp at hy
          | some x => rw [hq] at hy; simp at hy; exact ⟨x, rfl, hy.symm⟩
        match j, hz with
        | 0, hz =>
          obtain rfl := Option.some.inj hz
          refine ⟨.int .u8 x.toNat, ?_, .u8⟩
          simp only [sizeC, Nat.mul_one, Nat.add_zero, Array.getElem?_map]
          rw [← Array.getElem?_toList, Lib.extract_data, hb, List.drop_zero, Nat.sub_zero, hx]
          rfl
  · rename_i y hns
    split at hs
    · rename_i x hx
      obtain ⟨a, m, cap, rfl, hcap, hy2⟩ := cont_sound h hx hy
      obtain ⟨rfl, hseen⟩ := cast_seen hs hy2
      refine ⟨by simp [Builtin.lenOf], fun n hn => ?_⟩
      have hp : Seen M w a c (ys.take n) := by
        have := hseen.part (b := a) 0 n (fun g o ha _ => by simpa using ha)
        simpa using this
      obtain ⟨cells, h1, h2, h3⟩ := hp.read (P := P) cap
      have hlen : (ys.take n).length = n := by simp; omega
      rw [hlen] at h1 h2
      refine ⟨cells, fun w' hw => ?_, h2, h3⟩
      have := h1 w' hw
      cases a <;> exact this
    · exact absurd hs (by simp)

theorem zero_of {el : TypeId} {ei : TI} {infe : TypeInfo} {de : TypeDesc} (htye : TyAt P el ei infe de) (hzs : zeroOk ei = true) : ∃ z, infe.zero = some z ∧ z.cells.size = ei.size := by
  have h1 := htye.zero
  unfold zeroOk at hzs
  cases hz : infe.zero with
  | none => rw [hz] at h1; rw [h1] at hzs; exact absurd hzs (by simp)
  | some z =>
    rw [hz] at h1
    simp only at h1
    rw [h1] at hzs
    cases hzv : ofV z with
    | none => rw [hzv] at hzs; exact absurd hzs (by simp)
    | some zv =>
      rw [hzv] at hzs
      exact ⟨z, rfl, by rw [← ((ofV_sound (M := fun _ _ => none) (e := RR.nul) hzv).cells).size]; simpa using hzs⟩
theorem append_make {t t2 el : TypeId} {k : IntKind} {ei : TI} {inf : TypeInfo} {de : TypeDesc} (hu : P.underlying t = some (.slice el)) (hu2 : P.underlying t2 = some (.int k))
    (hty : TyAt P el ei inf de) {z : Value} (hz : inf.zero = some z) {n : Nat} {a : Option Addr} (hpos : 0 < n) (hsz : 0 < inf.size) (hb : n * ei.bytes ≤ 140737488355328) (hb2 : n ≤ 140737488355328) :
    ∃ newCap, n ≤ newCap ∧ (Builtin.append_ #[t, t2] ty #[.slice a 0 0, .int .i64 (n : Int)]).run P w = .ok (.slice (some ⟨w.heap.size, 0, none⟩) n newCap)
      (w.drew.alloc (.cells (Builtin.zeroCells z.cells n ++ Builtin.zeroCells z.cells (newCap - n)) el)) := by
  refine ⟨n + w.tape w.drawn (.appendCap n 0 el) % (2 ^ 63 - n), by omega, ?_⟩
  have hne : ¬ (Builtin.nextslicecap n 0 * inf.bytes > 2 ^ 48) := by
    have := growslice_fits (need := n) (old := 0) (bytes := inf.bytes) (by omega) (by rw [← hty.bytes]; exact hb)
    omega
  have hmax : ¬ (((n : Nat) : Int) > IntKind.i64.max) := by
    have : IntKind.i64.max = 9223372036854775807 := by decide
    rw [this]
    omega
  have hru : (underlying t).run P w = .ok (.slice el) w := by simp [underlying, hu]
  have hru2 : (underlying t2).run P w = .ok (.int k) w := by simp [underlying, hu2]
  have hw : IntKind.i64.wrap (n : Int) = (n : Int) := by simp [IntKind.wrap, IntKind.bits, IntKind.signed]; omega
  have hl0 : ¬ ((n : Int) < 0) := by omega
  have hl1 : ¬ ((n : Int) * inf.bytes > 2 ^ 48) := by
    rw [← hty.bytes]
    have : ((n * ei.bytes : Nat) : Int) ≤ 140737488355328 := by omega
    rw [Int.natCast_mul] at this
    omega
  have hg : ¬ (0 + n ≤ 0) := by omega
  have hn0 : ¬ (n * inf.size = 0) := by
    intro h
    rcases Nat.mul_eq_zero.1 h with h | h <;> omega
  have hold : (Builtin.firstCells ei.size 0 (.slice a 0 0)).run P w.drew = .ok #[] w.drew := by
    cases a with
    | none => rfl
    | some x => simp [Builtin.firstCells, loadCells, loadCellsFrom]
  have hes : ei.size = inf.size := hty.size
  simp only [Builtin.append_, List.getElem?_toArray, List.getElem?_cons_zero, List.getElem?_cons_succ, Sem.run_bind, hru, hru2, Result.andThen_ok, hty.run_size, Sem.run_pure, if_true, asInt, asIntOf, hw, hl0, hl1, if_false, hty.run_info, Int.toNat_natCast, hg,
    Bool.not_true, Bool.false_eq_true, Sem.run_ite, hmax, false_and, Nat.zero_add, hne, run_choose, Question.forced, Question.cut, run_askRoom, hold, hes, hn0, hty.run_zero _ hz, newRow, run_newObj, World.drew_eq, World.alloc_eq, Array.empty_append]
  rw [if_neg (show ¬ n ≤ 0 by omega), ← hes, hold]
  simp
theorem app_sound {t t2 : TypeId} {x y v : AV} {H' : List AB} {cx cy : Value} (h : HR M e H w) (ha : (appT P H t t2 x y).run = some (v, H')) (hx : VR M e x cx) (hy : VR M e y cy) :
    ∃ c w' M' e', (Builtin.append_ #[t, t2] ty #[cx, cy]).run P w = .ok c w' ∧ Tr M e H w M' e' H' w' ∧ VR M' e' v c := by
  unfold appT at ha
  split at ha
  · exact (run_no ha).elim
  rename_i t2i hT2
  obtain ⟨inf2, d2, hty2⟩ := mkT_some hT2
  split at ha
  · rename_i hseq
    split at ha
    · rename_i n hik
      have hk2 : ∃ k, t2i.kd = .int k := by
        cases hkd : t2i.kd with
        | int k => exact ⟨k, rfl⟩
        | _ => rw [hkd] at hik; cases hik
      obtain ⟨k, hk2⟩ := hk2
      have hd2 := kdOf_int (by rw [← hty2.kd, hk2])
      subst hd2
      unfold appZT at ha
      split at ha
      · exact (run_no ha).elim
      rename_i ti hT
      obtain ⟨inf, d, hty⟩ := mkT_some hT
      split at ha
      case h_2 => exact (run_no ha).elim
      rename_i el hk
      have hd := kdOf_slc (hty.kd ▸ hk)
      subst hd
      split at ha
      · exact (run_no ha).elim
      rename_i ei hE
      obtain ⟨infe, de, htye⟩ := mkT_some hE
      split at ha
      case h_2 => exact (run_no ha).elim
      rename_i c z hc hz
      split at ha
      case h_2 => exact (run_no ha).elim
      rename_i a hs hdec
      obtain ⟨hs, hpos⟩ := of_decide_eq_true hs
      rcases run_ite ha with ⟨hcc, ha2⟩ | ⟨_, ha2⟩
      case inr => exact (run_no ha2).elim
      obtain ⟨rfl, rfl⟩ := Prod.mk.inj (run_ret ha2)
      obtain ⟨h0, hb, hn⟩ := of_decide_eq_true hcc
      obtain ⟨m, rfl⟩ : ∃ m : Nat, n = (m : Int) := ⟨n.toNat, by omega⟩
      have hzz := htye.zero
      rw [hz] at hzz
      obtain ⟨zc, hzc, hzv⟩ : ∃ zc, infe.zero = some zc ∧ VR M e z zc := by
        cases hq : infe.zero with
        | none => rw [hq] at hzz; exact absurd hzz (by simp)
        | some q => rw [hq] at hzz; exact ⟨q, rfl, ofV_sound hzz.symm⟩
      obtain ⟨hsz, hcells⟩ := dec_cells hdec hzv
      cases hy
      cases hx with
      | @nils _ ad =>
        have hbm : m * ei.bytes ≤ 140737488355328 := by
          have : ((ei.bytes * m : Nat) : Int) ≤ 140737488355328 := by rw [Int.natCast_mul]; exact hb
          rw [Nat.mul_comm]
          omega
        have hsi : infe.size = sizeC c := by rw [← htye.size, hs]
        obtain ⟨cc, hcc, hrun⟩ := append_make (ty := ty) (a := ad) hty.und hty2.und htye hzc (n := m) (by omega) (by rw [← htye.size]; exact hpos) hbm (by omega)
        have hT2 := Tr.drew h
        have harr : (Builtin.zeroCells zc.cells m ++ Builtin.zeroCells zc.cells (cc - m)).size = cc * sizeC c := by
          simp only [Array.size_append, Builtin.zeroCells, Array.size_map, Array.size_range, hsz, ← Nat.add_mul]
          congr 1
          omega
        have hhold : Holds M c (List.replicate m a) (fun o => (Builtin.zeroCells zc.cells m ++ Builtin.zeroCells zc.cells (cc - m))[o]?) := by
          intro i j y q hy hq
          obtain ⟨hi, hj, hij⟩ := place_lt hy hq
          rw [List.getElem?_map, List.getElem?_eq_getElem hi] at hy
          simp at hy
          subst hy
          rw [inj_cells] at hq
          obtain ⟨u, hu, hv⟩ := hcells j q hq
          refine ⟨u, ?_, hv⟩
          have h1 : (i * sizeC c + j) % zc.cells.size = j := by rw [hsz, Nat.add_comm, Nat.add_mul_mod_self_right, Nat.mod_eq_of_lt hj]
          have hlt : j < zc.cells.size := by omega
          simp only [List.length_replicate] at hij
          show (Builtin.zeroCells zc.cells m ++ Builtin.zeroCells zc.cells (cc - m))[i * sizeC c + j]? = some u
          rw [Array.getElem?_append_left (by simp only [Builtin.zeroCells, Array.size_map, Array.size_range, hsz]; exact hij)]
          simp only [Builtin.zeroCells, hsz]
          rw [Array.getElem?_map, Array.getElem?_range]
          rw [← hsz] at hij h1 ⊢
          simp only [hij, if_true, Option.map_some, h1]
          rw [getElem!_pos zc.cells j hlt]
          rw [Array.getElem?_eq_getElem hlt] at hu
          exact hu
        have hl : (List.replicate m a).length = m := by simp
        refine ⟨_, _, M, _, hrun, hT2.trans (Tr.pushArr (l := List.replicate m a) hT2.hr el (0, 0) (.inl rfl) (sizeC_pos c) (by rw [hl]; exact hcc) harr hhold), ?_⟩
        have := slc_pushG (e := e) (n := (List.replicate m a).length) (cc := cc) (g := w.heap.size) h
        simpa [hl] using this
    · exact (run_no ha).elim
  rename_i hseq
  have hd2 : d2 = .string ∨ ∃ z, d2 = .slice z := by
    have hk := hty2.kd
    cases hkd : t2i.kd with
    | slc z => exact .inr ⟨z, kdOf_slc (by rw [← hk, hkd])⟩
    | str => exact .inl (kdOf_str (by rw [← hk, hkd]))
    | _ => rw [hkd] at hseq; cases hseq
  split at ha
  · exact (run_no ha).elim
  rename_i ti hT
  obtain ⟨inf, d, hty⟩ := mkT_some hT
  split at ha
  case h_2 => exact (run_no ha).elim
  rename_i el hk
  have hd := kdOf_slc (hty.kd ▸ hk)
  subst hd
  split at ha
  · exact (run_no ha).elim
  rename_i ei hE
  obtain ⟨infe, de, htye⟩ := mkT_some hE
  split at ha
  · exact (run_no ha).elim
  rename_i hc0
  rw [Bool.and_eq_true] at hc0
  obtain ⟨hpos, hzs⟩ := hc0
  have hpos := of_decide_eq_true hpos
  obtain ⟨z, hz, hzsize⟩ := zero_of htye hzs
  have fresh : ∀ {c : Cd} {l ys : List (τ c)} {a : Option Addr} {cap : Nat}, sizeC c = ei.size → Seen M w a c l → srcT H y c = some ys → ¬ l.length + ys.length ≤ cap → roomB l.length ys.length ei.bytes = true →
      ∃ cc arr, l.length + ys.length ≤ cc ∧ (Builtin.append_ #[t, t2] ty #[.slice a l.length cap, cy]).run P w = .ok (.slice (some ⟨w.heap.size, 0, none⟩) (l.length + ys.length) cc) (w.drew.alloc (.cells arr el)) ∧
        (arr : Array Value).size = cc * sizeC c ∧ Holds M c (l ++ ys) (fun o => arr[o]?) := by
    intro c l ys a cap hs hseen hys hgt hroom
    obtain ⟨hb1, hb2⟩ := of_decide_eq_true hroom
    obtain ⟨old, ho1, ho2, ho3⟩ := hseen.read (P := P) cap
    obtain ⟨hlen, hn⟩ := src_sound (P := P) h hys hy
    obtain ⟨new, hn1, hn2, hn3⟩ := hn ys.length (Nat.le_refl _)
    rw [List.take_length] at hn3
    obtain ⟨cc, hcc, hrun⟩ := append_new (ty := ty) (z := z) hty.und hty2.und hd2 htye hz hlen (old := old) (new := new) (by rw [← hs]; exact ho1) (by rw [← hs]; exact hn1) hgt hb1 hb2
    refine ⟨cc, _, hcc, hrun, ?_, ?_⟩
    · simp only [Array.size_append, ho2, hn2, Builtin.zeroCells, Array.size_map, Array.size_range, hzsize, hs, ← Nat.add_mul]
      congr 1
      omega
    · intro i j q r hq hr
      obtain ⟨u, hu, hv⟩ := (ho3.app ho2 hn3) i j q r hq hr
      have hlt : i * sizeC c + j < (old ++ new).size := (Array.getElem?_eq_some_iff.1 hu).1
      refine ⟨u, ?_, hv⟩
      simp only
      rw [Array.getElem?_append_left hlt]
      exact hu
  split at ha
  · -- a nil slice
    split at ha
    case h_2 => exact (run_no ha).elim
    rename_i c hcd
    split at ha
    case h_2 => exact (run_no ha).elim
    rename_i ys hys
    split at ha
    case h_2 => exact (run_no ha).elim
    rename_i hs
    have hs := of_decide_eq_true hs
    rcases run_ite ha with ⟨hroom, ha⟩ | ⟨_, ha⟩
    case inr => exact (run_no ha).elim
    obtain ⟨rfl, rfl⟩ := Prod.mk.inj (run_ret ha)
    cases hx with
    | @nils _ a =>
      obtain ⟨hlen, hn⟩ := src_sound (P := P) h hys hy
      by_cases hy0 : ys = []
      · subst hy0
        obtain ⟨new, hn1, hn2, hn3⟩ := hn 0 (Nat.zero_le _)
        have hnew0 : new = #[] := by simpa using hn2
        refine ⟨_, w, M, _, append_room (new := new) hty.und hty2.und hd2 htye hlen (by rw [← hs]; exact hn1 w (fun _ _ => rfl)) (by simp) (fun x _ => by rw [hnew0]; simp [storeCells]) (fun _ => rfl), Tr.pushNil h (sizeC_pos c), nil_pushG h⟩
      · have hyl : 0 < ys.length := List.length_pos_iff.2 hy0
        obtain ⟨cc, arr, hcc, hrun, harr, hh⟩ := fresh (l := []) (a := a) (cap := 0) hs (fun hne => absurd rfl hne) hys (by simp; omega) hroom
        simp only [List.length_nil, Nat.zero_add, List.nil_append] at hcc hrun hh
        have hT2 := Tr.drew h
        exact ⟨_, _, M, _, hrun, hT2.trans (Tr.pushArr hT2.hr el (0, 0) (.inl rfl) (sizeC_pos c) hcc harr hh), slc_pushG h⟩
  · -- a slice's own memory
    rename_i b v0
    split at ha
    case h_2 => exact (run_no ha).elim
    rename_i v' c l hb
    split at ha
    case h_2 => exact (run_no ha).elim
    rename_i ys hys
    split at ha
    case h_2 => exact (run_no ha).elim
    rename_i hd
    obtain ⟨rfl, hs⟩ := of_decide_eq_true hd
    rcases run_ite ha with ⟨hroom, ha⟩ | ⟨_, ha⟩
    case inr => exact (run_no ha).elim
    obtain ⟨rfl, rfl⟩ := Prod.mk.inj (run_ret ha)
    obtain ⟨a, cap, rfl, hcap, hseen, hg1, hg2⟩ := slc_seen h hb hx
    obtain ⟨hl1, hl2, hl3, hl4⟩ := h.blk b _ hb
    have hbN : b < e.N := by rw [h.N]; exact (List.getElem?_eq_some_iff.1 hb).1
    have val : ∀ {g cc n : Nat}, VR M (e.setG b (some (g, cc)) (v0 + 1) n) (.slc b (v0 + 1)) (.slice (some ⟨g, 0, none⟩) n cc) := fun {g cc n} => .slc (by simpa [RR.setG] using hbN) (h.kind _ _ hb) (by simp [RR.setG]) fun _ => by simp [RR.setG]
    by_cases hroomy : l.length + ys.length ≤ cap
    · obtain ⟨hlen, hn⟩ := src_sound (P := P) h hys hy
      obtain ⟨new, hn1, hn2, hn3⟩ := hn ys.length (Nat.le_refl _)
      rw [List.take_length] at hn3
      cases hg : e.g b with
      | none =>
        obtain ⟨rfl, rfl⟩ := hg2 hg
        have hy0 : ys = [] := by simpa using hroomy
        subst hy0
        have hnew0 : new = #[] := by simpa using hn2
        refine ⟨_, w, M, e.setG b none (v0 + 1) 0, append_room (new := new) hty.und hty2.und hd2 htye hlen (by rw [← hs]; exact hn1 w (fun _ _ => rfl)) (by simp) (fun x _ => by rw [hnew0]; simp [storeCells]) (fun _ => rfl), ?_, ?_⟩
        · refine Tr.upd h hb (Mle.refl _) (RR.le_setG (by omega) (fun h => by omega)) rfl (fun k hk => RR.same_setG hk) rfl rfl rfl (Nat.le_refl _) (fun _ _ _ => rfl) (fun _ _ h h' => absurd h h') h.mem (fun i hi => ?_) ⟨by simp [RR.setG], by simp [RR.setG], hl3, by simp [RR.setG]⟩
          simp [cid, RR.setG] at hi
        · exact .slc (by simpa [RR.setG] using hbN) (h.kind _ _ hb) (by simp [RR.setG]) fun _ => by simp [RR.setG]
      | some p =>
        obtain ⟨gg, cc⟩ := p
        obtain ⟨rfl, rfl⟩ := hg1 gg cc hg
        rw [hg] at hl4
        obtain ⟨hlc, arr, ty', fz, h5, hfz, h6, h7, h8⟩ := hl4
        have hms : (l.length + ys.length) * sizeC c ≤ cap * sizeC c := Nat.mul_le_mul_right _ hroomy
        rw [Nat.add_mul] at hms
        have hst := run_storeCells_fz P gg (l.length * ei.size) ty' fz new.toList 0 arr w h5 hfz (by simp; rw [← hs]; omega) (hn3.oneCells hn2)
        have hother : ∀ k, k ≠ gg → ∀ vs, (w.setRow gg vs).heap[k]? = w.heap[k]? := fun k hk vs => setRow_other w _ k vs hk
        rw [← hs] at hst
        simp only [Nat.add_zero] at hst
        refine ⟨_, w.setRow gg (arr.toList.take (l.length * sizeC c) ++ new.toList ++ arr.toList.drop (l.length * sizeC c + new.toList.length)).toArray, M, e.setG b (some (gg, cap)) (v0 + 1) (l ++ ys).length,
          append_room hty.und hty2.und hd2 htye hlen (by rw [← hs]; exact hn1 w (fun _ _ => rfl)) hroomy (fun x hx => ?_) (fun h => absurd h (by simp)), ?_, by simpa using val⟩
        · injection hx with hx
          subst hx
          rw [Addr.add_plain, Nat.zero_add, ← hs]
          exact hst
        · have hle' : e.le (e.setG b (some (gg, cap)) (v0 + 1) (l ++ ys).length) := RR.le_setG (by omega) (fun h => by omega)
          refine Tr.upd h hb (Mle.refl _) hle' rfl (fun k hk => RR.same_setG hk) rfl rfl rfl (by simp) (fun k _ hk => hother k (fun he => hk (by simp [cid, hg, he])) _) (fun _ _ h h' => absurd h h') (fun g p u hu => ?_) (fun k hk => ?_) ?_
          · by_cases hgg : g = gg
            · subst hgg; rw [h8 p] at hu; exact absurd hu (by simp)
            · rw [cell?_of_heap (hother g hgg _)]
              exact h.mem g p u hu
          · simp [cid, RR.setG] at hk
            exact .inl (by simp [cid, hg, hk])
          · refine ⟨by simp [RR.setG], by simp [RR.setG], hl3, ?_⟩
            simp only [RR.setG, if_true]
            have hns : ((arr.toList.take (l.length * sizeC c) ++ new.toList ++ arr.toList.drop (l.length * sizeC c + new.toList.length)).toArray).size = arr.size := by simp; omega
            refine ⟨by simpa using hroomy, _, ty', fz, setRow_heap w gg arr _ ty' _ h5, by rw [hns]; exact hfz, by rw [hns]; exact h6, fun i j q r hq hr => ?_, h8⟩
            simp only [List.getElem?_toArray]
            rw [List.map_append] at hq
            by_cases hi : i < l.length
            · rw [List.getElem?_append_left (by simpa using hi)] at hq
              obtain ⟨u, hu, hv⟩ := h7 i j q r hq hr
              have hp := (place_lt hq hr).2.2
              refine ⟨u, ?_, hv⟩
              rw [List.append_assoc, List.getElem?_append_left (by simp; omega), List.getElem?_take_of_lt hp, Array.getElem?_toList]
              exact hu
            · rw [List.getElem?_append_right (by simpa using hi), List.length_map] at hq
              obtain ⟨u, hu, hv⟩ := hn3 _ j q r hq hr
              have hle : l.length * sizeC c ≤ i * sizeC c := Nat.mul_le_mul_right _ (by omega)
              have hp := (place_lt hq hr).2.2
              simp only at hu
              rw [Nat.sub_mul] at hu hp
              refine ⟨u, ?_, hv⟩
              rw [List.append_assoc, List.getElem?_append_right (by simp; omega), List.getElem?_append_left (by simp; omega)]
              simp only [List.length_take, Array.length_toList, Array.getElem?_toList]
              rw [show i * sizeC c + j - min (l.length * sizeC c) arr.size = i * sizeC c - l.length * sizeC c + j by omega]
              exact hu
    · obtain ⟨cc, arr, hcc, hrun, harr, hh⟩ := fresh hs hseen hys hroomy hroom
      have hT2 := Tr.drew h
      have hall : ∀ i, i < w.heap.size → (w.drew.alloc (.cells arr el)).heap[i]? = w.heap[i]? := fun i hi => alloc_old (w := w.drew) hi
      refine ⟨_, _, M, e.setG b (some (w.heap.size, cc)) (v0 + 1) (l ++ ys).length, hrun, hT2.trans (Tr.upd hT2.hr hb (Mle.refl _) (RR.le_setG (by omega) (fun h => by omega)) rfl (fun k hk => RR.same_setG hk) rfl rfl rfl (by simp) (fun i hi _ => alloc_old hi) (fun _ _ h h' => absurd h h')
        (mem_old hT2.hr fun i hi => alloc_old hi) (fun i hi => ?_) ⟨by simp [RR.setG], by simp [RR.setG], hl3, ?_⟩), by simpa using val⟩
      · simp [cid, RR.setG] at hi
        exact .inr (by rw [← hi]; exact Nat.le_refl _)
      · simp only [RR.setG, if_true]
        exact ⟨by simpa using hcc, arr, el, (0, 0), alloc_new (w := w.drew), .inl rfl, harr, hh, h.free (Nat.le_refl _)⟩
  · exact (run_no ha).elim
end
end Go.Sm
/- Slice literals, make, copy, conversions. No condition. -/
set_option linter.unusedVariables false
set_option linter.unusedSimpArgs false
namespace Go.Sm
section
variable {P : Program} {M : Mem} {e : RR} {H : List AB} {w : World}
theorem fill_seq {s : Nat} : ∀ (parts : List (Nat × Value)) (k : Nat) (cells : Array Value), (∀ (i : Nat) (p : Nat × Value), parts[i]? = some p → p.1 = k + i ∧ p.2.cells.size = s) → (k + parts.length) * s ≤ cells.size →
    ∃ C, Instr.fill (fun i => some (i * s, s)) cells parts = some C ∧ C.size = cells.size ∧ (∀ o, o < k * s → C[o]? = cells[o]?) ∧
      ∀ (i j : Nat) (p : Nat × Value), parts[i]? = some p → j < s → C[(k + i) * s + j]? = p.2.cells[j]?
  | [], k, cells, _, _ => ⟨cells, rfl, rfl, fun _ _ => rfl, fun i j p h => by simp at h⟩
  | (i, v) :: r, k, cells, hp, hl => by
    obtain ⟨h1, h2⟩ := hp 0 (i, v) rfl
    simp only [Nat.add_zero] at h1 h2
    subst h1
    have hks : i * s + s ≤ cells.size := by
      have : (i + 1) * s ≤ (i + (r.length + 1)) * s := Nat.mul_le_mul_right _ (by omega)
      simp only [List.length_cons] at hl
      rw [Nat.add_mul] at this
      omega
    have hfold := foldl_set (i * s) v.cells.toList 0 cells (by simp; omega)
    have heq : (v.cells.zipIdx.foldl (fun cs (x : Value × Nat) => cs.setIfInBounds (i * s + x.2) x.1) cells).toList = cells.toList.take (i * s) ++ v.cells.toList ++ cells.toList.drop (i * s + v.cells.toList.length) := by
      rw [← Array.foldl_toList, Array.toList_zipIdx]
      simpa using hfold
    have hget : ∀ o, (v.cells.zipIdx.foldl (fun cs (x : Value × Nat) => cs.setIfInBounds (i * s + x.2) x.1) cells)[o]? = if o < i * s then cells[o]? else if o < i * s + s then v.cells[o - i * s]? else cells[o]? := by
      intro o
      rw [← Array.getElem?_toList, heq]
      have hv : v.cells.toList.length = s := by simpa using h2
      split
      · rename_i ho
        rw [List.append_assoc, List.getElem?_append_left (by simp; omega), List.getElem?_take_of_lt ho]
        simp
      · rename_i ho
        split
        · rename_i ho'
          rw [List.append_assoc, List.getElem?_append_right (by simp; omega), List.getElem?_append_left (by simp; omega)]
          simp
          congr 1
          omega
        · rename_i ho'
          rw [List.getElem?_append_right (by simp; omega), List.getElem?_drop]
          simp
          congr 1
          omega
    have hsz : (v.cells.zipIdx.foldl (fun cs (x : Value × Nat) => cs.setIfInBounds (i * s + x.2) x.1) cells).size = cells.size := by
      rw [← Array.length_toList, heq]
      simp
      omega
    obtain ⟨C, h3, h4, h5, h6⟩ := fill_seq r (i + 1) _ (fun j p hj => by
      obtain ⟨h7, h8⟩ := hp (j + 1) p (by simpa using hj)
      exact ⟨by omega, h8⟩) (by rw [hsz]; simp only [List.length_cons] at hl; rwa [show i + 1 + r.length = i + (r.length + 1) by omega])
    refine ⟨C, ?_, by rw [h4, hsz], fun o ho => ?_, fun j q p hj hq => ?_⟩
    · simp only [Instr.fill]
      rw [if_neg (by simp; omega)]
      exact h3
    · rw [h5 o (by rw [Nat.add_mul]; omega), hget, if_pos ho]
    · cases j with
      | zero =>
        simp at hj
        subst hj
        rw [Nat.add_zero, h5 _ (by rw [Nat.add_mul]; omega), hget, if_neg (by omega), if_pos (by omega), Nat.add_sub_cancel_left]
      | succ j =>
        have := h6 j q p (by simpa using hj) hq
        rwa [show i + 1 + j = i + (j + 1) by omega] at this

theorem decAll_sound {c : Cd} : ∀ {vs : List (Nat × AV)} {k : Nat} {l : List (τ c)}, decAll c vs k = some l → l.length = vs.length ∧ ∀ (i : Nat) (a : τ c), l[i]? = some a → ∃ v, vs[i]? = some (k + i, v) ∧ dec c v = some a
  | [], k, l, h => by
    rw [decAll] at h
    obtain rfl := Option.some.inj h
    exact ⟨rfl, fun _ _ h => by simp at h⟩
  | (i, v) :: r, k, l, h => by
    rw [decAll] at h
    split at h
    · rename_i hik
      obtain rfl := of_decide_eq_true hik
      split at h
      · rename_i a ha
        split at h
        · rename_i l' hl'
          obtain rfl := Option.some.inj h
          obtain ⟨hl, hg⟩ := decAll_sound hl'
          refine ⟨by simp [hl], fun j x hj => ?_⟩
          cases j with
          | zero => simp at hj; subst hj; exact ⟨v, rfl, ha⟩
          | succ j =>
            obtain ⟨u, h3, h4⟩ := hg j x (by simpa using hj)
            exact ⟨u, by simp [h3]; omega, h4⟩
        · exact absurd h (by simp)
      · exact absurd h (by simp)
    · exact absurd h (by simp)
theorem inOrder_sound {n : Nat} : ∀ {vs : List (Nat × AV)} {k : Nat} {l : List AV}, inOrder n vs k = some l → l.length = vs.length ∧ ∀ (i : Nat) (a : AV), l[i]? = some a → vs[i]? = some (k + i, a) ∧ a.cells.length = n
  | [], k, l, h => by
    rw [inOrder] at h
    obtain rfl := Option.some.inj h
    exact ⟨rfl, fun _ _ h => by simp at h⟩
  | (i, v) :: r, k, l, h => by
    rw [inOrder] at h
    split at h
    · rename_i hik
      obtain ⟨rfl, hc⟩ := of_decide_eq_true hik
      split at h
      · rename_i l' hl'
        obtain rfl := Option.some.inj h
        obtain ⟨hl, hg⟩ := inOrder_sound hl'
        refine ⟨by simp [hl], fun j x hj => ?_⟩
        cases j with
        | zero => simp at hj; subst hj; exact ⟨rfl, hc⟩
        | succ j =>
          obtain ⟨h3, h4⟩ := hg j x (by simpa using hj)
          exact ⟨by simp [h3]; omega, h4⟩
      · exact absurd h (by simp)
    · exact absurd h (by simp)
/-- Other memory that counts: what is laid for good in a new block. -/
def memAdd (M : Mem) (g : Nat) (vs : Array Value) : Mem := fun b o => if b = g then vs[o]? else M b o
theorem memAdd_le {M : Mem} {g : Nat} {vs : Array Value} (h : ∀ o, M g o = none) : Mle M (memAdd M g vs) := by
  intro b o u hu
  unfold memAdd
  split
  · rename_i hb
    subst hb
    rw [h o] at hu
    exact absurd hu (by simp)
  · exact hu
/-- A new block that does not change any more. -/
theorem Tr.newMem {M : Mem} {e : RR} {H : List AB} {w : World} (h : HR M e H w) (vs : Array Value) (t : TypeId) (fz : Nat × Nat) :
    Tr M e H w (memAdd M w.heap.size vs) e H (w.alloc (.cells vs t fz)) := by
  have hM := memAdd_le (vs := vs) (h.free (Nat.le_refl w.heap.size))
  have hmem : ∀ g o u, memAdd M w.heap.size vs g o = some u → (w.alloc (.cells vs t fz)).cell? ⟨g, o, none⟩ = some u := by
    intro g o u hu
    unfold memAdd at hu
    split at hu
    · rename_i hg
      subst hg
      simp only [World.cell?, alloc_new]
      simpa using hu
    · exact mem_old h (fun i hi => alloc_old hi) g o u hu
  refine ⟨hM, RR.le.refl _, ⟨h.N, hmem, fun b x hb => ?_, h.inj, h.glob.mono hM, h.kind⟩, rfl, rfl, rfl, by simp, fun i hi _ => alloc_old hi, fun i hf => .inl hf, fun g o h0 h1 => ?_⟩
  · have h1 := h.blk b x hb
    refine (h1.world fun i hi => alloc_old (h1.lt hi)).other hM (RR.le.refl _) rfl rfl rfl rfl fun i hi o ho => ?_
    have := h1.lt hi
    unfold memAdd
    rw [if_neg (by omega)]
    exact ho
  · unfold memAdd at h1
    split at h1
    · rename_i hg
      subst hg
      exact .inr (Nat.le_refl _)
    · exact absurd h0 h1
/-- What a slice literal runs to. -/
theorem buildSlice_run {t el : TypeId} {ti ei : TI} (hT : mkT P t = some ti) (hk : ti.kd = .slc el) (hE : mkT P el = some ei) (hz0 : zeroOk ei = true) (hpos : 0 < ei.size) {cps : List (Nat × Value)} (hlim : cps.length * ei.size ≤ 16777216)
    (hpart : ∀ (k : Nat) (c : Nat × Value), cps[k]? = some c → c.1 = 0 + k ∧ c.2.cells.size = ei.size) :
    ∃ C : Array Value, (Instr.buildSlice t cps.length cps.toArray).run P w = .ok (.slice (some ⟨w.heap.size, 0, none⟩) cps.length cps.length) (w.alloc (.cells C el)) ∧ C.size = cps.length * ei.size ∧
      ∀ (i j : Nat) (p : Nat × Value), cps[i]? = some p → j < ei.size → C[i * ei.size + j]? = p.2.cells[j]? := by
  obtain ⟨i, d, hty⟩ := mkT_some hT
  obtain ⟨ie, de, hte⟩ := mkT_some hE
  have hd := kdOf_slc (hty.kd ▸ hk)
  subst hd
  obtain ⟨z, hzz, hzs⟩ := zero_of hte hz0
  let base : Array Value := (Array.range (cps.length * ei.size)).map (fun o => (if cps.length * ei.size = 0 then #[] else z.cells)[o % (if cps.length * ei.size = 0 then #[] else z.cells).size]!)
  obtain ⟨C, hC, hCs, _, hCg⟩ := fill_seq (s := ei.size) cps 0 base hpart (by simp [base])
  refine ⟨C, ?_, by rw [hCs]; simp [base], fun i j p hp hj => by have := hCg i j p hp hj; rwa [Nat.zero_add] at this⟩
  have hlim' : ¬ cps.length * ei.size > 2 ^ 24 := by omega
  simp only [Instr.buildSlice, Sem.run_bind, hty.run_und, Result.andThen_ok, hte.run_size, hlim', if_false, Sem.run_ite]
  simp only [Sem.run_pure, hte.run_zero w hzz, Result.andThen_ok, Sem.run_bind]
  have hC' : Instr.fill (fun i => some (i * ei.size, ei.size)) ((Array.range (cps.length * ei.size)).map fun o => (if cps.length * ei.size = 0 then #[] else z.cells)[o % (if cps.length * ei.size = 0 then #[] else z.cells).size]!) cps = some C := hC
  split
  · rename_i h0
    simp only [if_pos h0] at hC'
    rw [hC']
    rfl
  · rename_i h0
    simp only [if_neg h0] at hC'
    rw [hC']
    rfl
theorem buildSlice_sound {t : TypeId} {n : Nat} {vs : List (Nat × AV)} {v : AV} {H' : List AB} (h : HR M e H w) (ha : (buildSliceT P H t n vs).run = some (v, H')) {cps : List (Nat × Value)} (hl : vs.length = cps.length)
    (hp : ∀ (k : Nat) (p : Nat × AV) (c : Nat × Value), vs[k]? = some p → cps[k]? = some c → p.1 = c.1 ∧ VR M e p.2 c.2 ∧ ones p.2.cells) :
    ∃ c w' M' e', (Instr.buildSlice t n cps.toArray).run P w = .ok c w' ∧ Tr M e H w M' e' H' w' ∧ VR M' e' v c := by
  unfold buildSliceT at ha
  split at ha
  · exact (run_no ha).elim
  rename_i ti hT
  split at ha
  case h_2 => exact (run_no ha).elim
  rename_i el hk
  split at ha
  · exact (run_no ha).elim
  rename_i ei hE
  split at ha
  · exact (run_no ha).elim
  rename_i hc
  rw [Bool.and_eq_true] at hc
  obtain ⟨hc, hz0⟩ := hc
  obtain ⟨rfl, hlim, hpos⟩ := of_decide_eq_true hc
  split at ha
  · -- no element
    obtain ⟨rfl, rfl⟩ := Prod.mk.inj (run_ret ha)
    obtain rfl := List.length_eq_zero_iff.1 hl.symm
    obtain ⟨C, hrun, _, _⟩ := buildSlice_run (P := P) (w := w) hT hk hE hz0 hpos (cps := []) (by simp) (fun k q hq => by simp at hq)
    exact ⟨_, _, M, e, hrun, Tr.alloc h _, .nils⟩
  split at ha
  · rename_i c hcd
    split at ha
    case h_2 => exact (run_no ha).elim
    rename_i hs
    have hs := of_decide_eq_true hs
    split at ha
    case h_2 => exact (run_no ha).elim
    rename_i l hdl
    obtain ⟨rfl, rfl⟩ := Prod.mk.inj (run_ret ha)
    obtain ⟨hll, hlg⟩ := decAll_sound hdl
    have hat : ∀ (k : Nat) (q : Nat × Value), cps[k]? = some q → ∃ a, l[k]? = some a ∧ q.1 = 0 + k ∧ q.2.cells.size = sizeC c ∧ ∀ (j : Nat) (z : AV), (cellsC c a)[j]? = some z → ∃ x, q.2.cells[j]? = some x ∧ VR M RR.nul z x := by
      intro k q hq
      have hk' : k < l.length := by rw [hll, hl]; exact (List.getElem?_eq_some_iff.1 hq).1
      obtain ⟨u, h1, h2⟩ := hlg k l[k] (List.getElem?_eq_getElem hk')
      obtain ⟨h3, h4, _⟩ := hp k _ q h1 hq
      obtain ⟨h5, h6⟩ := dec_cells h2 h4
      exact ⟨_, List.getElem?_eq_getElem hk', h3.symm, h5, h6⟩
    obtain ⟨C, hrun, hCs, hCg⟩ := buildSlice_run (P := P) (w := w) hT hk hE hz0 hpos (by rw [← hl]; exact hlim) fun k q hq => by
      obtain ⟨a, _, h1, h2, _⟩ := hat k q hq
      exact ⟨h1, by rw [h2, hs]⟩
    rw [← hl] at hrun hCs
    refine ⟨_, _, M, _, hrun, Tr.pushArr h el (0, 0) (.inl rfl) (sizeC_pos c) (by rw [hll]; exact Nat.le_refl _) (by rw [hCs, hs]) (fun i j y z hy hz => ?_), by rw [hll]; exact slc_pushG h⟩
    obtain ⟨hi, hj, _⟩ := place_lt hy hz
    have hic : i < cps.length := by omega
    obtain ⟨a, h1, _, _, h4⟩ := hat i _ (List.getElem?_eq_getElem hic)
    rw [List.getElem?_map, h1] at hy
    obtain rfl := Option.some.inj hy
    rw [inj_cells] at hz
    obtain ⟨x, hx, hv⟩ := h4 j z hz
    refine ⟨x, ?_, hv⟩
    simp only
    rw [hs, hCg i j _ (List.getElem?_eq_getElem hic) (by omega)]
    exact hx
  · split at ha
    case h_2 => exact (run_no ha).elim
    rename_i xs hxs
    obtain ⟨rfl, rfl⟩ := Prod.mk.inj (run_ret ha)
    obtain ⟨hll, hlg⟩ := inOrder_sound hxs
    have hat : ∀ (k : Nat) (q : Nat × Value), cps[k]? = some q → ∃ a, xs[k]? = some a ∧ q.1 = 0 + k ∧ q.2.cells.size = ei.size ∧ CR M e a.cells q.2.cells ∧ ones a.cells ∧ a.cells.length = ei.size := by
      intro k q hq
      have hk' : k < xs.length := by rw [hll, hl]; exact (List.getElem?_eq_some_iff.1 hq).1
      obtain ⟨h1, h2⟩ := hlg k xs[k] (List.getElem?_eq_getElem hk')
      obtain ⟨h3, h4, h5⟩ := hp k _ q h1 hq
      exact ⟨_, List.getElem?_eq_getElem hk', h3.symm, by rw [← h4.cells.size]; exact h2, h4.cells, h5, h2⟩
    obtain ⟨C, hrun, hCs, hCg⟩ := buildSlice_run (P := P) (w := w) hT hk hE hz0 hpos (by rw [← hl]; exact hlim) fun k q hq => by
      obtain ⟨a, _, h1, h2, _⟩ := hat k q hq
      exact ⟨h1, h2⟩
    rw [← hl] at hrun hCs
    have hT1 := Tr.newMem h C el (0, 0)
    have hcell : ∀ (i j : Nat) (y z : AV), xs[i]? = some y → y.cells[j]? = some z → ∃ x, C[i * ei.size + j]? = some x ∧ VR M e z x := by
      intro i j y z hy hz
      have hi : i < cps.length := by rw [← hl, ← hll]; exact (List.getElem?_eq_some_iff.1 hy).1
      obtain ⟨a, h1, _, _, h4, h5, h6⟩ := hat i _ (List.getElem?_eq_getElem hi)
      obtain rfl := Option.some.inj (h1.symm.trans hy)
      have hj : j < ei.size := by rw [← h6]; exact (List.getElem?_eq_some_iff.1 hz).1
      obtain ⟨x, hx, hv⟩ := h4.at hz
      exact ⟨x, by rw [hCg i j _ (List.getElem?_eq_getElem hi) hj]; exact hx, hv⟩
    refine ⟨_, _, _, e, hrun, hT1, .lstp ei.size w.heap.size 0 (fun i j => C.getD (i * ei.size + j) undef) hll.symm (Nat.le_refl _) ⟨fun y hy => ?_, fun y hy => ?_, fun _ => rfl, fun i j y z hy hz => ?_⟩ fun i j y z hy hz => ?_⟩
    · obtain ⟨i, hi⟩ := List.mem_iff_getElem?.1 hy
      exact (hlg i y hi).2
    · obtain ⟨i, hi⟩ := List.mem_iff_getElem?.1 hy
      have hic : i < cps.length := by rw [← hl, ← hll]; exact (List.getElem?_eq_some_iff.1 hi).1
      obtain ⟨a, h1, _, _, _, h5, _⟩ := hat i _ (List.getElem?_eq_getElem hic)
      obtain rfl := Option.some.inj (h1.symm.trans hi)
      exact h5
    · obtain ⟨x, hx, _⟩ := hcell i j y z hy hz
      rw [Nat.zero_add, Array.getD_eq_getD_getElem?, hx]
      unfold memAdd
      rw [if_pos rfl, hx]
      rfl
    · obtain ⟨x, hx, hv⟩ := hcell i j y z hy hz
      rw [Array.getD_eq_getD_getElem?, hx]
      exact hv.mono hT1.mle (RR.le.refl _)

theorem makeSlice_sound {t : TypeId} {x y v : AV} {H' : List AB} {cx cy : Value} (h : HR M e H w) (ha : (makeSliceT P H t x y).run = some (v, H')) (hx : VR M e x cx) (hy : VR M e y cy) :
    ∃ c w' M' e', (Instr.makeSlice t cx cy).run P w = .ok c w' ∧ Tr M e H w M' e' H' w' ∧ VR M' e' v c := by
  unfold makeSliceT at ha
  split at ha
  case h_2 => exact (run_no ha).elim
  rename_i ti n m hT
  obtain ⟨i, d, hty⟩ := mkT_some hT
  split at ha
  case h_2 => exact (run_no ha).elim
  rename_i el hk
  have hd := kdOf_slc (hty.kd ▸ hk)
  subst hd
  split at ha
  · exact (run_no ha).elim
  rename_i ei hE
  obtain ⟨ie, de, hte⟩ := mkT_some hE
  split at ha
  case h_2 => exact (run_no ha).elim
  rename_i c z hc hz
  split at ha
  case h_2 => exact (run_no ha).elim
  rename_i a hs hdec
  obtain ⟨hs, hpos⟩ := of_decide_eq_true hs
  rcases run_ite ha with ⟨hcc, ha2⟩ | ⟨_, ha2⟩
  case inr => exact (run_no ha2).elim
  obtain ⟨rfl, rfl⟩ := Prod.mk.inj (run_ret ha2)
  obtain ⟨h0, rfl, hb, hn⟩ := of_decide_eq_true hcc
  cases hx; cases hy
  have hzz := hte.zero
  rw [hz] at hzz
  obtain ⟨zc, hzc, hzv⟩ : ∃ zc, ie.zero = some zc ∧ VR M e z zc := by
    cases hq : ie.zero with
    | none => rw [hq] at hzz; exact absurd hzz (by simp)
    | some q => rw [hq] at hzz; exact ⟨q, rfl, ofV_sound hzz.symm⟩
  obtain ⟨hsz, hcells⟩ := dec_cells hdec hzv
  have hsi : ie.size = sizeC c := by rw [← hte.size, hs]
  have hrun := run_make (P := P) w t el ie zc hty.und hte.info hzc .i64 .i64 n n h0 (Int.le_refl _) (by rw [← hte.bytes]; exact hb) (by omega)
  refine ⟨_, _, M, _, hrun, Tr.pushArr (l := List.replicate n.toNat a) (cc := n.toNat) h el (0, 0) (.inl rfl) (sizeC_pos c) (by simp) (by rw [size_madeCells, hsi]) (fun i j y q hy hq => ?_), by have := slc_pushG (e := e) (n := (List.replicate n.toNat a).length) (cc := n.toNat) (g := w.heap.size) h; simpa using this⟩
  obtain ⟨hi, hj, hij⟩ := place_lt hy hq
  rw [List.getElem?_map, List.getElem?_eq_getElem hi] at hy
  simp at hy
  subst hy
  rw [inj_cells] at hq
  obtain ⟨u, hu, hv⟩ := hcells j q hq
  refine ⟨u, ?_, hv⟩
  have h1 : (i * sizeC c + j) % zc.cells.size = j := by rw [hsz, Nat.add_comm, Nat.add_mul_mod_self_right, Nat.mod_eq_of_lt hj]
  have hlt : j < zc.cells.size := by omega
  simp only [List.length_replicate] at hij
  simp only [madeCells, hsi]
  rw [Array.getElem?_map, Array.getElem?_range]
  simp only [hij, if_true, Option.map_some, h1]
  rw [getElem!_pos zc.cells j hlt]
  rw [Array.getElem?_eq_getElem hlt] at hu
  exact hu

/-! ### copy -/
theorem seg_store (h : HR M e H w) {b v : Nat} {c : Cd} {l ys : List (τ c)} (hb : H[b]? = some (.arr false v c l)) {gg cc : Nat} (hg : e.g b = some (gg, cc)) {cells : Array Value} (hsz : cells.size = ys.length * sizeC c) (hh : Holds M c ys (fun o => cells[o]?))
    {i : Nat} (hi : i + ys.length ≤ l.length) :
    ∃ w', (storeCells ⟨gg, i * sizeC c, none⟩ cells.toList).run P w = .ok () w' ∧ Tr M e H w M e (H.set b (.arr false v c (l.take i ++ ys ++ l.drop (i + ys.length)))) w' := by
  obtain ⟨h1, h2, h3, h4⟩ := h.blk b _ hb
  rw [hg] at h4
  obtain ⟨hlc, arr, ty, fz, h5, hfz, h6, h7, h8⟩ := h4
  have hle : (i + ys.length) * sizeC c ≤ cc * sizeC c := Nat.mul_le_mul_right _ (by omega)
  rw [Nat.add_mul] at hle
  have hst := run_storeCells_fz P gg (i * sizeC c) ty fz cells.toList 0 arr w h5 hfz (by simp; omega) (hh.oneCells hsz)
  simp only [Nat.add_zero] at hst
  have hother : ∀ k, k ≠ gg → ∀ vs, (w.setRow gg vs).heap[k]? = w.heap[k]? := fun k hk vs => setRow_other w _ k vs hk
  refine ⟨_, hst, ?_⟩
  refine Tr.upd h hb (Mle.refl _) (RR.le.refl _) rfl (fun _ _ => ⟨rfl, rfl, rfl, rfl, rfl⟩) rfl rfl rfl (by simp) (fun k _ hn => hother k (fun he => hn (by simp [cid, hg, he])) _) (fun _ _ h h' => absurd h h') (fun g p u hu => ?_) (fun k hk => .inl hk) ?_
  · by_cases hgg : g = gg
    · subst hgg; rw [h8 p] at hu; exact absurd hu (by simp)
    · rw [cell?_of_heap (hother g hgg _)]
      exact h.mem g p u hu
  · have hlen : (l.take i ++ ys ++ l.drop (i + ys.length)).length = l.length := by simp; omega
    refine ⟨h1, by rw [hlen]; exact h2, h3, ?_⟩
    rw [hg]
    have hns : ((arr.toList.take (i * sizeC c) ++ cells.toList ++ arr.toList.drop (i * sizeC c + cells.toList.length)).toArray).size = arr.size := by simp; omega
    refine ⟨by rw [hlen]; exact hlc, _, ty, fz, setRow_heap w gg arr _ ty _ h5, by rw [hns]; exact hfz, by rw [hns]; exact h6, fun k j z q hz hq => ?_, h8⟩
    simp only [List.getElem?_toArray]
    rw [List.map_append, List.map_append] at hz
    have hil : (List.map (inj c) (List.take i l)).length = i := by simp; omega
    rcases Nat.lt_or_ge k i with hk | hk
    · rw [List.append_assoc, List.getElem?_append_left (by omega), List.map_take, List.getElem?_take_of_lt hk] at hz
      obtain ⟨u, hu, hv⟩ := h7 k j z q hz hq
      obtain ⟨_, hj, _⟩ := place_lt hz hq
      have : (k + 1) * sizeC c ≤ i * sizeC c := Nat.mul_le_mul_right _ hk
      rw [Nat.add_mul] at this
      refine ⟨u, ?_, hv⟩
      rw [List.append_assoc, List.getElem?_append_left (by simp; omega), List.getElem?_take_of_lt (by omega), Array.getElem?_toList]
      exact hu
    · rcases Nat.lt_or_ge k (i + ys.length) with hk2 | hk2
      · rw [List.append_assoc, List.getElem?_append_right (by omega), List.getElem?_append_left (by simp; omega), hil] at hz
        obtain ⟨u, hu, hv⟩ := hh (k - i) j z q hz hq
        obtain ⟨_, hj, hp⟩ := place_lt hz hq
        have hki : i * sizeC c ≤ k * sizeC c := Nat.mul_le_mul_right _ hk
        simp only at hu
        rw [Nat.sub_mul] at hu hp
        refine ⟨u, ?_, hv⟩
        rw [List.append_assoc, List.getElem?_append_right (by simp; omega), List.getElem?_append_left (by simp; omega)]
        simp only [List.length_take, Array.length_toList, Array.getElem?_toList]
        rw [show k * sizeC c + j - min (i * sizeC c) arr.size = k * sizeC c - i * sizeC c + j by omega]
        exact hu
      · rw [List.getElem?_append_right (by simp; omega)] at hz
        simp only [List.length_append, List.length_map, List.length_take] at hz
        rw [List.map_drop, List.getElem?_drop, show i + ys.length + (k - (min i l.length + ys.length)) = k by omega] at hz
        obtain ⟨u, hu, hv⟩ := h7 k j z q hz hq
        have hki : (i + ys.length) * sizeC c ≤ k * sizeC c := Nat.mul_le_mul_right _ hk2
        rw [Nat.add_mul] at hki
        refine ⟨u, ?_, hv⟩
        rw [List.getElem?_append_right (by simp; omega), List.getElem?_drop]
        simp only [List.length_append, List.length_take, Array.length_toList, Array.getElem?_toList]
        rw [show i * sizeC c + cells.size + (k * sizeC c + j - (min (i * sizeC c) arr.size + cells.size)) = k * sizeC c + j by omega]
        exact hu
theorem set_same {H : List AB} {b : Nat} {x : AB} (hb : H[b]? = some x) : H.set b x = H := by
  apply List.ext_getElem?
  intro i
  rw [List.getElem?_set]
  split
  · rename_i hi
    subst hi
    rw [if_pos (List.getElem?_eq_some_iff.1 hb).1, hb]
  · rfl
theorem copy_sound {t t2 ty : TypeId} {x y v : AV} {H' : List AB} {cx cy : Value} (h : HR M e H w) (ha : (copyT P H t x y).run = some (v, H')) (hx : VR M e x cx) (hy : VR M e y cy) :
    ∃ c w', (Builtin.copy_ #[t, t2] ty #[cx, cy]).run P w = .ok c w' ∧ Tr M e H w M e H' w' ∧ VR M e v c := by
  unfold copyT at ha
  split at ha
  · exact (run_no ha).elim
  rename_i ti hT
  obtain ⟨i, d, hty⟩ := mkT_some hT
  split at ha
  case h_2 => exact (run_no ha).elim
  rename_i el hk
  have hd := kdOf_slc (hty.kd ▸ hk)
  subst hd
  split at ha
  · exact (run_no ha).elim
  rename_i ei hE
  obtain ⟨ie, de, hte⟩ := mkT_some hE
  have core : ∀ {b v' : Nat} {c : Cd} {l ys : List (τ c)} {a : Option Addr} {i n cap : Nat}, H[b]? = some (.arr false v' c l) → srcT H y c = some ys → sizeC c = ei.size → i + n ≤ l.length →
      (0 < n → ∀ gg cc, e.g b = some (gg, cc) → a = some ⟨gg, i * sizeC c, none⟩) → (e.g b = none → n = 0) →
      ∃ w', (Builtin.copy_ #[t, t2] ty #[.slice a n cap, cy]).run P w = .ok (goInt ((min n ys.length : Nat) : Int)) w' ∧ Tr M e H w M e (H.set b (.arr false v' c (l.take i ++ ys.take n ++ l.drop (i + min n ys.length)))) w' := by
    intro b v' c l ys a i n cap hb hys hs hin hat hnone
    obtain ⟨hlen, hsr⟩ := src_sound (P := P) h hys hy
    have hmin : Nat.min ys.length n = min n ys.length := Nat.min_comm _ _
    obtain ⟨cells, hc1, hc2, hc3⟩ := hsr (min n ys.length) (Nat.min_le_right _ _)
    have htk : ys.take (min n ys.length) = ys.take n := by rw [List.take_eq_take_iff]; omega
    rw [htk] at hc3
    have hc1' := hc1 w (fun _ _ => rfl)
    rw [hs] at hc1'
    have hrun : ∀ w', (match a with | some x => (storeCells x cells.toList).run P w | none => .ok () w) = .ok () w' → (Builtin.copy_ #[t, t2] ty #[.slice a n cap, cy]).run P w = .ok (goInt ((min n ys.length : Nat) : Int)) w' := by
      intro w' hw
      cases a with
      | none =>
        simp only at hw
        obtain rfl : w = w' := by injection hw
        simp [Builtin.copy_, hty.run_und, hlen, hmin, hte.run_size, hc1']
      | some x =>
        simp only at hw
        simp [Builtin.copy_, hty.run_und, hlen, hmin, hte.run_size, hc1', hw]
    by_cases hz : min n ys.length = 0
    · have hcl : cells = #[] := by
        have : cells.size = 0 := by rw [hc2, hz]; simp
        simpa using this
      subst hcl
      refine ⟨w, hrun w (by cases a <;> simp [storeCells]), ?_⟩
      have : l.take i ++ ys.take n ++ l.drop (i + min n ys.length) = l := by
        rw [hz, Nat.add_zero]
        have : ys.take n = [] := by rw [← htk, hz]; rfl
        rw [this, List.append_nil, List.take_append_drop]
      rw [this, set_same hb]
      exact Tr.refl h
    · cases hg : e.g b with
      | none => have := hnone hg; omega
      | some p =>
        obtain ⟨gg, cc⟩ := p
        have := hat (by omega) gg cc hg
        subst this
        have hl2 : (ys.take n).length = min n ys.length := by simp
        obtain ⟨w', h1, h2⟩ := seg_store (P := P) h hb hg (ys := ys.take n) (i := i) (by rw [hc2, hl2]) hc3 (by rw [hl2]; omega)
        rw [hl2] at h2
        exact ⟨w', hrun w' h1, h2⟩
  split at ha
  · rename_i b v0
    split at ha
    case h_2 => exact (run_no ha).elim
    rename_i v' c l hb
    split at ha
    case h_2 => exact (run_no ha).elim
    rename_i ys hys
    split at ha
    case h_2 => exact (run_no ha).elim
    rename_i hd
    obtain ⟨rfl, hs⟩ := of_decide_eq_true hd
    obtain ⟨rfl, rfl⟩ := Prod.mk.inj (run_ret ha)
    obtain ⟨a, cap, rfl, h1, h2, h3, h4⟩ := slc_seen h hb hx
    obtain ⟨w', hr, hTr⟩ := core (a := a) (i := 0) (n := l.length) (cap := cap) hb hys hs (by omega) (fun _ gg cc hg => by rw [(h3 gg cc hg).1]; simp) (fun hg => by rw [(h4 hg).1]; rfl)
    refine ⟨_, w', hr, ?_, ?_⟩
    · have : l.take 0 ++ ys.take l.length ++ l.drop (0 + min l.length ys.length) = ys.take l.length ++ l.drop ys.length := by
        rw [List.take_zero, List.nil_append, Nat.zero_add]
        congr 1
        rcases Nat.le_total l.length ys.length with hq | hq
        · rw [Nat.min_eq_left hq, List.drop_eq_nil_of_le hq, List.drop_length]
        · rw [Nat.min_eq_right hq]
      rw [this] at hTr
      exact hTr
    · have : (min (l.length : Int) (ys.length : Int)) = ((min l.length ys.length : Nat) : Int) := by omega
      rw [this]
      exact .int
  · rename_i b v0 s i n
    split at ha
    case h_2 => exact (run_no ha).elim
    rename_i v' c l hb
    split at ha
    case h_2 => exact (run_no ha).elim
    rename_i ys hys
    split at ha
    case h_2 => exact (run_no ha).elim
    rename_i hd
    obtain ⟨rfl, hs, rfl⟩ := of_decide_eq_true hd
    obtain ⟨rfl, rfl⟩ := Prod.mk.inj (run_ret ha)
    obtain ⟨a, cap, rfl, h1, h2, h3, h4⟩ := sub_seen h hb hx
    obtain ⟨_, _, h5, _⟩ := blk_seen h hb
    obtain ⟨w', hr, hTr⟩ := core (a := a) (i := i) (n := n) (cap := cap) hb hys hs h2 (fun hn gg cc hg => (h4 gg cc hg).2 (by omega)) (fun hg => by have := h5 hg; subst this; simp at h2; omega)
    refine ⟨_, w', hr, hTr, ?_⟩
    have : (min (n : Int) (ys.length : Int)) = ((min n ys.length : Nat) : Int) := by omega
    rw [this]
    exact .int
  · exact (run_no ha).elim
end
end Go.Sm
/- Iterators, fields, conversions, new variables. No condition. -/
set_option linter.unusedVariables false
set_option linter.unusedSimpArgs false
namespace Go.Sm
section
variable {P : Program} {M : Mem} {e : RR} {H : List AB} {w : World}
theorem Tr.setIter {M : Mem} {e : RR} {H : List AB} {w : World} (h : HR M e H w) {b pos pos' : Nat} {s : List UInt8} (hb : H[b]? = some (.iter s pos)) {bs : ByteArray} (hbs : w.heap[e.ρ b]? = some (.stringIter bs pos)) (hs : bs.data.toList = s) :
    Tr M e H w M e (H.set b (.iter s pos')) { w with heap := w.heap.setIfInBounds (e.ρ b) (.stringIter bs pos') } := by
  have hlt := heap_lt hbs
  have hother : ∀ i, i ≠ e.ρ b → (w.heap.setIfInBounds (e.ρ b) (.stringIter bs pos'))[i]? = w.heap[i]? := by
    intro i hi
    rw [Array.getElem?_setIfInBounds, if_neg (fun h => hi h.symm)]
  refine Tr.upd h hb (Mle.refl _) (RR.le.refl _) rfl (fun _ _ => ⟨rfl, rfl, rfl, rfl, rfl⟩) rfl rfl rfl (by simp) (fun i _ hn => hother i fun he => hn (by rw [he]; rfl)) (fun _ _ h h' => absurd h h') (fun g o u hu => ?_) (fun i hi => .inl hi) ⟨bs, by simp [hlt], hs⟩
  have h1 := h.mem g o u hu
  by_cases hg : g = e.ρ b
  · subst hg
    simp [World.cell?, hbs] at h1
  · rw [← h1]
    exact cell?_of_heap (hother g hg)
theorem run_getObj_iter {r pos : Nat} {bs : ByteArray} (h : w.heap[r]? = some (.stringIter bs pos)) : (getObj r).run P w = .ok (.stringIter bs pos) w := by
  simp [getObj, Sem.run, h]
theorem next_sound {it v : AV} {c : Value} {H' : List AB} {t : TypeId} (h : HR M e H w) (ha : (nextT H it).run = some (v, H')) (hx : VR M e it c) :
    ∃ u w', (Instr.next c true t).run P w = .ok u w' ∧ Tr M e H w M e H' w' ∧ VR M e v u := by
  unfold nextT at ha
  split at ha
  · rename_i b
    split at ha
    · rename_i s pos hb
      cases hx with
      | ptr hbN =>
        obtain ⟨bs, hbs, hs⟩ := h.blk b _ hb
        have hsz : bs.size = s.length := by rw [← hs]; rfl
        have hbe : bs = ⟨s.toArray⟩ := by
          apply ByteArray.ext
          apply Array.toList_inj.1
          rw [hs]
        rcases run_ite ha with ⟨hp, ha⟩ | ⟨hp, ha⟩
        · have hp := of_decide_eq_true hp
          obtain ⟨rfl, rfl⟩ := Prod.mk.inj (run_ret ha)
          have hT := Tr.setIter h hb hbs hs (pos' := pos + (Utf8.decode bs pos).2)
          refine ⟨.tuple #[.bool true, .int .i64 pos, .int .i32 (Utf8.decode bs pos).1], _, ?_, by rw [← hbe]; exact hT, ?_⟩
          · simp only [Instr.next, Sem.run_bind, run_getObj_iter hbs, Result.andThen_ok, hsz, hp, if_true]
            simp [setObj, Sem.run, hbs, goInt]
          · rw [← hbe]
            refine .tup rfl fun j y u hy hu => ?_
            match j with
            | 0 => simp at hy hu; subst hy; subst hu; exact .bool
            | 1 => simp at hy hu; subst hy; subst hu; exact .int
            | 2 => simp at hy hu; subst hy; subst hu; exact .int
            | j + 3 => simp at hy
        · have hp := of_decide_eq_false hp
          obtain ⟨rfl, rfl⟩ := Prod.mk.inj (run_ret ha)
          refine ⟨.tuple #[.bool false], w, ?_, Tr.refl h, ?_⟩
          · simp only [Instr.next, Sem.run_bind, run_getObj_iter hbs, Result.andThen_ok, hsz, hp, if_false, Sem.run_pure]
          · refine .tup rfl fun j y u hy hu => ?_
            match j with
            | 0 => simp at hy hu; subst hy; subst hu; exact .bool
            | j + 1 => simp at hy
    · exact (run_no ha).elim
  · exact (run_no ha).elim
theorem field_of {ti : TI} {t : TypeId} {inf : TypeInfo} {d : TypeDesc} (hty : TyAt P t ti inf d) {i : Nat} {ft : TypeId} {off sz : Nat} (h : fieldAt ti i = some (ft, off, sz)) :
    ∃ fields f, d = .struct fields ∧ fields[i]? = some f ∧ f.type = ft ∧ f.offset = off ∧ P.cellsOf f.type = sz ∧ ∃ fi, P.info? f.type = some fi := by
  unfold fieldAt at h
  split at h
  · rename_i fs hk
    obtain ⟨fields, rfl, hnm, hfs⟩ := kdOf_strct (hty.kd ▸ hk)
    subst hfs
    rw [List.getElem?_map] at h
    cases hf : fields.toList[i]? with
    | none => rw [hf] at h; exact absurd h (by simp)
    | some f =>
      rw [hf] at h
      simp at h
      obtain ⟨h1, h2, h3⟩ := h
      have hf' : fields[i]? = some f := by simpa using hf
      have hmem : f ∈ fields := Array.mem_of_getElem? hf'
      exact ⟨fields, f, rfl, hf', h1, h2, h3, Option.isSome_iff_exists.1 (hnm f hmem).2⟩
  · exact absurd h (by simp)
theorem fieldAt_run {ti : TI} {t : TypeId} (hT : mkT P t = some ti) {i : Nat} {ft : TypeId} {off sz : Nat} (h : fieldAt ti i = some (ft, off, sz)) (hpos : 0 < sz) (a : Addr) :
    (Instr.fieldAt t (.pointer (some a)) i).run P w = .ok (.pointer (some (a.add off))) w := by
  obtain ⟨inf, d, hty⟩ := mkT_some hT
  obtain ⟨fields, f, rfl, hf, rfl, rfl, rfl, fi, hfi⟩ := field_of hty h
  have hs : (sizeOf f.type).run P w = .ok (P.cellsOf f.type) w := run_sizeOf w hfi
  simp only [Instr.fieldAt, Sem.run_bind, hty.run_und, Result.andThen_ok, hf, Instr.sureAddr, Sem.run_pure, fieldPlace, hs, Sem.run_ite]
  rw [if_neg (by omega)]
  rfl
theorem foldl_push : ∀ (bs : List UInt8) (acc : ByteArray), ((bs.map fun b => (b.toNat : Int)).foldl (fun r n => r.push (UInt8.ofNat n.toNat)) acc).data.toList = acc.data.toList ++ bs
  | [], acc => by simp
  | b :: bs, acc => by
    simp only [List.map_cons, List.foldl_cons]
    rw [foldl_push bs]
    have : UInt8.ofNat ((b.toNat : Int)).toNat = b := by simp
    rw [this]
    simp [ByteArray.push]
theorem byteI_vr (n : Int) : VR M e (.u8 (byteI n)) (.int .u8 (IntKind.u8.wrap n)) := by
  rw [wrap_u8, ← byteI_toNat]
  exact .u8
theorem wrap_small {k : IntKind} (h8 : k ≠ .i8) (b : UInt8) : k.wrap (b.toNat : Int) = b.toNat := by
  have := b.toNat_lt
  cases k <;> first | exact absurd rfl h8 | (simp only [IntKind.wrap, IntKind.bits, IntKind.signed]; simp; omega)
theorem conv_sound {s d : TypeId} {x v : AV} {H' : List AB} {c : Value} (h : HR M e H w) (ha : (convT P H s d x).run = some (v, H')) (hx : VR M e x c) :
    ∃ u w' M' e', (convert s d c).run P w = .ok u w' ∧ Tr M e H w M' e' H' w' ∧ VR M' e' v u := by
  unfold convT at ha
  split at ha
  case h_2 => exact (run_no ha).elim
  rename_i si di hS hD
  obtain ⟨is, ds, hts⟩ := mkT_some hS
  obtain ⟨id, dd, htd⟩ := mkT_some hD
  split at ha
  · rename_i hk1 hk2
    have h1 := kdOf_int (hts.kd ▸ hk1)
    have h2 := kdOf_int (htd.kd ▸ hk2)
    subst h1; subst h2
    cases hx
    split at ha
    · obtain ⟨rfl, rfl⟩ := Prod.mk.inj (run_ret ha)
      exact ⟨_, w, M, e, by simp [convert, hts.run_und, htd.run_und, Conv.intToInt], Tr.refl h, byteI_vr _⟩
    · obtain ⟨rfl, rfl⟩ := Prod.mk.inj (run_ret ha)
      exact ⟨_, w, M, e, by simp [convert, hts.run_und, htd.run_und, Conv.intToInt], Tr.refl h, .int⟩
  · rename_i b hk1 hk2
    have h1 := kdOf_int (hts.kd ▸ hk1)
    have h2 := kdOf_int (htd.kd ▸ hk2)
    subst h1; subst h2
    cases hx
    split at ha
    · obtain ⟨rfl, rfl⟩ := Prod.mk.inj (run_ret ha)
      refine ⟨.int .u8 (IntKind.u8.wrap b.toNat), w, M, e, by simp [convert, hts.run_und, htd.run_und, Conv.intToInt], Tr.refl h, ?_⟩
      rw [wrap_nat b.toNat_lt]
      exact .u8
    · obtain ⟨rfl, rfl⟩ := Prod.mk.inj (run_ret ha)
      exact ⟨_, w, M, e, by simp [convert, hts.run_und, htd.run_und, Conv.intToInt], Tr.refl h, .int⟩
    · rename_i _ k _ _ hk8
      obtain ⟨rfl, rfl⟩ := Prod.mk.inj (run_ret ha)
      refine ⟨.int k (k.wrap b.toNat), w, M, e, by simp [convert, hts.run_und, htd.run_und, Conv.intToInt], Tr.refl h, ?_⟩
      rw [wrap_small hk8]
      exact .int
  · rename_i hk1 hk2
    have h1 := kdOf_str (hts.kd ▸ hk1)
    have h2 := kdOf_str (htd.kd ▸ hk2)
    subst h1; subst h2
    obtain ⟨rfl, rfl⟩ := Prod.mk.inj (run_ret ha)
    have hx0 := hx
    cases hx
    exact ⟨_, w, M, e, by simp [convert, hts.run_und, htd.run_und], Tr.refl h, hx0⟩
  · rename_i el x _ hk1 hk2
    have h1 := kdOf_slc (hts.kd ▸ hk1)
    have h2 := kdOf_str (htd.kd ▸ hk2)
    subst h1; subst h2
    split at ha
    case h_2 => exact (run_no ha).elim
    rename_i ei hE
    obtain ⟨ie, de, hte⟩ := mkT_some hE
    split at ha
    case h_2 => exact (run_no ha).elim
    rename_i hk3
    have h3 := kdOf_int (hte.kd ▸ hk3)
    subst h3
    split at ha
    case h_2 => exact (run_no ha).elim
    rename_i y hy
    split at ha
    case h_2 => exact (run_no ha).elim
    rename_i l hl
    obtain ⟨rfl, rfl⟩ := Prod.mk.inj (run_ret ha)
    obtain ⟨a, n, cap, rfl, hcap, hseen0⟩ := cont_sound h hy hx
    obtain ⟨rfl, hseen⟩ := cast_seen hl hseen0
    obtain ⟨cells, hr, hsz, hh⟩ := hseen.read (P := P) cap
    rw [run_convert_bytes_string w s d _ a l.length cap hts.und hte.und htd.und]
    cases a with
    | none =>
      refine ⟨.string .empty, w, M, e, rfl, Tr.refl h, .str ?_⟩
      have : l = [] := by
        apply Decidable.byContradiction
        intro hne
        obtain ⟨g, o, hg, _⟩ := hseen hne
        exact absurd hg (by simp)
      subst this
      rfl
    | some a =>
      have hcells : cells = ((l.map fun b => (b.toNat : Int)).map (Value.int .u8)).toArray := by
        apply Array.ext_getElem?
        intro k
        by_cases hk : k < l.length
        · obtain ⟨u, hu, hv⟩ := hh k 0 (.u8 l[k]) (.u8 l[k]) (by simp [hk, inj]) rfl
          simp only [sizeC, Nat.mul_one, Nat.add_zero] at hu
          rw [hu]
          cases hv
          simp [hk]
        · rw [Array.getElem?_eq_none (by rw [hsz]; simp [sizeC]; omega)]
          simp [hk]
      have hr' : (loadCells a l.length).run P w = .ok cells w := by have := hr w (fun _ _ => rfl); simpa [Builtin.firstCells, sizeC] using this
      rw [hcells] at hr'
      refine ⟨_, w, M, e, run_bytesToString w a l.length cap _ hr', Tr.refl h, .str ?_⟩
      rw [foldl_push]
      rfl
  · rename_i _ el s0 hk1 hk2
    have h1 := kdOf_str (hts.kd ▸ hk1)
    have h2 := kdOf_slc (htd.kd ▸ hk2)
    subst h1; subst h2
    split at ha
    case h_2 => exact (run_no ha).elim
    rename_i ei hE
    obtain ⟨ie, de, hte⟩ := mkT_some hE
    split at ha
    case h_2 => exact (run_no ha).elim
    rename_i hk3
    have h3 := kdOf_int (hte.kd ▸ hk3)
    subst h3
    split at ha
    case h_2 => exact (run_no ha).elim
    obtain ⟨rfl, rfl⟩ := Prod.mk.inj (run_ret ha)
    cases hx with
    | @str _ _ b hb =>
      have hbl : b.size = s0.length := by rw [← hb]; rfl
      have hcap : b.size ≤ grownCap w b.size 0 el := by unfold grownCap; exact Nat.le_add_right _ _
      have hrow : (bytesRow b (grownCap w b.size 0 el)).size = grownCap w b.size 0 el := by
        have : b.data.size = b.size := rfl
        simp [bytesRow]; omega
      have hT2 := Tr.drew h
      have hT := Tr.pushArr (c := .u8) (l := s0) (cc := grownCap w b.size 0 el) (arr := bytesRow b (grownCap w b.size 0 el)) hT2.hr el (bytesRow b (grownCap w b.size 0 el) |>.size, (bytesRow b (grownCap w b.size 0 el)).size + 1) (.inr (Nat.le_refl _)) Nat.one_pos (by omega) (by rw [hrow]; simp [sizeC]) (fun i j y z hy hz => by
        obtain ⟨hi, hj, _⟩ := place_lt hy hz
        simp only [sizeC, Nat.lt_one_iff] at hj
        subst hj
        rw [List.getElem?_map, List.getElem?_eq_getElem hi] at hy
        simp at hy
        subst hy
        obtain rfl := Option.some.inj hz
        refine ⟨.int .u8 s0[i].toNat, ?_, .u8⟩
        simp only [sizeC, Nat.mul_one, Nat.add_zero, bytesRow]
        rw [Array.getElem?_append_left (by simp; omega), Array.getElem?_map, ← Array.getElem?_toList, hb, List.getElem?_eq_getElem hi]
        rfl)
      rw [run_bytes_of_string w s d el b hts.und htd.und hte.und]
      refine ⟨_, _, M, _, rfl, hT2.trans hT, ?_⟩
      rw [hbl]
      exact slc_pushG h
  · exact (run_no ha).elim

/-! ### Nil slices get memory of their own -/
theorem CR.cons {M : Mem} {e : RR} {x : AV} {c : Value} {xs : List AV} {cs : List Value} (hx : VR M e x c) (h : CR M e xs cs.toArray) : CR M e (x :: xs) (c :: cs).toArray := by
  have hs := h.size
  refine ⟨by simpa using hs, fun i y v hy hv => ?_⟩
  cases i with
  | zero => simp at hy hv; subst hy; subst hv; exact hx
  | succ i => exact h.get i y v (by simpa using hy) (by simpa using hv)
theorem CR.uncons {M : Mem} {e : RR} {x : AV} {xs : List AV} {cs : List Value} (h : CR M e (x :: xs) cs.toArray) : ∃ c r, cs = c :: r ∧ VR M e x c ∧ CR M e xs r.toArray := by
  have hs := h.size
  cases cs with
  | nil => simp at hs
  | cons c r => exact ⟨c, r, rfl, h.get 0 x c rfl rfl, by simpa using hs, fun i y v hy hv => h.get (i + 1) y v (by simpa using hy) (by simpa using hv)⟩
theorem own_sound : ∀ {os : List (Option Cd)} {vs : List AV} {cs : List Value} {H : List AB} {e : RR}, HR M e H w → CR M e vs cs.toArray →
    ∃ e', Tr M e H w M e' (H ++ (ownL os vs H.length).2) w ∧ CR M e' (ownL os vs H.length).1 cs.toArray ∧ (ones vs → ones (ownL os vs H.length).1)
  | [], vs, cs, H, e, h, hc => by
    simp only [ownL, List.append_nil]
    exact ⟨e, Tr.refl h, hc, fun ho => ho⟩
  | o :: r, [], cs, H, e, h, hc => by
    have : ownL (o :: r) [] H.length = ([], []) := by cases o <;> rfl
    rw [this]
    simp only [List.append_nil]
    exact ⟨e, Tr.refl h, hc, fun ho => ho⟩
  | o :: r, v :: vs, cs, H, e, h, hc => by
    obtain ⟨c, cs', rfl, hv, hc'⟩ := hc.uncons
    have keep : ∀ {ov : AV} {bl : List AB}, ownL (o :: r) (v :: vs) H.length = (v :: (ownL r vs H.length).1, (ownL r vs H.length).2) →
        ∃ e', Tr M e H w M e' (H ++ (ownL (o :: r) (v :: vs) H.length).2) w ∧ CR M e' (ownL (o :: r) (v :: vs) H.length).1 (c :: cs').toArray ∧ (ones (v :: vs) → ones (ownL (o :: r) (v :: vs) H.length).1) := by
      intro _ _ heq
      obtain ⟨e', h1, h2, h3⟩ := own_sound (os := r) h hc'
      rw [heq]
      refine ⟨e', h1, CR.cons (hv.mono h1.mle h1.rle) h2, fun ho z hz => ?_⟩
      rcases List.mem_cons.1 hz with rfl | hz
      · exact ho _ (by simp)
      · exact h3 (fun z hz => ho z (by simp [hz])) z hz
    cases o with
    | none => exact keep (ov := .nils) (bl := []) rfl
    | some cd =>
      by_cases hn : v = .nils
      · subst hn
        have heq : ownL (some cd :: r) (.nils :: vs) H.length = (.slc H.length 0 :: (ownL r vs (H.length + 1)).1, .arr false 0 cd [] :: (ownL r vs (H.length + 1)).2) := rfl
        rw [heq]
        have hT := Tr.pushNil h (c := cd) (sizeC_pos cd)
        obtain ⟨e', h1, h2, h3⟩ := own_sound (os := r) hT.hr (hc'.mono hT.mle hT.rle)
        simp only [List.length_append, List.length_cons, List.length_nil, Nat.zero_add] at h1 h2 h3
        cases hv with
        | nils =>
          refine ⟨e', by have := hT.trans h1; simpa using this, CR.cons ((nil_pushG h).mono h1.mle h1.rle) h2, fun ho z hz => ?_⟩
          rcases List.mem_cons.1 hz with rfl | hz
          · rfl
          · exact h3 (fun z hz => ho z (by simp [hz])) z hz
      · refine keep (ov := .nils) (bl := []) ?_
        cases v <;> first | rfl | exact absurd rfl hn
theorem reV_sound {M : Mem} {e : RR} {y : AV} {c : Value} {q : List AV} (hy : VR M e y c) (hq : CR M e q c.cells) (ho : ones y.cells → ones q) : VR M e (reV y q) c := by
  unfold reV
  split
  · cases hy with
    | agg hs hp hg => exact .agg hq.size (ho hp) hq.get
  · cases hy with
    | nils => exact hq.get 0 _ _ rfl rfl
  · exact hy
theorem storeOT_sound {t : TypeId} {x y v : AV} {H' : List AB} {cx cy : Value} (h : HR M e H w) (ha : (storeOT P H t x y).run = some (v, H')) (hx : VR M e x cx) (hy : VR M e y cy) :
    ∃ w' e', (Instr.storeAt t cx cy).run P w = .ok () w' ∧ Tr M e H w M e' H' w' ∧ v = .tup [] := by
  unfold storeOT at ha
  split at ha
  · rename_i b o hnt
    have hnt := isTup_false hnt
    obtain ⟨e1, h1, h2, h3⟩ := own_sound (os := owns P t y.cells.length) (cs := cy.cells.toList) h (by simpa using hy.cells)
    rw [Array.toArray_toList] at h2
    obtain ⟨w', hr, hT', rfl⟩ := storeT_sound h1.hr ha (hx.mono h1.mle h1.rle) (reV_sound (hy.mono h1.mle h1.rle) h2 h3)
    exact ⟨w', e1, hr, h1.trans hT', rfl⟩
  · obtain ⟨w', hr, hT', rfl⟩ := storeT_sound h ha hx hy
    exact ⟨w', e, hr, hT', rfl⟩
theorem newVar_sound {t : TypeId} {x v : AV} {H' : List AB} {c : Value} (h : HR M e H w) (ha : (newVarT P H t x).run = some (v, H')) (hx : VR M e x c) :
    ∃ M' e', Tr M e H w M' e' H' (w.alloc (.cells c.cells t)) ∧ VR M' e' v (.pointer (some ⟨w.heap.size, 0, none⟩)) := by
  unfold newVarT at ha
  split at ha
  · exact (run_no ha).elim
  · rename_i hnt
    have hnt := isTup_false hnt
    obtain ⟨rfl, rfl⟩ := Prod.mk.inj (run_ret ha)
    obtain ⟨e1, h1, h2, h3⟩ := own_sound (os := owns P t x.cells.length) (cs := c.cells.toList) h (by simpa using hx.cells)
    have hT := Tr.pushCells h1.hr t (cs := (ownL (owns P t x.cells.length) x.cells H.length).1) (vs := c.cells) (by simpa using h2) (h3 (hx.ones hnt))
    refine ⟨M, _, h1.trans hT, ?_⟩
    have := ptr_push (M := M) h1.hr w.heap.size
    simpa using this
end
end Go.Sm
/- Blocks that were made before their turn: adopted later. No condition. -/
set_option linter.unusedVariables false
set_option linter.unusedSimpArgs false
namespace Go.Sm

/-- A block that is new since n and that the small heap does not know yet. -/
structure Pend (n : Nat) (M : Mem) (e : RR) (H : List AB) (w : World) (a : Nat) (o : Obj) : Prop where
  at_ : w.heap[a]? = some o
  out : ¬ foot e H a
  mem : ∀ k, M a k = none
  new : n ≤ a
theorem Pend.step {n : Nat} {M M' : Mem} {e e' : RR} {H H' : List AB} {w w' : World} {a : Nat} {o : Obj} (h : Pend n M e H w a o) (T : Tr M e H w M' e' H' w') : Pend n M' e' H' w' a o := by
  have hlt : a < w.heap.size := (Array.getElem?_eq_some_iff.1 h.at_).1
  refine ⟨(T.same a hlt h.out).trans h.at_, fun hf => ?_, fun k => ?_, h.new⟩
  · rcases T.ids a hf with h1 | h1
    · exact h.out h1
    · omega
  · cases hq : M' a k with
    | none => rfl
    | some u =>
      rcases T.fresh a k (h.mem k) (by rw [hq]; simp) with h1 | h1
      · exact absurd h1 h.out
      · omega
/-- A block is adopted: it stands in the world, and no other block has its place. -/
theorem HR.adopt {M : Mem} {e e' : RR} {H : List AB} {w : World} (h : HR M e H w) {x' : AB} (he : e.le e') (hN : e'.N = e.N + 1) (hoth : ∀ k, k < e.N → sameAt e e' k)
    (hcid : ∀ i, cid e' e.N x' = some i → ¬ foot e H i) (hbr : BR M e' w e.N x') (hkd : e'.arr e.N = x'.isArr) :
    HR M e' (H ++ [x']) w ∧ ∀ i, foot e' (H ++ [x']) i → foot e H i ∨ cid e' e.N x' = some i := by
  have hkind : ∀ k y, (H ++ [x'])[k]? = some y → e'.arr k = y.isArr := by
    intro k y hy
    rcases getElem?_snoc hy with ⟨hk, hy⟩ | ⟨rfl, rfl⟩
    · rw [(hoth k (by rw [h.N]; exact hk)).2.2.2.2]; exact h.kind k y hy
    · rw [← h.N]; exact hkd
  have hcase : ∀ {k y i}, (H ++ [x'])[k]? = some y → cid e' k y = some i → (k = H.length ∧ cid e' e.N x' = some i) ∨ (k < H.length ∧ H[k]? = some y ∧ cid e k y = some i) := by
    intro k y i hy hi
    rcases getElem?_snoc hy with ⟨hk, hz⟩ | ⟨rfl, rfl⟩
    · obtain ⟨h1, h2, _⟩ := hoth k (by rw [h.N]; exact hk)
      rw [cid_other h1 h2] at hi
      exact .inr ⟨hk, hz, hi⟩
    · exact .inl ⟨rfl, by rw [h.N]; exact hi⟩
  refine ⟨⟨by rw [hN, h.N]; simp, h.mem, fun k y hy => ?_, fun k k' y y' i hy hy' hi hi' => ?_, h.glob, hkind⟩, fun i hf => ?_⟩
  · rcases getElem?_snoc hy with ⟨hk, hy⟩ | ⟨rfl, rfl⟩
    · have hbk := h.blk k y hy
      obtain ⟨h1, h2, h3, h4, _⟩ := hoth k (by rw [h.N]; exact hk)
      exact hbk.other (Mle.refl _) he h1 h2 h3 h4 fun i hi o ho => ho
    · rw [← h.N]; exact hbr
  · rcases hcase hy hi with ⟨h1, h2⟩ | ⟨hk, hz, hj⟩ <;> rcases hcase hy' hi' with ⟨h3, h4⟩ | ⟨hk', hz', hj'⟩
    · rw [h1, h3]
    · exact absurd ⟨_, _, hz', hj'⟩ (hcid i h2)
    · exact absurd ⟨_, _, hz, hj⟩ (hcid i h4)
    · exact h.inj k k' y y' i hz hz' hj hj'
  · obtain ⟨k, y, hy, hi⟩ := hf
    rcases hcase hy hi with ⟨_, h2⟩ | ⟨_, hz, hj⟩
    · exact .inr h2
    · exact .inl ⟨k, y, hz, hj⟩
/-- The world has a block more, which the small heap does not know. -/
theorem Tr.garbage {M : Mem} {e : RR} {H : List AB} {w : World} (h : HR M e H w) (o : Obj) : Tr M e H w M e H (w.alloc o) where
  mle := Mle.refl _
  rle := RR.le.refl _
  hr := ⟨h.N, mem_old h fun i hi => alloc_old hi, fun k y hy => (h.blk k y hy).world fun i hi => alloc_old ((h.blk k y hy).lt hi), h.inj, h.glob, h.kind⟩
  os := rfl
  tape := rfl
  output := rfl
  size := by simp
  same i hi _ := alloc_old hi
  ids i hi := .inl hi
  fresh _ _ h h' := absurd h h'
theorem Pend.alloc {M : Mem} {e : RR} {H : List AB} {w : World} (h : HR M e H w) (o : Obj) : Pend w.heap.size M e H (w.alloc o) w.heap.size o where
  at_ := alloc_new
  out := fun ⟨k, y, hy, hi⟩ => by have := (h.blk k y hy).lt hi; omega
  mem := h.free (Nat.le_refl _)
  new := Nat.le_refl _
/-- A new variable whose block was made before its turn. -/
theorem newVar_late {P : Program} {n a : Nat} {M : Mem} {e : RR} {H : List AB} {w : World} {t : TypeId} {x v : AV} {H' : List AB} {c : Value} (h : HR M e H w) (hp : Pend n M e H w a (.cells c.cells t (0, 0))) (ha : (newVarT P H t x).run = some (v, H')) (hx : VR M e x c) :
    ∃ e', HR M e' H' w ∧ e.le e' ∧ (∀ i, foot e' H' i → foot e H i ∨ i = a) ∧ VR M e' v (.pointer (some ⟨a, 0, none⟩)) := by
  unfold newVarT at ha
  split at ha
  · exact (run_no ha).elim
  · rename_i hnt
    have hnt := isTup_false hnt
    obtain ⟨rfl, rfl⟩ := Prod.mk.inj (run_ret ha)
    obtain ⟨e1, h1, h2, h3⟩ := own_sound (os := owns P t x.cells.length) (cs := c.cells.toList) h (by simpa using hx.cells)
    have hp1 := hp.step h1
    have hfoot : ∀ i, foot e1 (H ++ (ownL (owns P t x.cells.length) x.cells H.length).2) i → foot e H i ∨ w.heap.size ≤ i := h1.ids
    obtain ⟨q1, q2⟩ := HR.adopt h1.hr (e' := e1.push a) (x' := .cells (ownL (owns P t x.cells.length) x.cells H.length).1) (RR.le_push _ _) rfl (fun k hk => RR.same_push hk)
      (fun i hi => by
        have : a = i := by simpa [cid, RR.push] using hi
        subst this
        exact hp1.out)
      ⟨h3 (hx.ones hnt), c.cells, t, by simp only [RR.push, if_true]; exact hp1.at_, by simpa using h2.mono (Mle.refl _) (RR.le_push e1 a), by simp only [RR.push, if_true]; exact hp1.mem⟩ (by simp [RR.push, AB.isArr])
    refine ⟨e1.push a, q1, h1.rle.trans (RR.le_push _ _), fun i hi => ?_, ?_⟩
    · rcases q2 i hi with h4 | h4
      · rcases h1.ids i h4 with h5 | h5
        · exact .inl h5
        · obtain ⟨k, y, hy, hc⟩ := h4
          have := (h1.hr.blk k y hy).lt hc
          omega
      · exact .inr (by simpa [cid, RR.push, eq_comm] using h4)
    · have := ptr_push (M := M) h1.hr a
      simpa using this
/-- Slices of one's own whose block was made before its turn. -/
theorem arr_late {n a : Nat} {M : Mem} {e : RR} {H : List AB} {w : World} {c : Cd} {l : List (τ c)} {cc : Nat} {arr : Array Value} {ty : TypeId} {fz : Nat × Nat} (h : HR M e H w) (hp : Pend n M e H w a (.cells arr ty fz)) (hfz : fz.2 = 0 ∨ arr.size ≤ fz.1) (hpos : 0 < sizeC c) (hcc : l.length ≤ cc) (hsz : arr.size = cc * sizeC c) (hh : Holds M c l (fun o => arr[o]?)) :
    HR M (e.pushG (some (a, cc)) l.length) (H ++ [.arr false 0 c l]) w ∧ ∀ i, foot (e.pushG (some (a, cc)) l.length) (H ++ [.arr false 0 c l]) i → foot e H i ∨ i = a := by
  obtain ⟨q1, q2⟩ := HR.adopt h (e' := e.pushG (some (a, cc)) l.length) (x' := .arr false 0 c l) (RR.le_pushG _ _ _) rfl (fun k hk => RR.same_pushG hk)
    (fun i hi => by
      have : a = i := by simpa [cid, RR.pushG, RR.setG] using hi
      subst this
      exact hp.out)
    ⟨by simp [RR.pushG, RR.setG], by simp [RR.pushG, RR.setG], hpos, by
      simp only [RR.pushG, RR.setG, if_true]
      exact ⟨hcc, arr, ty, fz, hp.at_, hfz, hsz, hh, hp.mem⟩⟩ (by simp [RR.pushG, AB.isArr])
  refine ⟨q1, fun i hi => ?_⟩
  rcases q2 i hi with h4 | h4
  · exact .inl h4
  · exact .inr (by simpa [cid, RR.pushG, RR.setG, eq_comm] using h4)
theorem slc_late {n a : Nat} {M : Mem} {e : RR} {H : List AB} {w : World} (h : HR M e H w) {m cc : Nat} : VR M (e.pushG (some (a, cc)) m) (.slc H.length 0) (.slice (some ⟨a, 0, none⟩) m cc) := slc_pushG h
end Go.Sm
/- Every operation but calls of functions. No condition. -/
set_option linter.unusedVariables false
set_option linter.unusedSimpArgs false
namespace Go.Sm
section
variable {P : Program} {M : Mem} {e : RR} {H : List AB} {w : World} {env : Env} {a : Act}

theorem OpRes.val {s : Sem Value} {v : AV} {c : Value} {w' : World} {M' : Mem} {e' : RR} {H' : List AB} (hr : s.run P w = .ok c w') (hT : Tr M e H w M' e' H' w') (hv : VR M' e' v c) :
    OpRes P M e H w (do pure (.value (← s))) v H' := ⟨.value c, c, w', M', e', by simp [hr], .inl rfl, hT, hv⟩
theorem OpRes.val1 {s : Sem Value} {v : AV} (h : HR M e H w) (hr : ∃ c, s.run P w = .ok c w ∧ VR M e v c) : OpRes P M e H w (do pure (.value (← s))) v H :=
  let ⟨_, h1, h2⟩ := hr; .val h1 (Tr.refl h) h2
theorem at1_run {d : DT AV} {v : AV} {H' : List AB} (h : (at1 H d).run = some (v, H')) : d.run = some v ∧ H' = H := by
  obtain ⟨x, h1, h2⟩ := bind_run h
  obtain ⟨rfl, rfl⟩ := Prod.mk.inj (run_ret h2)
  exact ⟨h1, rfl⟩
theorem at0_run {o : Option AV} {v : AV} {H' : List AB} (h : (at0 H o).run = some (v, H')) : o = some v ∧ H' = H := by
  unfold at0 at h
  split at h
  · obtain ⟨rfl, rfl⟩ := Prod.mk.inj (run_ret h)
    exact ⟨rfl, rfl⟩
  · exact (run_no h).elim
theorem opdO_sound (hE : EnvR M e env a.tmps) {x : Option Operand} {v : Option AV} (h : opdO env x = some v) : OVR M e v (x.map a.eval) := by
  cases x with
  | none => simp only [opdO, Option.some.injEq] at h; subst h; exact trivial
  | some x =>
    simp only [opdO] at h
    split at h
    · rename_i u hu
      obtain rfl := Option.some.inj h
      exact opd_sound hE hu
    · exact absurd h (by simp)
theorem mapM_places {fields : Array Field} (hall : ∀ f ∈ fields.toList, ∃ fi, P.info? f.type = some fi) :
    (fields.mapM fun f => do pure (f.offset, ← sizeOf f.type) : Sem (Array (Nat × Nat))).run P w = .ok (fields.map fun f => (f.offset, P.cellsOf f.type)) w := by
  rw [← Array.toArray_toList (xs := fields)]
  generalize fields.toList = l at hall
  rw [List.mapM_toArray]
  have key : ∀ (l : List Field), (∀ f ∈ l, ∃ fi, P.info? f.type = some fi) → (l.mapM fun f => Prod.mk f.offset <$> sizeOf f.type : Sem (List (Nat × Nat))).run P w = .ok (l.map fun f => (f.offset, P.cellsOf f.type)) w := by
    intro l
    induction l with
    | nil => intro _; simp
    | cons f r ih =>
      intro hall
      obtain ⟨fi, hfi⟩ := hall f (by simp)
      simp [run_sizeOf w hfi, ih fun g hg => hall g (by simp [hg])]
  simp [key l hall]
theorem ofV_ntup {c : Value} {l : List AV} (h : ofV c = some (.tup l)) : False := by
  unfold ofV at h
  split at h
  · split at h <;> simp at h
  · have := ofS_one h
    cases this
theorem op_build {o : Oper} {t : TypeId} {ps : Array (Nat × Operand)} (hop : o.op = .build t ps) (h : HR M e H w) (hE : EnvR M e env a.tmps) {v : AV} {H' : List AB} (ha : (opT P env H (.build t ps)).run = some (v, H')) :
    OpRes P M e H w (execOp a.eval o) v H' := by
  simp only [execOp, hop]
  simp only [opT] at ha
  split at ha
  · rename_i ti vs hT hvs
    obtain ⟨inf, d, hty⟩ := mkT_some hT
    obtain ⟨hl, hp⟩ := opdP_sound hE hvs
    have hpl : (ps.map fun (i, x) => (i, a.eval x)).toList = ps.toList.map fun (i, x) => (i, a.eval x) := by simp
    split at ha
    · rename_i z hz
      obtain ⟨cz, hcz, hvz⟩ := zero_sound (P := P) (M := M) (e := e) (w := w) (t := t) (z := z) (by unfold zeroA; rw [hT]; exact hz)
      have hzo : ones z.cells := hvz.ones fun l hl' => by
        subst hl'
        have h1 := hty.zero
        rw [hz] at h1
        cases hq : inf.zero with
        | none => rw [hq] at h1; exact absurd h1 (by simp)
        | some q => rw [hq] at h1; exact ofV_ntup h1.symm
      split at ha
      · rename_i fs hk
        obtain ⟨fields, rfl, hnm, hfs⟩ := kdOf_strct (hty.kd ▸ hk)
        split at ha
        · rename_i cs hf
          obtain ⟨rfl, rfl⟩ := Prod.mk.inj (run_ret ha)
          have hplace : placeS fs = ((fields.map fun f => (f.offset, P.cellsOf f.type))[·]?) := by
            funext i
            subst hfs
            unfold placeS
            rw [List.getElem?_map, Array.getElem?_map]
            cases hq : fields[i]? <;> simp [hq]
          rw [hplace] at hf
          obtain ⟨ccs, hcf, hcr, hco⟩ := fill_sound hl hp hvz.cells hzo hf
          refine OpRes.val1 h ⟨.agg ccs, ?_, .agg hcr.size hco hcr.get⟩
          simp only [Instr.build, Sem.run_bind, hcz, Result.andThen_ok, hty.run_und]
          rw [mapM_places fun f hf' => Option.isSome_iff_exists.1 (hnm f (by simpa using hf')).2]
          simp only [Result.andThen_ok, hpl]
          rw [hcf]
          rfl
        · exact (run_no ha).elim
      · rename_i n el hk
        have hd := kdOf_arr (hty.kd ▸ hk)
        subst hd
        split at ha
        · rename_i ei hE'
          obtain ⟨ie, de, hte⟩ := mkT_some hE'
          split at ha
          · rename_i cs hf
            obtain ⟨rfl, rfl⟩ := Prod.mk.inj (run_ret ha)
            obtain ⟨ccs, hcf, hcr, hco⟩ := fill_sound hl hp hvz.cells hzo hf
            refine OpRes.val1 h ⟨.agg ccs, ?_, .agg hcr.size hco hcr.get⟩
            simp only [Instr.build, Sem.run_bind, hcz, Result.andThen_ok, hty.run_und, hte.run_size, hpl]
            rw [hcf]
            rfl
          · exact (run_no ha).elim
        · exact (run_no ha).elim
      · exact (run_no ha).elim
    · exact (run_no ha).elim
  · exact (run_no ha).elim
theorem op_fieldAddr {o : Oper} {t : TypeId} {x : Operand} {i : Nat} (hop : o.op = .fieldAddr t x i) (h : HR M e H w) (hE : EnvR M e env a.tmps) {v : AV} {H' : List AB} (ha : (opT P env H (.fieldAddr t x i)).run = some (v, H')) :
    OpRes P M e H w (execOp a.eval o) v H' := by
  simp only [opT] at ha
  split at ha
  case h_2 => exact (run_no ha).elim
  rename_i ti hT
  split at ha
  case h_2 => exact (run_no ha).elim
  rename_i ft off sz hf
  split at ha
  case h_2 => exact (run_no ha).elim
  rename_i hpos
  have hpos := of_decide_eq_true hpos
  split at ha
  · rename_i b p hx
    obtain ⟨rfl, rfl⟩ := Prod.mk.inj (run_ret ha)
    have hv := opd_sound hE hx
    generalize hc : a.eval x = c at hv
    simp only [execOp, hop, hc]
    cases hv with
    | ptr hbN => exact OpRes.val1 h ⟨_, fieldAt_run hT hf hpos _, by rw [Addr.add_plain]; exact .ptr hbN⟩
  · rename_i cs hx
    obtain ⟨rfl, rfl⟩ := Prod.mk.inj (run_ret ha)
    have hv := opd_sound hE hx
    generalize hc : a.eval x = c at hv
    simp only [execOp, hop, hc]
    cases hv with
    | eptr g p f h1 h2 h3 =>
      refine OpRes.val1 h ⟨_, fieldAt_run hT hf hpos _, ?_⟩
      rw [Addr.add_plain]
      refine .eptr g (p + off) (fun j => f (off + j)) (fun z hz => h1 z (List.mem_of_mem_drop hz)) (fun j y hy => ?_) (fun j y hy => ?_)
      · rw [List.getElem?_drop] at hy
        rw [Nat.add_assoc]
        exact h2 _ y hy
      · rw [List.getElem?_drop] at hy
        exact h3 _ y hy
  · rename_i b v0 s k q hx
    obtain ⟨rfl, rfl⟩ := Prod.mk.inj (run_ret ha)
    have hv := opd_sound hE hx
    generalize hc : a.eval x = c at hv
    simp only [execOp, hop, hc]
    cases hv with
    | elp hbN haN hle hh =>
      refine OpRes.val1 h ⟨_, fieldAt_run hT hf hpos _, ?_⟩
      rw [Addr.add_plain]
      exact .elp hbN haN hle fun hq => by
        obtain ⟨h1, rfl, h3⟩ := hh hq
        exact ⟨h1, by omega, h3⟩
  · exact (run_no ha).elim

theorem CR.two {vs : List Value} {x y : AV} (h : CR M e [x, y] vs.toArray) : ∃ c d, vs = [c, d] ∧ VR M e x c ∧ VR M e y d := by
  have hs := h.size
  match vs, hs with
  | [c, d], _ => exact ⟨c, d, rfl, h.get 0 x c rfl rfl, h.get 1 y d rfl rfl⟩
theorem CR.single {vs : List Value} {x : AV} (h : CR M e [x] vs.toArray) : ∃ c, vs = [c] ∧ VR M e x c := by
  have hs := h.size
  match vs, hs with
  | [c], _ => exact ⟨c, rfl, h.get 0 x c rfl rfl⟩
theorem builtin_sound {b : Builtin} {ts : List TypeId} {xs : List AV} {v : AV} {H' : List AB} {vs : List Value} {ty : TypeId} {consts : Array Bool} (h : HR M e H w) (ha : (builtinT P H b ts xs).run = some (v, H')) (hx : CR M e xs vs.toArray) :
    OpRes P M e H w (builtin b ts.toArray ty consts vs.toArray) v H' := by
  unfold builtinT at ha
  split at ha
  · obtain ⟨hu, rfl⟩ := at0_run ha
    obtain ⟨c, rfl, hv⟩ := hx.single
    exact OpRes.val1 h (len_sound h hu hv)
  · obtain ⟨c, d, rfl, h1, h2⟩ := hx.two
    obtain ⟨u, w', M', e', hr, hT, hv⟩ := app_sound (ty := ty) h ha h1 h2
    exact OpRes.val hr hT hv
  · obtain ⟨c, d, rfl, h1, h2⟩ := hx.two
    obtain ⟨u, w', hr, hT, hv⟩ := copy_sound (ty := ty) h ha h1 h2
    exact OpRes.val hr hT hv
  · obtain ⟨hu, rfl⟩ := at0_run ha
    obtain ⟨c, d, rfl, h1, h2⟩ := hx.two
    unfold minT at hu
    split at hu
    · rename_i k x k' y
      split at hu
      · rename_i hk
        obtain rfl := of_decide_eq_true hk
        obtain rfl := Option.some.inj hu
        cases h1; cases h2
        refine OpRes.val1 h ⟨.int k (if y < x then y else x), rfl, ?_⟩
        have : (if y < x then y else x) = min x y := by split <;> omega
        rw [this]
        exact .int
      · exact absurd hu (by simp)
    · exact absurd hu (by simp)
  · obtain ⟨hu, rfl⟩ := at0_run ha
    obtain ⟨c, d, rfl, h1, h2⟩ := hx.two
    unfold maxT at hu
    split at hu
    · rename_i k x k' y
      split at hu
      · rename_i hk
        obtain rfl := of_decide_eq_true hk
        obtain rfl := Option.some.inj hu
        cases h1; cases h2
        refine OpRes.val1 h ⟨.int k (if x < y then y else x), rfl, ?_⟩
        have : (if x < y then y else x) = max x y := by split <;> omega
        rw [this]
        exact .int
      · exact absurd hu (by simp)
    · exact absurd hu (by simp)
  · obtain ⟨hu, rfl⟩ := at0_run ha
    obtain ⟨c, rfl, hv⟩ := hx.single
    exact OpRes.val1 h (cap_sound hu hv)
  · exact (run_no ha).elim
theorem builtin_sound' {b : Builtin} {ts : Array TypeId} {xs : List AV} {v : AV} {H' : List AB} {vs : Array Value} {ty : TypeId} {consts : Array Bool} (h : HR M e H w) (ha : (builtinT P H b ts.toList xs).run = some (v, H')) (hx : CR M e xs vs) :
    OpRes P M e H w (builtin b ts ty consts vs) v H' := by
  have := builtin_sound (ty := ty) (consts := consts) h ha (vs := vs.toList) (by simpa using hx)
  simpa using this
/-- An operation is what the model's is. -/
theorem opT_sound {o : Oper} (h : HR M e H w) (hE : EnvR M e env a.tmps) {v : AV} {H' : List AB} (ha : (opT P env H o.op).run = some (v, H')) : OpRes P M e H w (execOp a.eval o) v H' := by
  cases hop : o.op with
  | move x =>
    rw [hop] at ha
    obtain ⟨h1, rfl⟩ := at0_run ha
    simp only [execOp, hop]
    exact OpRes.still h (opd_sound hE h1) rfl
  | assign x =>
    rw [hop] at ha
    obtain ⟨h1, rfl⟩ := at0_run ha
    simp only [execOp, hop]
    exact OpRes.still h (opd_sound hE h1) rfl
  | pick c x y =>
    rw [hop] at ha
    simp only [opT] at ha
    split at ha
    · rename_i b hb
      obtain ⟨ha2, rfl⟩ := at1_run ha
      have hc := opd_sound hE hb
      generalize hcc : a.eval c = cc at hc
      cases hc
      simp only [execOp, hop, hcc]
      unfold pickT at ha2
      split at ha2
      · rename_i p q hp hq
        obtain rfl := run_ret ha2
        have h1 := opd_sound hE hp
        have h2 := opd_sound hE hq
        generalize hx : a.eval x = cx at h1
        generalize hy : a.eval y = cy at h2
        cases h1; cases h2
        refine OpRes.still h ?_ (c := .bool (cond b p q)) ?_
        · exact .bool
        · simp only [asBool, Sem.run_bind, Sem.run_pure, Result.andThen_ok, hx, hy]
          cases b <;> rfl
      · rcases run_ite ha2 with ⟨hbt, ha2⟩ | ⟨hbt, ha2⟩
        · refine OpRes.still h (opd_sound hE (run_ofO ha2)) ?_
          simp [asBool, hbt]
        · refine OpRes.still h (opd_sound hE (run_ofO ha2)) ?_
          simp [asBool, hbt]
    · exact (run_no ha).elim
  | alloc t =>
    rw [hop] at ha
    simp only [opT] at ha
    split at ha
    · rename_i z hz
      obtain ⟨c, hc, hv⟩ := zero_sound (M := M) (e := e) (w := w) hz
      obtain ⟨M', e', hT, hv'⟩ := newVar_sound h ha hv
      simp only [execOp, hop]
      exact OpRes.val (by simp [Instr.alloc, hc, newVar, newRow]) hT hv'
    · exact (run_no ha).elim
  | box t x =>
    rw [hop] at ha
    simp only [opT] at ha
    split at ha
    · rename_i z hz
      obtain ⟨M', e', hT, hv'⟩ := newVar_sound h ha (opd_sound hE hz)
      simp only [execOp, hop]
      exact OpRes.val (by simp [Instr.box, newVar, newRow]) hT hv'
    · exact (run_no ha).elim
  | build t ps => rw [hop] at ha; exact op_build hop h hE ha
  | buildSlice t n ps =>
    rw [hop] at ha
    simp only [opT] at ha
    split at ha
    · rename_i vs hvs
      obtain ⟨hl, hp⟩ := opdP_sound hE hvs
      obtain ⟨c, w', M', e', hr, hT', hv⟩ := buildSlice_sound (P := P) h ha hl (fun k p c h1 h2 => hp k p c h1 h2)
      simp only [execOp, hop]
      refine OpRes.val ?_ hT' hv
      rw [← hr]
      congr 2
      rw [← Array.toList_inj]
      simp
    · exact (run_no ha).elim
  | makeSlice t n m =>
    rw [hop] at ha
    simp only [opT] at ha
    split at ha
    · rename_i x y hx hy
      obtain ⟨c, w', M', e', hr, hT', hv⟩ := makeSlice_sound (P := P) h ha (opd_sound hE hx) (opd_sound hE hy)
      simp only [execOp, hop]
      exact OpRes.val hr hT' hv
    · exact (run_no ha).elim
  | load t x =>
    rw [hop] at ha
    simp only [opT] at ha
    split at ha
    · rename_i y hy
      obtain ⟨ha, rfl⟩ := at1_run ha
      simp only [execOp, hop]
      exact OpRes.val1 h (loadT_sound h ha (opd_sound hE hy))
    · exact (run_no ha).elim
  | store t x y =>
    rw [hop] at ha
    simp only [opT] at ha
    split at ha
    · rename_i p u hp hu
      obtain ⟨w', e', hr, hT', rfl⟩ := storeOT_sound h ha (opd_sound hE hp) (opd_sound hE hu)
      simp only [execOp, hop]
      exact ⟨.skip, undef, w', M, e', by simp [hr], .inr ⟨rfl, rfl⟩, hT', .tup rfl fun _ _ _ h => by simp at h⟩
    · exact (run_no ha).elim
  | nilCheck x =>
    rw [hop] at ha
    simp only [opT] at ha
    split at ha
    all_goals first
      | exact (run_no ha).elim
      | (rename_i hx
         obtain ⟨rfl, rfl⟩ := Prod.mk.inj (run_ret ha)
         have hv := opd_sound hE hx
         have hv0 := hv
         generalize hc : a.eval x = c at hv hv0
         simp only [execOp, hop, hc]
         cases hv
         exact OpRes.still h hv0 rfl)
  | binOp op t x y yt =>
    rw [hop] at ha
    simp only [opT] at ha
    split at ha
    · rename_i v1 v2 h1 h2
      obtain ⟨h3, rfl⟩ := at1_run ha
      simp only [execOp, hop]
      exact OpRes.val1 h (bin_sound h3 (opd_sound hE h1) (opd_sound hE h2))
    · exact (run_no ha).elim
  | unOp op t x =>
    rw [hop] at ha
    simp only [opT] at ha
    split at ha
    · rename_i v1 h1
      obtain ⟨h3, rfl⟩ := at0_run ha
      simp only [execOp, hop]
      exact OpRes.val1 h (un_sound h3 (opd_sound hE h1))
    · exact (run_no ha).elim
  | convert s d x =>
    rw [hop] at ha
    simp only [opT] at ha
    split at ha
    · rename_i v1 h1
      obtain ⟨u, w', M', e', hr, hT, hv⟩ := conv_sound h ha (opd_sound hE h1)
      simp only [execOp, hop]
      exact OpRes.val hr hT hv
    · exact (run_no ha).elim
  | makeInterface t x =>
    rw [hop] at ha
    simp only [opT] at ha
    split at ha
    · rename_i v1 h1
      obtain ⟨h3, rfl⟩ := at1_run ha
      simp only [execOp, hop]
      exact OpRes.val1 h (iface_sound h3 (opd_sound hE h1))
    · exact (run_no ha).elim
  | makeFunc fn first cap =>
    rw [hop] at ha
    cases fn with
    | func f =>
      simp only [opT] at ha
      split at ha
      · rename_i hf
        have hf := of_decide_eq_true hf
        split at ha
        · rename_i vs hvs
          obtain ⟨rfl, rfl⟩ := Prod.mk.inj (run_ret ha)
          simp only [execOp, hop]
          have hf0 : first = #[] := by simpa using hf
          subst hf0
          have hc := opdL_sound hE hvs
          refine OpRes.val1 h ⟨.func (.func f) #[] (cap.map a.eval), by simp [Instr.makeFunc], .fn ?_ ?_⟩
          · have := hc.size; simpa using this
          · intro i x v h1 h2
            exact hc.get i x v h1 (by simpa using h2)
        · exact (run_no ha).elim
      · exact (run_no ha).elim
    | _ => exact (run_no (by simpa only [opT] using ha)).elim
  | slice t x lo hi mx =>
    rw [hop] at ha
    cases mx with
    | none =>
      simp only [opT] at ha
      split at ha
      · rename_i v1 l hh h1 h2 h3
        obtain ⟨ha2, rfl⟩ := at1_run ha
        have h4 := sliceT_sound h ha2 (opd_sound hE h1) (opdO_sound hE h2) (opdO_sound hE h3)
        simp only [execOp, hop]
        exact OpRes.val1 h h4
      · exact (run_no ha).elim
    | some mx =>
      cases lo with
      | some _ => exact (run_no (by simpa only [opT] using ha)).elim
      | none =>
        simp only [opT] at ha
        split at ha
        · rename_i v1 h0 m0 h1 h2 h3
          obtain ⟨ha2, rfl⟩ := at1_run ha
          have h4 := slice0_sound (cmx := some (a.eval mx)) h ha2 (opd_sound hE h1) (opdO_sound hE h2) (opd_sound hE h3)
          simp only [execOp, hop]
          exact OpRes.val1 h h4
        · exact (run_no ha).elim
  | fieldAddr t x i => rw [hop] at ha; exact op_fieldAddr hop h hE ha
  | field t x i =>
    rw [hop] at ha
    simp only [opT] at ha
    split at ha
    · rename_i ti cs hT hx
      obtain ⟨inf, d, hty⟩ := mkT_some hT
      split at ha
      · rename_i ft off sz hf
        split at ha
        · rename_i fi hF
          obtain ⟨h4, rfl⟩ := at0_run ha
          obtain ⟨fields, f, rfl, hff, rfl, rfl, rfl, _⟩ := field_of hty hf
          have hv := opd_sound hE hx
          generalize hc : a.eval x = c at hv
          simp only [execOp, hop, hc]
          cases hv with
          | agg hs ho hg =>
            obtain ⟨u, hu, hvu⟩ := part_sound (w := w) hF h4 ho ⟨hs, hg⟩
            exact OpRes.val1 h ⟨u, by simp [Instr.field, hty.run_und, hff, asAgg, hu], hvu⟩
        · exact (run_no ha).elim
      · exact (run_no ha).elim
    · exact (run_no ha).elim
  | indexAddr t x i =>
    rw [hop] at ha
    simp only [opT] at ha
    split at ha
    · rename_i v1 v2 h1 h2
      obtain ⟨h3, rfl⟩ := at1_run ha
      simp only [execOp, hop]
      exact OpRes.val1 h (indexAddr_sound h h3 (opd_sound hE h1) (opd_sound hE h2))
    · exact (run_no ha).elim
  | index t x i =>
    rw [hop] at ha
    simp only [opT] at ha
    split at ha
    · rename_i v1 v2 h1 h2
      obtain ⟨h3, rfl⟩ := at1_run ha
      simp only [execOp, hop]
      exact OpRes.val1 h (index_sound h3 (opd_sound hE h1) (opd_sound hE h2))
    · exact (run_no ha).elim
  | range t x =>
    rw [hop] at ha
    simp only [opT] at ha
    split at ha
    · rename_i ti s hT hx
      obtain ⟨inf, d, hty⟩ := mkT_some hT
      split at ha
      · rename_i hk
        have hd := kdOf_str (hty.kd ▸ hk)
        subst hd
        obtain ⟨rfl, rfl⟩ := Prod.mk.inj (run_ret ha)
        have hv := opd_sound hE hx
        generalize hc : a.eval x = c at hv
        simp only [execOp, hop, hc]
        cases hv with
        | @str _ _ bs hb =>
          have hT' := Tr.push h (.stringIter bs 0) (.iter s 0) rfl (by simp [cid, RR.push]) ⟨bs, by simp only [RR.push, if_true]; exact alloc_new, hb⟩
          refine OpRes.val ?_ hT' (c := .pointer (some ⟨w.heap.size, 0, none⟩)) (ptr_push h _)
          simp [Instr.range, hty.run_und]
      · exact (run_no ha).elim
    · exact (run_no ha).elim
  | next it isS =>
    rw [hop] at ha
    cases isS with
    | false => exact (run_no (by simpa only [opT] using ha)).elim
    | true =>
      simp only [opT] at ha
      split at ha
      · rename_i v1 h1
        obtain ⟨u, w', hr, hT, hv⟩ := next_sound (P := P) (t := o.type) h ha (opd_sound hE h1)
        simp only [execOp, hop]
        exact OpRes.val hr hT hv
      · exact (run_no ha).elim
  | typeAssert x xt t ok =>
    rw [hop] at ha
    simp only [opT] at ha
    split at ha
    · rename_i v1 h1
      obtain ⟨h3, rfl⟩ := at1_run ha
      simp only [execOp, hop]
      exact OpRes.val1 h (assert_sound h3 (opd_sound hE h1))
    · exact (run_no ha).elim
  | extract x i =>
    rw [hop] at ha
    simp only [opT] at ha
    split at ha
    · rename_i vs hx
      obtain ⟨h3, rfl⟩ := at0_run ha
      have hv := opd_sound hE hx
      generalize hc : a.eval x = c at hv
      simp only [execOp, hop, hc]
      cases hv with
      | tup hs hg =>
        obtain ⟨u, hu, hvu⟩ := (CR.mk hs hg).at h3
        exact OpRes.val1 h ⟨u, by simp [Instr.extract, hu], hvu⟩
    · exact (run_no ha).elim
  | call c =>
    rw [hop] at ha
    obtain ⟨callee, args, ts⟩ := c
    cases callee with
    | builtin b =>
      simp only [opT] at ha
      split at ha
      · rename_i vs hvs
        have hc := opdL_sound hE hvs
        have hc' : CR M e vs (args.map a.eval) := by
          have he : (args.toList.map a.eval).toArray = args.map a.eval := by rw [← Array.toList_inj]; simp
          rwa [he] at hc
        simp only [execOp, hop, resolve, Sem.run_pure]
        have := builtin_sound' (ty := o.type) (consts := args.map fun | .const _ => true | _ => false) h ha hc'
        exact this
      · exact (run_no ha).elim
    | _ => exact (run_no (by simpa only [opT] using ha)).elim
  | _ =>
    rw [hop] at ha
    exact (run_no (by simpa only [opT] using ha)).elim
end
end Go.Sm
/- Blocks by other numbers: what is kept, what is handed into a call and back. No condition. -/
set_option linter.unusedVariables false
set_option linter.unusedSimpArgs false
namespace Go.Sm

theorem idx_go : ∀ {l : List Nat} {b k m : Nat}, idx.go b l m = some k → m ≤ k ∧ l[k - m]? = some b
  | [], b, k, m, h => by simp [idx.go] at h
  | x :: r, b, k, m, h => by
    rw [idx.go] at h
    split at h
    · rename_i hx
      have hx := of_decide_eq_true hx
      obtain rfl := Option.some.inj h
      exact ⟨Nat.le_refl _, by simp [hx]⟩
    · obtain ⟨h1, h2⟩ := idx_go h
      refine ⟨by omega, ?_⟩
      rw [show k - m = (k - (m + 1)) + 1 by omega]
      simpa using h2
theorem idx_some {l : List Nat} {b k : Nat} (h : idx l b = some k) : l[k]? = some b := by
  have := (idx_go h).2
  simpa using this
theorem idx_go_none : ∀ {l : List Nat} {b m : Nat}, idx.go b l m = none → b ∉ l
  | [], b, m, _ => by simp
  | x :: r, b, m, h => by
    rw [idx.go] at h
    split at h
    · exact absurd h (by simp)
    · rename_i hx
      have hx := of_decide_eq_false hx
      have := idx_go_none h
      simp only [List.mem_cons, not_or]
      exact ⟨fun h => hx h.symm, this⟩
theorem nodup_get {l : List Nat} (hn : l.Nodup) {i j b : Nat} (hi : l[i]? = some b) (hj : l[j]? = some b) : i = j := by
  have hij : ∀ {i j : Nat}, l[i]? = some b → l[j]? = some b → ¬ i < j := by
    intro i j hi hj hlt
    obtain ⟨h1, h2⟩ := List.getElem?_eq_some_iff.1 hi
    obtain ⟨h3, h4⟩ := List.getElem?_eq_some_iff.1 hj
    exact List.pairwise_iff_getElem.1 hn i j h1 h3 hlt (h2.trans h4.symm)
  have h1 := hij hi hj
  have h2 := hij hj hi
  omega
theorem idx_of {l : List Nat} (hn : l.Nodup) {b k : Nat} (h : l[k]? = some b) : idx l b = some k := by
  cases hq : idx l b with
  | none => exact absurd (List.mem_of_getElem? h) (idx_go_none hq)
  | some j => rw [nodup_get hn (idx_some hq) h]
theorem close_nodup (H : List AB) : ∀ (n : Nat) (acc work : List Nat), acc.Nodup → (close H n acc work).Nodup ∧ acc <+: close H n acc work
  | 0, acc, _, h => ⟨h, List.prefix_refl _⟩
  | n + 1, acc, [], h => ⟨h, List.prefix_refl _⟩
  | n + 1, acc, i :: work, h => by
    rw [close]
    split
    · exact close_nodup H n acc work h
    · rename_i hi
      have hi : i ∉ acc := by simpa using hi
      obtain ⟨h1, h2⟩ := close_nodup H n (acc ++ [i]) _ (List.nodup_append.2 ⟨h, by simp, fun a ha b hb he => hi (by simp at hb; subst hb; exact he ▸ ha)⟩)
      exact ⟨h1, (List.prefix_append _ _).trans h2⟩
theorem fetch_get {H : List AB} : ∀ {ids : List Nat} {bs : List AB}, fetch H ids = some bs → bs.length = ids.length ∧ (∀ (k i : Nat), ids[k]? = some i → i < H.length) ∧ ∀ (k i : Nat), ids[k]? = some i → bs[k]? = H[i]?
  | [], bs, h => by
    rw [fetch] at h
    obtain rfl := Option.some.inj h
    exact ⟨rfl, fun _ _ h => by simp at h, fun _ _ h => by simp at h⟩
  | i :: r, bs, h => by
    rw [fetch] at h
    split at h
    · rename_i b h1
      split at h
      · rename_i bs' h2
        obtain rfl := Option.some.inj h
        obtain ⟨hl, hlt, hg⟩ := fetch_get h2
        refine ⟨by simp [hl], fun k j hk => ?_, fun k j hk => ?_⟩
        · cases k with
          | zero => simp at hk; subst hk; exact (List.getElem?_eq_some_iff.1 h1).1
          | succ k => exact hlt k j (by simpa using hk)
        · cases k with
          | zero => simp at hk; subst hk; simp [h1]
          | succ k => simpa using hg k j (by simpa using hk)
      · exact absurd h (by simp)
    · exact absurd h (by simp)
theorem renH_get {f : Nat → Option Nat} {g : Nat → Nat → Option Nat} {u : Nat → Nat → Nat} : ∀ {l l' : List AB} {k : Nat}, renH f g u k l = some l' → l'.length = l.length ∧ ∀ (i : Nat) (x' : AB), l'[i]? = some x' → ∃ x, l[i]? = some x ∧ x.ren f g (u (k + i)) = some x'
  | [], l', k, h => by
    rw [renH] at h
    obtain rfl := Option.some.inj h
    exact ⟨rfl, fun i x' hx => by simp at hx⟩
  | v :: r, l', k, h => by
    rw [renH] at h
    split at h
    · rename_i v' h1
      split at h
      · rename_i r' h2
        obtain rfl := Option.some.inj h
        obtain ⟨hl, hg⟩ := renH_get h2
        refine ⟨by simp [hl], fun i x' hx => ?_⟩
        cases i with
        | zero => exact ⟨v, by simp, by simpa [h1] using hx⟩
        | succ i =>
          obtain ⟨x, h3, h4⟩ := hg i x' (by simpa using hx)
          exact ⟨x, by simpa using h3, by rw [show k + (i + 1) = k + 1 + i by omega]; exact h4⟩
      · exact absurd h (by simp)
    · exact absurd h (by simp)
theorem isArr_ren {f : Nat → Option Nat} {g : Nat → Nat → Option Nat} {u : Nat → Nat} {x x' : AB} (hx : x.ren f g u = some x') : x'.isArr = x.isArr := by
  cases x <;> simp only [AB.ren] at hx
  · split at hx
    · obtain rfl := Option.some.inj hx; rfl
    · exact absurd hx (by simp)
  · obtain rfl := Option.some.inj hx; rfl
  · obtain rfl := Option.some.inj hx; rfl
/-- A block by another number. -/
theorem BR.ren {M : Mem} {f : Nat → Option Nat} {g : Nat → Nat → Option Nat} {u : Nat → Nat} {e e' : RR} {w : World} {b b' : Nat} {x x' : AB} (hf : Ren f g e e') (h : BR M e w b x) (hx : x.ren f g u = some x') (hρ : e'.ρ b' = e.ρ b) (hg : e'.g b' = e.g b)
    (hc : e'.cnt b' = e.cnt b) (hl : x.isArr = true → e'.len b' = u (e.len b)) : BR M e' w b' x' := by
  cases x with
  | cells cs =>
    simp only [AB.ren] at hx
    split at hx
    · rename_i cs' hcs
      obtain rfl := Option.some.inj hx
      obtain ⟨h1, arr, ty, h2, h3, h4⟩ := h
      exact ⟨ones_ren hcs h1, arr, ty, by rw [hρ]; exact h2, h3.ren hf hcs, by rw [hρ]; exact h4⟩
    · exact absurd hx (by simp)
  | arr ice v c l =>
    simp only [AB.ren] at hx
    obtain rfl := Option.some.inj hx
    obtain ⟨h1, h2, h3, h4⟩ := h
    exact ⟨by rw [hl rfl, h1], by rw [hc]; exact h2, h3, by rw [hg]; exact h4⟩
  | iter s pos =>
    simp only [AB.ren] at hx
    obtain rfl := Option.some.inj hx
    obtain ⟨bs, h1, h2⟩ := h
    exact ⟨bs, by rw [hρ]; exact h1, h2⟩
theorem cid_ren {f : Nat → Option Nat} {g : Nat → Nat → Option Nat} {u : Nat → Nat} {e e' : RR} {b b' : Nat} {x x' : AB} (hx : x.ren f g u = some x') (hρ : e'.ρ b' = e.ρ b) (hg : e'.g b' = e.g b) : cid e' b' x' = cid e b x := by
  cases x with
  | cells cs =>
    simp only [AB.ren] at hx
    split at hx
    · obtain rfl := Option.some.inj hx; simp [cid, hρ]
    · exact absurd hx (by simp)
  | arr ice v c l =>
    simp only [AB.ren] at hx
    obtain rfl := Option.some.inj hx
    cases ice <;> simp [cid, hg]
  | iter s pos =>
    simp only [AB.ren] at hx
    obtain rfl := Option.some.inj hx
    simp [cid, hρ]
def RR.sub (e : RR) (ids : List Nat) (nv : Nat → Nat) : RR := ⟨fun k => e.ρ (ids.getD k 0), fun k => e.g (ids.getD k 0), nv, fun k => e.cnt (ids.getD k 0), fun k => e.arr (ids.getD k 0), ids.length⟩
theorem getD_of {ids : List Nat} {k i : Nat} (h : ids[k]? = some i) : ids.getD k 0 = i := by rw [List.getD_eq_getElem?_getD, h]; rfl
theorem curV_len {M : Mem} {e : RR} {H : List AB} {w : World} (h : HR M e H w) {b v : Nat} (hc : curV H b = some v) : e.len b = v ∧ e.arr b = true := by
  obtain ⟨ice, c, l, hb⟩ := curV_some hc
  exact ⟨(h.blk b _ hb).1, h.kind b _ hb⟩
/-- Blocks by the places in a list, with other ages. -/
theorem Ren.sub {M : Mem} {e : RR} {H : List AB} {w : World} (h : HR M e H w) {ids : List Nat} (hn : ids.Nodup) {nv : Nat → Nat} {g : Nat → Nat → Option Nat}
    (hg : ∀ b v v', g b v = some v' → curV H b = some v ∧ ∀ k, ids[k]? = some b → nv k = v') : Ren (idx ids) g e (e.sub ids nv) where
  lt b b' _ h := (List.getElem?_eq_some_iff.1 (idx_some h)).1
  ρ b b' _ h := by simp only [RR.sub]; rw [getD_of (idx_some h)]
  arr b b' _ h := by simp only [RR.sub]; rw [getD_of (idx_some h)]
  age b b' v v' hb hf hgv hle := by
    obtain ⟨h1, h2⟩ := hg b v v' hgv
    have h3 := (curV_len h h1).1
    have h4 := h2 b' (idx_some hf)
    simp only [RR.sub]
    rw [getD_of (idx_some hf)]
    exact ⟨by omega, fun _ => ⟨h3.symm, rfl, rfl⟩⟩
/-- Some of the blocks. -/
theorem HR.sub {M : Mem} {e : RR} {H : List AB} {w : World} (h : HR M e H w) {ids : List Nat} (hn : ids.Nodup) {nv : Nat → Nat} {g : Nat → Nat → Option Nat} {u : Nat → Nat → Nat} (hf : Ren (idx ids) g e (e.sub ids nv)) {bs bs' : List AB} (hb : fetch H ids = some bs)
    (hr : renH (idx ids) g u 0 bs = some bs') (hnv : ∀ k i, ids[k]? = some i → e.arr i = true → nv k = u k (e.len i)) :
    HR M (e.sub ids nv) bs' w ∧ ∀ i, foot (e.sub ids nv) bs' i → foot e H i := by
  obtain ⟨hl, hlt, hg⟩ := fetch_get hb
  obtain ⟨hl', hg'⟩ := renH_get hr
  have hcase : ∀ (k : Nat) (x' : AB), bs'[k]? = some x' → ∃ i x, ids[k]? = some i ∧ H[i]? = some x ∧ x.ren (idx ids) g (u k) = some x' ∧ (e.sub ids nv).ρ k = e.ρ i ∧ (e.sub ids nv).g k = e.g i ∧ (e.sub ids nv).cnt k = e.cnt i ∧ (e.sub ids nv).arr k = e.arr i := by
    intro k x' hx
    obtain ⟨x, h1, h2⟩ := hg' k x' hx
    rw [Nat.zero_add] at h2
    have hk : k < ids.length := by rw [← hl]; exact (List.getElem?_eq_some_iff.1 h1).1
    have hi : ids[k]? = some ids[k] := List.getElem?_eq_getElem hk
    refine ⟨ids[k], x, hi, by rw [← hg k _ hi]; exact h1, h2, ?_, ?_, ?_, ?_⟩ <;> (simp only [RR.sub]; rw [getD_of hi])
  refine ⟨⟨by simp [RR.sub, hl', hl], h.mem, fun k x' hx => ?_, fun k k' x x' i hk hk' hi hi' => ?_, h.glob, fun k x' hx => ?_⟩, fun i hf => ?_⟩
  · obtain ⟨i, x, h1, h2, h3, h4, h5, h6, h7⟩ := hcase k x' hx
    exact (h.blk i x h2).ren hf h3 h4 h5 h6 fun ha => hnv k i h1 (by rw [h.kind i x h2]; exact ha)
  · obtain ⟨j, y, h1, h2, h3, h4, h5, h6, _⟩ := hcase k x hk
    obtain ⟨j', y', h1', h2', h3', h4', h5', h6', _⟩ := hcase k' x' hk'
    rw [cid_ren h3 h4 h5] at hi
    rw [cid_ren h3' h4' h5'] at hi'
    have := h.inj j j' y y' i h2 h2' hi hi'
    subst this
    exact nodup_get hn h1 h1'
  · obtain ⟨i, x, h1, h2, h3, h4, h5, h6, h7⟩ := hcase k x' hx
    rw [h7, h.kind i x h2, isArr_ren h3]
  · obtain ⟨k, x', hx, hi⟩ := hf
    obtain ⟨j, y, h1, h2, h3, h4, h5, h6, _⟩ := hcase k x' hx
    rw [cid_ren h3 h4 h5] at hi
    exact ⟨j, y, h2, hi⟩

/-- What is kept. -/
theorem gc_sound {M : Mem} {e : RR} {H : List AB} {w : World} (h : HR M e H w) {N : Nat} {bump : Bool} (hN : N ≤ H.length) {vs vs' : List AV} {H' : List AB} {cs : Array Value} (hc : CR M e vs cs) (hg : gc N bump vs H = some (vs', H')) :
    ∃ e', HR M e' H' w ∧ CR M e' vs' cs ∧ (∀ i, foot e' H' i → foot e H i) ∧ N ≤ e'.N ∧
      (∀ b, b < N → e'.ρ b = e.ρ b ∧ e'.g b = e.g b ∧ e'.cnt b = e.cnt b ∧ e'.arr b = e.arr b ∧ (e.arr b = true → e'.len b = cond bump 1 (e.len b))) := by
  unfold gc at hg
  simp only at hg
  split at hg
  case h_2 => exact absurd hg (by simp)
  rename_i bs hb
  split at hg
  case h_2 => exact absurd hg (by simp)
  rename_i v1 hv
  split at hg
  case h_2 => exact absurd hg (by simp)
  rename_i b1 hr
  obtain ⟨rfl, rfl⟩ := Prod.mk.inj (Option.some.inj hg)
  obtain ⟨hn, hp⟩ := close_nodup H 200 (List.range N) (ptrsL vs ++ (H.take N).flatMap AB.ptrs) List.nodup_range
  generalize hids : close H 200 (List.range N) (ptrsL vs ++ (H.take N).flatMap AB.ptrs) = ids at *
  let nv : Nat → Nat := fun k => newV N bump (ids.getD k 0) (e.len (ids.getD k 0))
  have hf : Ren (idx ids) (ageG H N bump) e (e.sub ids nv) := Ren.sub h hn fun b v v' hbv => by
    unfold ageG at hbv
    split at hbv
    · rename_i v0 hcur
      split at hbv
      · rename_i hd
        obtain rfl := of_decide_eq_true hd
        obtain rfl := Option.some.inj hbv
        refine ⟨hcur, fun k hk => ?_⟩
        simp only [nv]
        rw [getD_of hk, (curV_len h hcur).1]
      · exact absurd hbv (by simp)
    · exact absurd hbv (by simp)
  obtain ⟨h1, h2⟩ := h.sub hn hf hb hr fun k i hk _ => by
    simp only [nv]
    rw [getD_of hk]
  refine ⟨_, h1, hc.ren hf hv, h2, ?_, fun b hbN => ?_⟩
  · have := hp.length_le
    simpa [RR.sub] using this
  · have hget : ids[b]? = some b := by
      obtain ⟨t, ht⟩ := hp
      rw [← ht, List.getElem?_append_left (by simpa using hbN)]
      simp [hbN]
    simp only [RR.sub, nv]
    rw [getD_of hget]
    refine ⟨rfl, rfl, rfl, rfl, fun _ => ?_⟩
    unfold newV
    rw [decide_eq_true hbN]
    cases bump <;> rfl

theorem putBack_get : ∀ {ids : List Nat} {H bs : List AB}, ids.Nodup → (∀ i ∈ ids, i < H.length) → ids.length ≤ bs.length → (putBack H ids bs).length = H.length + (bs.length - ids.length) ∧
    ∀ (k : Nat) (x : AB), (putBack H ids bs)[k]? = some x → (∃ (j : Nat), ids[j]? = some k ∧ bs[j]? = some x) ∨ (k < H.length ∧ k ∉ ids ∧ H[k]? = some x) ∨ (H.length ≤ k ∧ bs[ids.length + (k - H.length)]? = some x)
  | [], H, bs, _, _, _ => by
    cases bs <;> simp only [putBack]
    all_goals
      refine ⟨by simp, fun k x hx => ?_⟩
      by_cases hk : k < H.length
      · rw [List.getElem?_append_left hk] at hx
        exact .inr (.inl ⟨hk, by simp, hx⟩)
      · rw [List.getElem?_append_right (by omega)] at hx
        exact .inr (.inr ⟨by omega, by first | (simp at hx; done) | simpa using hx⟩)
  | i :: ids, H, [], _, _, hle => by simp at hle
  | i :: ids, H, b :: bs, hn, hlt, hle => by
    rw [putBack]
    obtain ⟨hni, hn'⟩ := List.nodup_cons.1 hn
    obtain ⟨hl, hg⟩ := putBack_get (H := H.set i b) (bs := bs) hn' (fun j hj => by simpa using hlt j (by simp [hj])) (by simpa using hle)
    refine ⟨by rw [hl]; simp, fun k x hx => ?_⟩
    rcases hg k x hx with ⟨j, h1, h2⟩ | ⟨h1, h2, h3⟩ | ⟨h1, h2⟩
    · exact .inl ⟨j + 1, by simpa using h1, by simpa using h2⟩
    · rcases getElem?_set_cases h3 with ⟨h4, h5⟩ | ⟨rfl, rfl, _⟩
      · exact .inr (.inl ⟨by simpa using h1, by simp [h4, h2], h5⟩)
      · exact .inl ⟨0, by simp, by simp⟩
    · refine .inr (.inr ⟨by simpa using h1, ?_⟩)
      simp only [List.length_set] at h2
      rw [List.length_cons, show ids.length + 1 + (k - H.length) = (ids.length + (k - H.length)) + 1 by omega]
      simpa using h2
end Go.Sm
/- Memory that is lent for a call, or given away. No condition. -/
set_option linter.unusedVariables false
set_option linter.unusedSimpArgs false
namespace Go.Sm

def iceX (on : Bool) : AB → AB
  | .arr _ v c l => .arr on v c l
  | x => x
theorem iceB_get {on : Bool} {H : List AB} {b k : Nat} : (iceB on H b)[k]? = if k = b then (H[k]?).map (iceX on) else H[k]? := by
  unfold iceB
  split
  · rename_i v c l hb
    rw [List.getElem?_set]
    by_cases hk : b = k
    · subst hk
      rw [if_pos rfl, if_pos rfl, if_pos (List.getElem?_eq_some_iff.1 hb).1, hb]
      rfl
    · rw [if_neg hk, if_neg (fun h => hk h.symm)]
  · rename_i hne
    split
    · rename_i hk
      subst hk
      cases hq : H[k]? with
      | none => rfl
      | some x => cases x <;> first | rfl | exact absurd hq (hne _ _ _ _)
    · rfl
theorem iceX_iceX {on : Bool} {x : AB} : iceX on (iceX on x) = iceX on x := by cases x <;> rfl
theorem iceL_get {on : Bool} : ∀ {fb : List Nat} {H : List AB} {k : Nat}, (iceL on H fb)[k]? = if k ∈ fb then (H[k]?).map (iceX on) else H[k]?
  | [], H, k => by simp [iceL]
  | b :: r, H, k => by
    rw [iceL, iceL_get (fb := r), iceB_get]
    by_cases h1 : k ∈ r <;> by_cases h2 : k = b <;> simp [h1, h2, Option.map_map, Function.comp_def, iceX_iceX]
theorem iceB_len {on : Bool} {H : List AB} {b : Nat} : (iceB on H b).length = H.length := by
  unfold iceB
  split <;> simp
theorem iceL_len {on : Bool} : ∀ {fb : List Nat} {H : List AB}, (iceL on H fb).length = H.length
  | [], H => rfl
  | b :: r, H => by rw [iceL, iceL_len, iceB_len]
theorem iceX_arr {on : Bool} {x : AB} : (iceX on x).isArr = x.isArr := by cases x <;> rfl
theorem softB_mem {H : List AB} : ∀ {l : List Nat} {b : Nat}, b ∈ softB H l → b ∈ l ∧ ∃ v c x, H[b]? = some (.arr false v c x)
  | [], b, h => by simp [softB] at h
  | a :: r, b, h => by
    rw [softB] at h
    split at h
    · rename_i v c x ha
      rcases List.mem_cons.1 h with rfl | h
      · exact ⟨by simp, v, c, x, ha⟩
      · obtain ⟨h1, h2⟩ := softB_mem h
        exact ⟨by simp [h1], h2⟩
    · obtain ⟨h1, h2⟩ := softB_mem h
      exact ⟨by simp [h1], h2⟩
theorem softB_of {H : List AB} : ∀ {l : List Nat} {b v : Nat} {c : Cd} {x : List (τ c)}, b ∈ l → H[b]? = some (.arr false v c x) → b ∈ softB H l
  | [], b, _, _, _, h, _ => by simp at h
  | a :: r, b, v, c, x, h, hb => by
    rw [softB]
    rcases List.mem_cons.1 h with rfl | h
    · rw [hb]
      simp
    · have := softB_of h hb
      split
      · simp [this]
      · exact this
/-- Lent blocks are ice then. -/
theorem lent_ice {H : List AB} {l : List Nat} {b v : Nat} {c : Cd} {x : List (τ c)} {ice : Bool} (hl : b ∈ l) (hb : H[b]? = some (.arr ice v c x)) : (iceL true H (softB H l))[b]? = some (.arr true v c x) := by
  rw [iceL_get]
  cases ice with
  | true =>
    split
    · rw [hb]; rfl
    · exact hb
  | false =>
    rw [if_pos (softB_of hl hb), hb]
    rfl

section
variable {M : Mem} {e : RR} {H : List AB} {w : World}
/-- A block that changes no more. -/
theorem ice_one (h : HR M e H w) {b v : Nat} {c : Cd} {l : List (τ c)} (hb : H[b]? = some (.arr false v c l)) :
    ∃ M', Tr M e H w M' e (H.set b (.arr true v c l)) w ∧ ∀ g o, M' g o ≠ M g o → ∃ cc, e.g b = some (g, cc) := by
  obtain ⟨h1, h2, h3, h4⟩ := h.blk b _ hb
  cases hg : e.g b with
  | none =>
    rw [hg] at h4
    refine ⟨M, Tr.upd h hb (Mle.refl _) (RR.le.refl _) rfl (fun _ _ => ⟨rfl, rfl, rfl, rfl, rfl⟩) rfl rfl rfl (Nat.le_refl _) (fun _ _ _ => rfl) (fun _ _ h h' => absurd h h') h.mem (fun i hi => by simp [cid] at hi) ⟨h1, h2, h3, by rw [hg]; exact h4⟩, fun g o hne => absurd rfl hne⟩
  | some p =>
    obtain ⟨gg, cc⟩ := p
    rw [hg] at h4
    obtain ⟨hlc, arr, ty, fz, h5, hfz, h6, h7, h8⟩ := h4
    let M' : Mem := fun g o => if g = gg then w.cell? ⟨gg, o, none⟩ else M g o
    have hM : Mle M M' := by
      intro g o u hu
      simp only [M']
      split
      · rename_i hq
        subst hq
        rw [h8 o] at hu
        exact absurd hu (by simp)
      · exact hu
    refine ⟨M', Tr.upd h hb hM (RR.le.refl _) rfl (fun _ _ => ⟨rfl, rfl, rfl, rfl, rfl⟩) rfl rfl rfl (Nat.le_refl _) (fun _ _ _ => rfl) (fun g o h0 h1 => ?_) (fun g o u hu => ?_) (fun i hi => by simp [cid] at hi) ⟨h1, h2, h3, ?_⟩, fun g o hne => ?_⟩
    · simp only [M'] at h1
      split at h1
      · rename_i hq
        exact .inl (by simp [cid, hg, hq])
      · exact absurd h0 h1
    · simp only [M'] at hu
      split at hu
      · rename_i hq; subst hq; exact hu
      · exact h.mem g o u hu
    · rw [hg]
      refine ⟨hlc, fun i j y z hy hz => ?_⟩
      obtain ⟨u, hu, hv⟩ := h7 i j y z hy hz
      refine ⟨u, ?_, hv.mono hM (RR.le.refl _)⟩
      simp only [M', if_true]
      simp only at hu
      simp [World.cell?, h5, hu]
    · simp only [M'] at hne
      split at hne
      · rename_i hq; exact ⟨cc, by rw [hq]⟩
      · exact absurd rfl hne
theorem ice_sound : ∀ {fb : List Nat} {M : Mem} {H : List AB}, HR M e H w → ∃ M', Tr M e H w M' e (iceL true H fb) w ∧ ∀ g o, M' g o ≠ M g o → ∃ b ∈ fb, ∃ v c, ∃ l : List (τ c), H[b]? = some (.arr false v c l) ∧ ∃ cc, e.g b = some (g, cc)
  | [], M, H, h => ⟨M, Tr.refl h, fun g o hne => absurd rfl hne⟩
  | b :: r, M, H, h => by
    rw [iceL]
    have back : ∀ {b' v : Nat} {c : Cd} {l : List (τ c)}, (iceB true H b)[b']? = some (.arr false v c l) → H[b']? = some (.arr false v c l) := by
      intro b' v c l hb'
      rw [iceB_get] at hb'
      split at hb'
      · cases hq : H[b']? with
        | none => rw [hq] at hb'; simp at hb'
        | some x => rw [hq] at hb'; cases x <;> simp [iceX] at hb'
      · exact hb'
    have hone : ∃ M1, Tr M e H w M1 e (iceB true H b) w ∧ ∀ g o, M1 g o ≠ M g o → ∃ v c, ∃ l : List (τ c), H[b]? = some (.arr false v c l) ∧ ∃ cc, e.g b = some (g, cc) := by
      unfold iceB
      split
      · rename_i ice v c l hb
        cases ice with
        | true =>
          rw [set_same hb]
          exact ⟨M, Tr.refl h, fun g o hne => absurd rfl hne⟩
        | false =>
          obtain ⟨M1, h1, h2⟩ := ice_one h hb
          exact ⟨M1, h1, fun g o hne => ⟨v, c, l, hb, h2 g o hne⟩⟩
      · exact ⟨M, Tr.refl h, fun g o hne => absurd rfl hne⟩
    obtain ⟨M1, h1, h2⟩ := hone
    obtain ⟨M2, h3, h4⟩ := ice_sound (fb := r) h1.hr
    refine ⟨M2, h1.trans h3, fun g o hne => ?_⟩
    by_cases hq : M2 g o = M1 g o
    · obtain ⟨v, c, l, h5, h6⟩ := h2 g o (by rw [← hq]; exact hne)
      exact ⟨b, by simp, v, c, l, h5, h6⟩
    · obtain ⟨b', hb', v, c, l, h5, h6⟩ := h4 g o hq
      exact ⟨b', by simp [hb'], v, c, l, back h5, h6⟩

/-! ### Slices as lists -/
theorem thawL_get {H : List AB} : ∀ {cs : List AV} {i : Nat}, (thawL H cs)[i]? = (cs[i]?).map (thawV H)
  | [], i => by simp [thawL]
  | v :: r, 0 => by simp [thawL]
  | v :: r, i + 1 => by simp [thawL, thawL_get (cs := r)]
theorem thawL_len {H : List AB} : ∀ {cs : List AV}, (thawL H cs).length = cs.length
  | [] => rfl
  | v :: r => by simp [thawL, thawL_len (cs := r)]
theorem lentL_mem {H : List AB} : ∀ {cs : List AV} {i : Nat} {x : AV} {b : Nat}, cs[i]? = some x → b ∈ lentV H x → b ∈ lentL H cs
  | [], i, x, b, h, _ => by simp at h
  | v :: r, 0, x, b, h, hb => by
    obtain rfl := Option.some.inj h
    rw [lentL]
    exact List.mem_append.2 (.inl hb)
  | v :: r, i + 1, x, b, h, hb => by
    rw [lentL]
    exact List.mem_append.2 (.inr (lentL_mem (by simpa using h) hb))
theorem thaw_one {H : List AB} {x : AV} (h : x.one = true) : (thawV H x).one = true := by
  cases x <;> simp only [thawV] <;> first
    | exact h
    | (split <;> rfl)
    | rfl
theorem thaw_sound {M' : Mem} {H' : List AB} {w' : World} (hM : Mle M M') (h : HR M' e H' w') {x : AV} {v : Value} (hv : VR M e x v) :
    (∀ b ∈ lentV H x, ∀ ice k c, ∀ l : List (τ c), H[b]? = some (.arr ice k c l) → H'[b]? = some (.arr true k c l)) → VR M' e (thawV H x) v := by
  have key : ∀ {e0 : RR} {x : AV} {v : Value}, VR M e0 x v → e0 = e → (∀ b ∈ lentV H x, ∀ ice k c, ∀ l : List (τ c), H[b]? = some (.arr ice k c l) → H'[b]? = some (.arr true k c l)) → VR M' e (thawV H x) v := by
    intro e0 x v hv
    induction hv with
    | @slc e0 b k a n cap hb ha hle hh =>
      intro he hl
      subst he
      have h0 : VR M' e0 (.slc b k) (.slice a n cap) := (VR.slc hb ha hle hh).mono hM (RR.le.refl _)
      simp only [thawV]
      split
      · rename_i c l hc
        have hin : b ∈ lentV H (.slc b k) := by simp only [lentV]; rw [hc]; simp
        simp only [contH] at hc
        split at hc
        · rename_i ice v' c' l' hbb
          split at hc
          · rename_i hd
            obtain rfl := of_decide_eq_true hd
            obtain ⟨rfl, hq⟩ := Cont.of.inj (Option.some.inj hc)
            obtain rfl := eq_of_heq hq
            have hb' := hl b hin _ _ _ _ hbb
            obtain ⟨h1, h2, h3, h4⟩ := h.blk b _ hb'
            obtain ⟨h5, h6⟩ := hh h1.symm
            rw [h2] at h5
            subst h5
            cases hg : e0.g b with
            | none =>
              rw [hg] at h4
              subst h4
              exact .lst 0 0 (fun _ _ => undef) rfl (Nat.zero_le _) ⟨fun _ h => by simp at h, fun _ h => by simp at h, fun h => absurd rfl h, fun _ _ _ _ h => by simp at h⟩ (fun _ _ _ _ h => by simp at h)
            | some p =>
              obtain ⟨gg, cc⟩ := p
              rw [hg] at h4 h6
              obtain ⟨rfl, rfl⟩ := h6
              have hcell : ∀ (i j : Nat) (y z : AV), (l'.map (inj c'))[i]? = some y → y.cells[j]? = some z → M' gg (0 + i * sizeC c' + j) = some ((M' gg (i * sizeC c' + j)).getD undef) ∧ VR M' RR.nul z ((M' gg (i * sizeC c' + j)).getD undef) := by
                intro i j y z hy hz
                obtain ⟨u, hu, hvv⟩ := h4.2 i j y z hy hz
                rw [Nat.zero_add, hu]
                exact ⟨rfl, hvv⟩
              exact .lst gg 0 (fun i j => (M' gg (i * sizeC c' + j)).getD undef) rfl h4.1 ⟨inj_wide, inj_ones, fun _ => rfl, fun i j y z hy hz => (hcell i j y z hy hz).1⟩ (fun i j y z hy hz => (hcell i j y z hy hz).2)
          · exact absurd hc (by simp)
        · exact absurd hc (by simp)
      · exact h0
    | @sub e0 b k s i n a m cap hb ha hle hh =>
      intro he hl
      subst he
      have h0 : VR M' e0 (.sub b k s i n) (.slice a m cap) := (VR.sub hb ha hle hh).mono hM (RR.le.refl _)
      simp only [thawV]
      split
      · rename_i c l hc
        have hin : b ∈ lentV H (.sub b k s i n) := by simp only [lentV]; rw [hc]; simp
        simp only [contH] at hc
        split at hc
        · rename_i ice v' c' l' hbb
          split at hc
          · rename_i hd
            obtain ⟨rfl, rfl⟩ := of_decide_eq_true hd
            obtain ⟨rfl, hq⟩ := Cont.of.inj (Option.some.inj hc)
            obtain rfl := eq_of_heq hq
            have hb' := hl b hin _ _ _ _ hbb
            obtain ⟨h1, h2, h3, h4⟩ := h.blk b _ hb'
            obtain ⟨rfl, h5, h6, h7⟩ := hh h1.symm
            rw [h2] at h5
            have hlen : ((l'.drop i).take m).length = m := by simp; omega
            cases hg : e0.g b with
            | none =>
              rw [hg] at h4
              subst h4
              simp at h5
              obtain ⟨rfl, rfl⟩ := h5
              exact .lst 0 0 (fun _ _ => undef) rfl (Nat.zero_le _) ⟨fun _ h => by simp at h, fun _ h => by simp at h, fun h => absurd rfl h, fun _ _ _ _ h => by simp at h⟩ (fun _ _ _ _ h => by simp at h)
            | some p =>
              obtain ⟨gg, cc⟩ := p
              rw [hg] at h4
              have hcell : ∀ (q j : Nat) (y z : AV), (((l'.drop i).take m).map (inj c'))[q]? = some y → y.cells[j]? = some z → M' gg (i * sizeC c' + q * sizeC c' + j) = some ((M' gg (i * sizeC c' + q * sizeC c' + j)).getD undef) ∧ VR M' RR.nul z ((M' gg (i * sizeC c' + q * sizeC c' + j)).getD undef) := by
                intro q j y z hy hz
                have hq := (place_lt hy hz).1
                rw [hlen] at hq
                rw [List.getElem?_map, List.getElem?_take_of_lt hq, List.getElem?_drop] at hy
                obtain ⟨u, hu, hvv⟩ := h4.2 (i + q) j y z (by rw [List.getElem?_map]; exact hy) hz
                rw [Nat.add_mul] at hu
                rw [hu]
                exact ⟨rfl, hvv⟩
              refine .lst gg (i * sizeC c') (fun q j => (M' gg (i * sizeC c' + q * sizeC c' + j)).getD undef) hlen.symm h6 ⟨inj_wide, inj_ones, fun hne => ?_, fun q j y z hy hz => (hcell q j y z hy hz).1⟩ (fun q j y z hy hz => (hcell q j y z hy hz).2)
              have hm : 0 < m := by
                apply Decidable.byContradiction
                intro hz
                have : m = 0 := by omega
                subst this
                simp at hne
              exact (h7 gg cc hg).2 (by omega)
          · exact absurd hc (by simp)
        · exact absurd hc (by simp)
      · exact h0
    | agg hs ho hh ih =>
      intro he hl
      simp only [thawV]
      refine .agg (by rw [thawL_len]; exact hs) (fun z hz => ?_) fun i y u hy hu => ?_
      · obtain ⟨i, hi⟩ := List.mem_iff_getElem?.1 hz
        rw [thawL_get] at hi
        obtain ⟨z0, hz0, rfl⟩ := Option.map_eq_some_iff.1 hi
        exact thaw_one (ho z0 (List.mem_of_getElem? hz0))
      · rw [thawL_get] at hy
        obtain ⟨y0, hy0, rfl⟩ := Option.map_eq_some_iff.1 hy
        refine ih i y0 u hy0 hu he fun b hb => hl b ?_
        simp only [lentV]
        exact lentL_mem hy0 hb
    | fn hs hh ih =>
      intro he hl
      simp only [thawV]
      refine .fn (by rw [thawL_len]; exact hs) fun i y u hy hu => ?_
      rw [thawL_get] at hy
      obtain ⟨y0, hy0, rfl⟩ := Option.map_eq_some_iff.1 hy
      refine ih i y0 u hy0 hu he fun b hb => hl b ?_
      simp only [lentV]
      exact lentL_mem hy0 hb
    | int => exact fun _ _ => .int
    | u8 => exact fun _ _ => .u8
    | bool => exact fun _ _ => .bool
    | str h => exact fun _ _ => .str h
    | enil => exact fun _ _ => .enil
    | eno h => exact fun _ _ => .eno h
    | iface hx _ => exact fun he _ => by subst he; exact (VR.iface hx).mono hM (RR.le.refl _)
    | nilp => exact fun _ _ => .nilp
    | ptr hx => exact fun he _ => by subst he; exact .ptr hx
    | elp h1 h2 h3 h4 => exact fun he _ => by subst he; exact .elp h1 h2 h3 h4
    | eptr g o f h1 h2 h3 _ => exact fun he _ => by subst he; exact (VR.eptr g o f h1 h2 h3).mono hM (RR.le.refl _)
    | nils => exact fun _ _ => .nils
    | lst g o f h1 h2 h3 h4 _ => exact fun he _ => by subst he; exact (VR.lst g o f h1 h2 h3 h4).mono hM (RR.le.refl _)
    | lstp s g o f h1 h2 h3 h4 _ => exact fun he _ => by subst he; exact (VR.lstp s g o f h1 h2 h3 h4).mono hM (RR.le.refl _)
    | tup h1 h2 _ => exact fun he _ => by subst he; exact (VR.tup h1 h2).mono hM (RR.le.refl _)
    | dead h => exact fun _ _ => .dead h
  exact key hv rfl
theorem thawL_sound {M' : Mem} {H' : List AB} {w' : World} (hM : Mle M M') (h : HR M' e H' w') {xs : List AV} {vs : Array Value} (hv : CR M e xs vs)
    (hl : ∀ b ∈ lentL H xs, ∀ ice k c, ∀ l : List (τ c), H[b]? = some (.arr ice k c l) → H'[b]? = some (.arr true k c l)) : CR M' e (thawL H xs) vs := by
  refine ⟨by rw [thawL_len]; exact hv.size, fun i y u hy hu => ?_⟩
  rw [thawL_get] at hy
  obtain ⟨y0, hy0, rfl⟩ := Option.map_eq_some_iff.1 hy
  exact thaw_sound hM h (hv.get i y0 u hy0 hu) fun b hb => hl b (lentL_mem hy0 hb)
end
end Go.Sm
/- Calls of functions. No condition. -/
set_option linter.unusedVariables false
set_option linter.unusedSimpArgs false
namespace Go.Sm

/-! ### What does not lie in memory of others -/
theorem freeL_get : ∀ {cs : List AV}, freeL cs = true → ∀ {i : Nat} {x : AV}, cs[i]? = some x → x.free = true
  | [], _, i, x, h => by simp at h
  | v :: r, hf, i, x, h => by
    rw [freeL, Bool.and_eq_true] at hf
    cases i with
    | zero => obtain rfl := Option.some.inj h; exact hf.1
    | succ i => exact freeL_get hf.2 (by simpa using h)
theorem VR.free {M M' : Mem} {e : RR} {x : AV} {v : Value} (h : VR M e x v) : x.free = true → VR M' e x v := by
  induction h with
  | int => exact fun _ => .int
  | u8 => exact fun _ => .u8
  | bool => exact fun _ => .bool
  | str h => exact fun _ => .str h
  | enil => exact fun _ => .enil
  | eno h => exact fun _ => .eno h
  | iface _ ih => exact fun hf => .iface (ih hf)
  | nilp => exact fun _ => .nilp
  | ptr h => exact fun _ => .ptr h
  | elp h1 h2 h3 h4 => exact fun _ => .elp h1 h2 h3 h4
  | eptr => intro hf; cases hf
  | nils => exact fun _ => .nils
  | lst => intro hf; cases hf
  | lstp => intro hf; cases hf
  | slc h1 h2 h3 h4 => exact fun _ => .slc h1 h2 h3 h4
  | sub h1 h2 h3 h4 => exact fun _ => .sub h1 h2 h3 h4
  | agg hs ho _ ih => exact fun hf => .agg hs ho (fun i x v h1 h2 => ih i x v h1 h2 (freeL_get hf h1))
  | tup hs _ ih => exact fun hf => .tup hs (fun i x v h1 h2 => ih i x v h1 h2 (freeL_get hf h1))
  | fn hs _ ih => exact fun hf => .fn hs (fun i x v h1 h2 => ih i x v h1 h2 (freeL_get hf h1))
  | dead h => exact fun _ => .dead h
theorem flat_free : ∀ (c : Cd), flatC c = true → ∀ (a : τ c), ∀ z ∈ cellsC c a, z.free = true
  | .u8, _, b, z, hz => by simp [cellsC] at hz; subst hz; rfl
  | .int k, _, n, z, hz => by simp [cellsC] at hz; subst hz; rfl
  | .bool, _, b, z, hz => by simp [cellsC] at hz; subst hz; rfl
  | .str, _, s, z, hz => by simp [cellsC] at hz; subst hz; rfl
  | .err, _, n, z, hz => by simp [cellsC] at hz; subst hz; rfl
  | .lst c, h, _, _, _ => by cases h
  | .one c, h, x, z, hz => flat_free c h x z hz
  | .pair a b, h, x, z, hz => by
    rw [flatC, Bool.and_eq_true] at h
    simp only [cellsC] at hz
    rcases List.mem_append.1 hz with h1 | h1
    · exact flat_free a h.1 x.1 z h1
    · exact flat_free b h.2 x.2 z h1
theorem BR.free {M M' : Mem} {e : RR} {w : World} {b : Nat} {x : AB} (h : BR M e w b x) (hf : x.free = true) (hi : ∀ i, cid e b x = some i → ∀ o, M i o = none → M' i o = none) : BR M' e w b x := by
  cases x with
  | cells cs =>
    obtain ⟨h1, arr, ty, h2, h3, h4⟩ := h
    exact ⟨h1, arr, ty, h2, ⟨h3.size, fun i x v hx hv => (h3.get i x v hx hv).free (freeL_get hf hx)⟩, fun o => hi _ rfl o (h4 o)⟩
  | arr ice v c l =>
    obtain ⟨h1, h2, h3, h4⟩ := h
    simp only [AB.free, Bool.and_eq_true, Bool.not_eq_true'] at hf
    obtain ⟨rfl, hfl⟩ := hf
    refine ⟨h1, h2, h3, ?_⟩
    cases hgb : e.g b with
    | none => rw [hgb] at h4; exact h4
    | some p =>
      obtain ⟨gg, cc⟩ := p
      rw [hgb] at h4
      obtain ⟨hlc, arr, ty, fz, h5, hfz, h6, h7, h8⟩ := h4
      refine ⟨hlc, arr, ty, fz, h5, hfz, h6, fun i j y z hy hz => ?_, fun o => hi gg (by simp [cid, hgb]) o (h8 o)⟩
      obtain ⟨u, hu, hv⟩ := h7 i j y z hy hz
      rw [List.getElem?_map] at hy
      obtain ⟨a, _, rfl⟩ := Option.map_eq_some_iff.1 hy
      rw [inj_cells] at hz
      exact ⟨u, hu, hv.free (flat_free c hfl a z (List.mem_of_getElem? hz))⟩
  | iter s pos => exact h

/-- What was lent is one's own again. -/
theorem melt_sound {M M1 : Mem} {e : RR} {H : List AB} {w : World} (h : HR M e H w) {fb : List Nat} (hfb : ∀ b ∈ fb, ∃ v c, ∃ l : List (τ c), H[b]? = some (.arr false v c l))
    {Mc : Mem} (hMc : ∀ g o, Mc g o ≠ M g o → ∃ b ∈ fb, ∃ v c, ∃ l : List (τ c), H[b]? = some (.arr false v c l) ∧ ∃ cc, e.g b = some (g, cc)) (hle : Mle M Mc)
    {e1 : RR} {H1 : List AB} {w1 : World} (hT : Tr Mc e (iceL true H fb) w M1 e1 H1 w1)
    (hun : ∀ b ∈ fb, H1[b]? = (iceL true H fb)[b]? ∧ sameAt e e1 b ∧ ∀ g cc, e.g b = some (g, cc) → w1.heap[g]? = w.heap[g]?)
    (hblk : ∀ k x, H1[k]? = some x → k ∉ fb → x.free = true ∨ (H[k]? = some x ∧ sameAt e e1 k ∧ ∀ i, cid e k x = some i → w1.heap[i]? = w.heap[i]?)) :
    ∃ M2, Tr M e H w M2 e1 (iceL false H1 fb) w1 ∧ ∀ x c, x.free = true → VR M1 e1 x c → VR M2 e1 x c := by
  classical
  let F : Nat → Prop := fun g => ∃ b ∈ fb, ∃ v c, ∃ l : List (τ c), H[b]? = some (.arr false v c l) ∧ ∃ cc, e.g b = some (g, cc)
  have hFM : ∀ g, F g → ∀ o, M g o = none := by
    rintro g ⟨b, hb, v, c, l, hbb, cc, hg⟩ o
    obtain ⟨h1, h2, h3, h4⟩ := h.blk b _ hbb
    rw [hg] at h4
    obtain ⟨_, _, _, _, _, _, _, _, h8⟩ := h4
    exact h8 o
  let M2 : Mem := fun g o => if F g then M g o else M1 g o
  have hM : Mle M M2 := by
    intro g o u hu
    simp only [M2]
    split
    · exact hu
    · exact hT.mle _ _ _ (hle _ _ _ hu)
  have hfoot : ∀ i, foot e (iceL true H fb) i → foot e H i ∧ ¬ F i := by
    rintro i ⟨k, y, hk, hi⟩
    rw [iceL_get] at hk
    by_cases hkf : k ∈ fb
    · rw [if_pos hkf] at hk
      obtain ⟨v, c, l, hbb⟩ := hfb k hkf
      rw [hbb] at hk
      simp only [Option.map_some, Option.some.injEq] at hk
      subst hk
      simp [cid, iceX] at hi
    · rw [if_neg hkf] at hk
      refine ⟨⟨k, y, hk, hi⟩, ?_⟩
      rintro ⟨b, hb, v, c, l, hbb, cc, hg⟩
      have := h.inj k b y _ i hk hbb hi (by simp [cid, hg])
      exact hkf (by rw [this]; exact hb)
  have hFlt : ∀ g, F g → g < w.heap.size := by
    rintro g ⟨b, hb, v, c, l, hbb, cc, hg⟩
    exact (h.blk b _ hbb).lt (by simp [cid, hg])
  have hget : ∀ k, (iceL false H1 fb)[k]? = if k ∈ fb then (H1[k]?).map (iceX false) else H1[k]? := fun k => iceL_get
  have hfbk : ∀ k x, k ∈ fb → (iceL false H1 fb)[k]? = some x → H[k]? = some x ∧ ∃ v c, ∃ l : List (τ c), x = .arr false v c l := by
    intro k x hk hx
    obtain ⟨v, c, l, hbb⟩ := hfb k hk
    rw [hget, if_pos hk, (hun k hk).1, iceL_get, if_pos hk, hbb] at hx
    simp only [Option.map_some, Option.some.injEq] at hx
    subst hx
    exact ⟨hbb, v, c, l, rfl⟩
  have hnone : ∀ i o, ¬ F i → M1 i o = none → M2 i o = none := by
    intro i o hF hq
    simp only [M2]
    rw [if_neg hF]
    exact hq
  have hidsF : ∀ k x i, k ∉ fb → H1[k]? = some x → cid e1 k x = some i → ¬ F i := by
    intro k x i hk hx hi hF
    rcases hT.ids i ⟨k, x, hx, hi⟩ with h1 | h1
    · exact (hfoot i h1).2 hF
    · have := hFlt i hF
      omega
  have hrle := hT.rle
  refine ⟨M2, ⟨hM, hrle, ⟨by rw [iceL_len]; exact hT.hr.N, fun g o u hu => ?_, fun k x hx => ?_, fun k k' x x' i hx hx' hi hi' => ?_, h.glob.mono hM, fun k x hx => ?_⟩, hT.os, hT.tape, hT.output, hT.size, fun i hi hn => hT.same i hi fun hf => hn (hfoot i hf).1, fun i hf => ?_, fun g o h0 h1 => ?_⟩, fun x c hf hv => hv.free hf⟩
  · simp only [M2] at hu
    split at hu
    · rename_i hF
      rw [hFM g hF o] at hu
      exact absurd hu (by simp)
    · exact hT.hr.mem g o u hu
  · by_cases hk : k ∈ fb
    · obtain ⟨hHk, v, c, l, rfl⟩ := hfbk k x hk hx
      obtain ⟨_, ⟨hs1, hs2, hs3, hs4, hs5⟩, hheap⟩ := hun k hk
      refine ((h.blk k _ hHk).world fun i hi => ?_).other hM hrle hs1 hs2 hs3 hs4 fun i hi o ho => ?_
      · simp only [cid, Option.map_eq_some_iff] at hi
        obtain ⟨⟨g, cc⟩, hg, rfl⟩ := hi
        exact hheap g cc hg
      · simp only [cid, Option.map_eq_some_iff] at hi
        obtain ⟨⟨g, cc⟩, hg, rfl⟩ := hi
        simp only [M2]
        rw [if_pos ⟨k, hk, v, c, l, hHk, cc, hg⟩]
        exact ho
    · rw [hget, if_neg hk] at hx
      have hb1 := hT.hr.blk k x hx
      rcases hblk k x hx hk with hf | ⟨hHk, ⟨hs1, hs2, hs3, hs4, hs5⟩, hheap⟩
      · exact hb1.free hf fun i hi o ho => hnone i o (hidsF k x i hk hx hi) ho
      · refine ((h.blk k x hHk).world hheap).other hM hrle hs1 hs2 hs3 hs4 fun i hi o ho => ?_
        have hi' : cid e1 k x = some i := by rw [cid_other hs1 hs2]; exact hi
        refine hnone i o (hidsF k x i hk hx hi') ?_
        cases x with
        | cells cs =>
          obtain ⟨_, _, _, _, _, h4⟩ := hb1
          simp only [cid, Option.some.injEq] at hi'
          subst hi'
          exact h4 o
        | arr ice v c l =>
          cases ice with
          | true => simp [cid] at hi'
          | false =>
            simp only [cid, Option.map_eq_some_iff] at hi'
            obtain ⟨⟨g, cc⟩, hg, rfl⟩ := hi'
            obtain ⟨_, _, _, h4⟩ := hb1
            rw [hg] at h4
            obtain ⟨_, _, _, _, _, _, _, _, h8⟩ := h4
            exact h8 o
        | iter s p =>
          cases hq : M1 i o with
          | none => rfl
          | some u =>
            have := hT.hr.mem i o u hq
            obtain ⟨bs, hbs, _⟩ := hb1
            simp only [cid, Option.some.injEq] at hi'
            subst hi'
            simp [World.cell?, hbs] at this
  · have hcase : ∀ {k x i}, (iceL false H1 fb)[k]? = some x → cid e1 k x = some i → (k ∈ fb ∧ (∃ v c, ∃ l : List (τ c), H[k]? = some (.arr false v c l)) ∧ (∃ y, H[k]? = some y ∧ cid e k y = some i) ∧ F i) ∨ (k ∉ fb ∧ H1[k]? = some x ∧ ¬ F i) := by
      intro k x i hx hi
      by_cases hk : k ∈ fb
      · obtain ⟨hHk, v, c, l, rfl⟩ := hfbk k x hk hx
        obtain ⟨_, ⟨hs1, hs2, _⟩, _⟩ := hun k hk
        rw [cid_other hs1 hs2] at hi
        refine .inl ⟨hk, ⟨v, c, l, hHk⟩, ⟨_, hHk, hi⟩, ?_⟩
        simp only [cid, Option.map_eq_some_iff] at hi
        obtain ⟨⟨g, cc⟩, hg, rfl⟩ := hi
        exact ⟨k, hk, v, c, l, hHk, cc, hg⟩
      · rw [hget, if_neg hk] at hx
        exact .inr ⟨hk, hx, hidsF k x i hk hx hi⟩
    rcases hcase hx hi with ⟨_, _, ⟨y, hy, hyi⟩, hF⟩ | ⟨_, h1, hF⟩ <;> rcases hcase hx' hi' with ⟨_, _, ⟨y', hy', hyi'⟩, hF'⟩ | ⟨_, h1', hF'⟩
    · exact h.inj k k' y y' i hy hy' hyi hyi'
    · exact absurd hF hF'
    · exact absurd hF' hF
    · exact hT.hr.inj k k' x x' i h1 h1' hi hi'
  · rw [hget] at hx
    split at hx
    · cases hq : H1[k]? with
      | none => rw [hq] at hx; simp at hx
      | some y =>
        rw [hq] at hx
        simp only [Option.map_some, Option.some.injEq] at hx
        subst hx
        rw [hT.hr.kind k y hq, iceX_arr]
    · exact hT.hr.kind k x hx
  · obtain ⟨k, x, hx, hi⟩ := hf
    by_cases hk : k ∈ fb
    · obtain ⟨hHk, v, c, l, rfl⟩ := hfbk k x hk hx
      obtain ⟨_, ⟨hs1, hs2, _⟩, _⟩ := hun k hk
      rw [cid_other hs1 hs2] at hi
      exact .inl ⟨k, _, hHk, hi⟩
    · rw [hget, if_neg hk] at hx
      rcases hT.ids i ⟨k, x, hx, hi⟩ with h1 | h1
      · exact .inl (hfoot i h1).1
      · exact .inr h1
  · simp only [M2] at h1
    split at h1
    · exact absurd h0 h1
    · rename_i hF
      have hc : Mc g o = none := by
        cases hq : Mc g o with
        | none => rfl
        | some u => exact absurd (hMc g o (by rw [hq, h0]; simp)) hF
      rcases hT.fresh g o hc h1 with h2 | h2
      · exact .inl (hfoot g h2).1
      · exact .inr h2

/-! ### Calls -/
/-- What a function's call comes to, wherever its small heap lies. -/
structure Sim (P : Program) (f : FuncId) (args : List AV) (H : List AB) (r : AV) (H' : List AB) : Prop where
  there : ∃ fn, P.funcs[f]? = some fn ∧ fn.body.isNone = false ∧ (fn.name == "runtime.NumGoroutine") = false
  calls : ∀ (M : Mem) (e : RR) (w : World) (vs : Array Value), HR M e H w → CR M e args vs →
    Calls P f vs w (fun en w' => ∃ c M' e', en = .returned c ∧ Tr M e H w M' e' H' w' ∧ VR M' e' r c)
/-- A function does as its contract says, wherever that says something. -/
def SoundT (P : Program) (f : FuncId) (s : SpecT) : Prop := ∀ args H r H', (s args H).run = some (r, H') → Sim P f args H r H'
def RR.join (e e1 : RR) (ids : List Nat) (base : Nat → Nat) (m n : Nat) : RR where
  ρ k := match idx ids k with | some j => e1.ρ j | none => if k < m then e.ρ k else e1.ρ (ids.length + (k - m))
  g k := match idx ids k with | some j => e1.g j | none => if k < m then e.g k else e1.g (ids.length + (k - m))
  len k := match idx ids k with | some j => base j + e1.len j | none => if k < m then e.len k else e1.len (ids.length + (k - m))
  cnt k := match idx ids k with | some j => e1.cnt j | none => if k < m then e.cnt k else e1.cnt (ids.length + (k - m))
  arr k := match idx ids k with | some j => e1.arr j | none => if k < m then e.arr k else e1.arr (ids.length + (k - m))
  N := m + (n - ids.length)
theorem idx_none_of {ids : List Nat} {m k : Nat} (hlt : ∀ (j i : Nat), ids[j]? = some i → i < m) (hk : m ≤ k) : idx ids k = none := by
  cases hq : idx ids k with
  | none => rfl
  | some j => have := hlt j k (idx_some hq); omega
/-- The blocks that a call gets, and gives back. -/
theorem call_core {P : Program} {f : FuncId} {args : List AV} {H : List AB} {ids : List Nat} (hn : ids.Nodup) {args' : List AV} {bs bs' : List AB} (hargs : renL (idx ids) (ageIn H) args = some args') (hbs : fetch H ids = some bs)
    (hbs' : renH (idx ids) (ageIn H) (fun _ _ => 0) 0 bs = some bs') {r1 : AV} {H1 : List AB} (hS : Sim P f args' bs' r1 H1) {r' : AV} {H1' : List AB} (hr' : r1.ren (back ids H.length) (fun j v => some (baseV H ids j + v)) = some r')
    (hH1' : renH (back ids H.length) (fun j v => some (baseV H ids j + v)) (fun j v => baseV H ids j + v) 0 H1 = some H1') (hle : ids.length ≤ H1.length) {M : Mem} {e : RR} {w : World} {vs : Array Value} (h : HR M e H w) (hargsR : CR M e args vs) :
    Calls P f vs w (fun en w' => ∃ c M' e', en = .returned c ∧ Tr M e H w M' e' (putBack H ids H1') w' ∧ VR M' e' r' c ∧
      (∀ k, k < H.length → k ∉ ids → (putBack H ids H1')[k]? = H[k]? ∧ sameAt e e' k ∧ ∀ x i, H[k]? = some x → cid e k x = some i → w'.heap[i]? = w.heap[i]?) ∧
      (∀ k, k < H.length → k ∉ ids → ∀ i, (∀ j x, H[j]? = some x → j ∈ ids → cid e j x ≠ some i) → i < w.heap.size → w'.heap[i]? = w.heap[i]?) ∧
      ∀ k x, (putBack H ids H1')[k]? = some x → (k < H.length ∧ k ∉ ids) ∨ x ∈ H1') := by
  obtain ⟨hbl, hidlt, hbg⟩ := fetch_get hbs
  have hf : Ren (idx ids) (ageIn H) e (e.sub ids fun _ => 0) := Ren.sub h hn fun b v v' hbv => by
    unfold ageIn at hbv
    split at hbv
    · rename_i v0 hcur
      split at hbv
      · rename_i hd
        obtain rfl := of_decide_eq_true hd
        obtain rfl := Option.some.inj hbv
        exact ⟨hcur, fun _ _ => rfl⟩
      · exact absurd hbv (by simp)
    · exact absurd hbv (by simp)
  obtain ⟨hsub, hfoot⟩ := h.sub hn hf hbs hbs' fun _ _ _ _ => rfl
  refine (hS.calls M (e.sub ids fun _ => 0) w vs hsub (hargsR.ren hf hargs)).mono ?_
  rintro en w1 ⟨c, M1, e1, rfl, hT, hv⟩
  obtain ⟨hl1', hg1'⟩ := renH_get hH1'
  have hN1 : e1.N = H1.length := hT.hr.N
  have hN0 : (e.sub ids fun _ => 0).N = ids.length := rfl
  have hmem : ∀ i ∈ ids, i < H.length := fun i hi => by
    obtain ⟨j, hj⟩ := List.mem_iff_getElem?.1 hi
    exact hidlt j i hj
  have hNe : e.N = H.length := h.N
  have hbase : ∀ {j i : Nat}, ids[j]? = some i → e.arr i = true → baseV H ids j = e.len i := by
    intro j i hj ha
    unfold baseV
    rw [hj]
    simp only
    have hi := hidlt j i hj
    cases hq : H[i]? with
    | none => rw [List.getElem?_eq_none_iff] at hq; omega
    | some x =>
      have hk := h.kind i x hq
      rw [ha] at hk
      cases x with
      | arr ice v cc l => unfold curV; rw [hq]; exact (h.blk i _ hq).1.symm
      | _ => cases hk
  -- where caller and callee say the same
  have hat : ∀ {j i : Nat}, ids[j]? = some i → (e.join e1 ids (baseV H ids) H.length H1.length).ρ i = e1.ρ j ∧ (e.join e1 ids (baseV H ids) H.length H1.length).g i = e1.g j ∧ (e.join e1 ids (baseV H ids) H.length H1.length).len i = baseV H ids j + e1.len j ∧
      (e.join e1 ids (baseV H ids) H.length H1.length).cnt i = e1.cnt j ∧ (e.join e1 ids (baseV H ids) H.length H1.length).arr i = e1.arr j := by
    intro j i hj
    simp only [RR.join, idx_of hn hj, and_self]
  have hout : ∀ {k : Nat}, k < H.length → k ∉ ids → sameAt e (e.join e1 ids (baseV H ids) H.length H1.length) k := by
    intro k hk hni
    have : idx ids k = none := by
      cases hq : idx ids k with
      | none => rfl
      | some j => exact absurd (List.mem_of_getElem? (idx_some hq)) hni
    simp only [sameAt, RR.join, this, hk, if_true, and_self]
  have hnew : ∀ {k : Nat}, H.length ≤ k → (e.join e1 ids (baseV H ids) H.length H1.length).ρ k = e1.ρ (ids.length + (k - H.length)) ∧ (e.join e1 ids (baseV H ids) H.length H1.length).g k = e1.g (ids.length + (k - H.length)) ∧
      (e.join e1 ids (baseV H ids) H.length H1.length).len k = e1.len (ids.length + (k - H.length)) ∧ (e.join e1 ids (baseV H ids) H.length H1.length).cnt k = e1.cnt (ids.length + (k - H.length)) ∧
      (e.join e1 ids (baseV H ids) H.length H1.length).arr k = e1.arr (ids.length + (k - H.length)) := by
    intro k hk
    have h0 : ¬ k < H.length := by omega
    simp only [RR.join, idx_none_of hidlt hk, h0, if_false, and_self]
  have hbase0 : ∀ {j : Nat}, ids.length ≤ j → baseV H ids j = 0 := by
    intro j hj
    unfold baseV
    rw [List.getElem?_eq_none hj]
  have hb : ∀ b b', b < e1.N → back ids H.length b = some b' → (ids[b]? = some b') ∨ (ids.length ≤ b ∧ H.length ≤ b' ∧ ids.length + (b' - H.length) = b ∧ b' < H.length + (H1.length - ids.length)) := by
    intro b b' hb hq
    unfold back at hq
    split at hq
    · rename_i i hi
      obtain rfl := Option.some.inj hq
      exact .inl hi
    · rename_i hi
      obtain rfl := Option.some.inj hq
      have := List.getElem?_eq_none_iff.1 hi
      exact .inr ⟨this, by omega, by omega, by omega⟩
  have hren : Ren (back ids H.length) (fun j v => some (baseV H ids j + v)) e1 (e.join e1 ids (baseV H ids) H.length H1.length) := by
    refine ⟨fun b b' hlt hq => ?_, fun b b' hlt hq => ?_, fun b b' hlt hq => ?_, fun b b' v v' hlt hq hvv hvl => ?_⟩
    · rcases hb b b' hlt hq with h1 | ⟨h1, h2, h3, h4⟩
      · have := hidlt b b' h1
        simp only [RR.join]
        omega
      · exact h4
    · rcases hb b b' hlt hq with h1 | ⟨h1, h2, h3, h4⟩
      · exact (hat h1).1
      · rw [(hnew h2).1, h3]
    · rcases hb b b' hlt hq with h1 | ⟨h1, h2, h3, h4⟩
      · exact (hat h1).2.2.2.2
      · rw [(hnew h2).2.2.2.2, h3]
    · obtain rfl := Option.some.inj hvv
      rcases hb b b' hlt hq with h1 | ⟨h1, h2, h3, h4⟩
      · obtain ⟨_, q2, q3, q4, _⟩ := hat h1
        rw [q3]
        exact ⟨by omega, fun hh => ⟨by omega, q2, q4⟩⟩
      · obtain ⟨_, q2, q3, q4, _⟩ := hnew h2
        rw [q3, hbase0 h1, h3]
        exact ⟨by omega, fun hh => ⟨by omega, by rw [q2, h3], by rw [q4, h3]⟩⟩
  have hsubat : ∀ {j i : Nat}, ids[j]? = some i → (e.sub ids fun _ => 0).ρ j = e.ρ i ∧ (e.sub ids fun _ => 0).g j = e.g i ∧ (e.sub ids fun _ => 0).cnt j = e.cnt i ∧ (e.sub ids fun _ => 0).arr j = e.arr i := by
    intro j i hj
    simp only [RR.sub]
    rw [getD_of hj]
    exact ⟨rfl, rfl, rfl, rfl⟩
  have hele : e.le (e.join e1 ids (baseV H ids) H.length H1.length) := by
    refine ⟨by simp only [RR.join]; omega, fun b hb => ?_, fun b hb => ?_, fun b hb ha => ?_, fun b hb ha hq => ?_⟩ <;> by_cases hbi : b ∈ ids
    · obtain ⟨j, hj⟩ := List.mem_iff_getElem?.1 hbi
      have hj' := (List.getElem?_eq_some_iff.1 hj).1
      rw [(hat hj).1, hT.rle.ρ j hj', (hsubat hj).1]
    · exact (hout (by omega) hbi).1
    · obtain ⟨j, hj⟩ := List.mem_iff_getElem?.1 hbi
      have hj' := (List.getElem?_eq_some_iff.1 hj).1
      rw [(hat hj).2.2.2.2, hT.rle.arr j hj', (hsubat hj).2.2.2]
    · exact (hout (by omega) hbi).2.2.2.2
    · obtain ⟨j, hj⟩ := List.mem_iff_getElem?.1 hbi
      rw [(hat hj).2.2.1, hbase hj ha]
      omega
    · rw [(hout (by omega) hbi).2.2.1]; exact Nat.le_refl _
    · obtain ⟨j, hj⟩ := List.mem_iff_getElem?.1 hbi
      have hj' := (List.getElem?_eq_some_iff.1 hj).1
      obtain ⟨s1, s2, s3, s4⟩ := hsubat hj
      obtain ⟨_, q2, q3, q4, _⟩ := hat hj
      rw [q3, hbase hj ha] at hq
      have h0 : e1.len j = (e.sub ids fun _ => 0).len j := by show e1.len j = 0; omega
      have h1 := hT.rle.g j hj' (s4.trans ha) h0
      rw [q2, q4, h1.1, h1.2]
      exact ⟨s2, s3⟩
    · obtain ⟨_, q2, _, q4, _⟩ := hout (by omega : b < H.length) hbi
      exact ⟨q2, q4⟩
  obtain ⟨hpl, hpg⟩ := putBack_get (H := H) (bs := H1') hn hmem (by omega)
  -- each block of the caller's, behind the call
  have hcase : ∀ (k : Nat) (x : AB), (putBack H ids H1')[k]? = some x → (∃ (j : Nat) (y : AB), H1[j]? = some y ∧ y.ren (back ids H.length) (fun j v => some (baseV H ids j + v)) (fun v => baseV H ids j + v) = some x ∧ (e.join e1 ids (baseV H ids) H.length H1.length).ρ k = e1.ρ j ∧
      (e.join e1 ids (baseV H ids) H.length H1.length).g k = e1.g j ∧ (e.join e1 ids (baseV H ids) H.length H1.length).cnt k = e1.cnt j ∧ (e.join e1 ids (baseV H ids) H.length H1.length).arr k = e1.arr j ∧
      (e.join e1 ids (baseV H ids) H.length H1.length).len k = baseV H ids j + e1.len j ∧ (ids[j]? = some k ∨ (H.length ≤ k ∧ j = ids.length + (k - H.length))) ∧ x ∈ H1') ∨ (k < H.length ∧ k ∉ ids ∧ H[k]? = some x) := by
    intro k x hx
    rcases hpg k x hx with ⟨j, h1, h2⟩ | h1 | ⟨h1, h2⟩
    · obtain ⟨y, h3, h4⟩ := hg1' j x h2
      rw [Nat.zero_add] at h4
      obtain ⟨q1, q2, q3, q4, q5⟩ := hat h1
      exact .inl ⟨j, y, h3, h4, q1, q2, q4, q5, q3, .inl h1, List.mem_of_getElem? h2⟩
    · exact .inr h1
    · obtain ⟨y, h3, h4⟩ := hg1' _ x h2
      rw [Nat.zero_add] at h4
      obtain ⟨q1, q2, q3, q4, q5⟩ := hnew h1
      exact .inl ⟨_, y, h3, h4, q1, q2, q4, q5, by rw [q3, hbase0 (Nat.le_add_right _ _), Nat.zero_add], .inr ⟨h1, rfl⟩, List.mem_of_getElem? h2⟩
  have hids : ∀ {i : Nat}, foot (e.sub ids fun _ => 0) bs' i → ∃ j x, H[j]? = some x ∧ j ∈ ids ∧ cid e j x = some i := by
    rintro i ⟨j, y, hy, hyi⟩
    obtain ⟨hl2, hg2⟩ := renH_get hbs'
    obtain ⟨y0, hy0, hyr⟩ := hg2 j y hy
    have hj : j < ids.length := by rw [← hbl]; exact (List.getElem?_eq_some_iff.1 hy0).1
    have hjj : ids[j]? = some ids[j] := List.getElem?_eq_getElem hj
    rw [cid_ren hyr (hsubat hjj).1 (hsubat hjj).2.1] at hyi
    rw [hbg j _ hjj] at hy0
    exact ⟨_, y0, hy0, List.getElem_mem hj, hyi⟩
  have huntouched : ∀ {k : Nat} {x : AB} {i : Nat}, k ∉ ids → H[k]? = some x → cid e k x = some i → ¬ foot (e.sub ids fun _ => 0) bs' i := by
    intro k x i hk hx hi hf
    obtain ⟨j, y, hy, hj, hyi⟩ := hids hf
    have := h.inj k j x y i hx hy hi hyi
    exact hk (by rw [this]; exact hj)
  have hcid : ∀ {k : Nat} {x : AB} {i : Nat}, (putBack H ids H1')[k]? = some x → cid (e.join e1 ids (baseV H ids) H.length H1.length) k x = some i →
      (∃ (j : Nat) (y : AB), H1[j]? = some y ∧ cid e1 j y = some i ∧ (ids[j]? = some k ∨ (H.length ≤ k ∧ j = ids.length + (k - H.length)))) ∨ (k < H.length ∧ k ∉ ids ∧ H[k]? = some x ∧ cid e k x = some i) := by
    intro k x i hx hi
    rcases hcase k x hx with ⟨j, y, h1, h2, h3, h4, _, _, _, h5, _⟩ | ⟨h1, h2, h3⟩
    · rw [cid_ren h2 h3 h4] at hi
      exact .inl ⟨j, y, h1, hi, h5⟩
    · rw [cid_other (hout h1 h2).1 (hout h1 h2).2.1] at hi
      exact .inr ⟨h1, h2, h3, hi⟩
  have hjk : ∀ {j k k' : Nat}, (ids[j]? = some k ∨ (H.length ≤ k ∧ j = ids.length + (k - H.length))) → (ids[j]? = some k' ∨ (H.length ≤ k' ∧ j = ids.length + (k' - H.length))) → k = k' := by
    intro j k k' h1 h2
    rcases h1 with h1 | ⟨h1, h1'⟩ <;> rcases h2 with h2 | ⟨h2, h2'⟩
    · rw [h1] at h2; exact Option.some.inj h2
    · have := (List.getElem?_eq_some_iff.1 h1).1; omega
    · have := (List.getElem?_eq_some_iff.1 h2).1; omega
    · omega
  refine ⟨c, M1, e.join e1 ids (baseV H ids) H.length H1.length, rfl, ⟨hT.mle, hele, ⟨?_, hT.hr.mem, fun k x hx => ?_, fun k k' x x' i hx hx' hi hi' => ?_, hT.hr.glob, fun k x hx => ?_⟩, hT.os, hT.tape, hT.output, hT.size, fun i hi hnf => ?_, fun i hf => ?_, fun g o h0 h1 => ?_⟩, hv.ren hren hr',
    fun k hk hki => ⟨?_, hout hk hki, fun x i hx hi => ?_⟩, fun k hk hki i hno hi => ?_, fun k x hx => ?_⟩
  · rw [hpl, hl1']
    rfl
  · rcases hcase k x hx with ⟨j, y, h1, h2, h3, h4, h5, h6, h7, _⟩ | ⟨h1, h2, h3⟩
    · exact (hT.hr.blk j y h1).ren hren h2 h3 h4 h5 fun _ => h7
    · have hblk := h.blk k x h3
      have hw := hblk.world (w' := w1) fun i hi => hT.same i (hblk.lt hi) (huntouched h2 h3 hi)
      obtain ⟨s1, s2, s3, s4, s5⟩ := hout h1 h2
      refine hw.other hT.mle hele s1 s2 s3 s4 fun i hi o ho => ?_
      cases hq : M1 i o with
      | none => rfl
      | some u =>
        rcases hT.fresh i o ho (by rw [hq]; simp) with h4 | h4
        · exact absurd h4 (huntouched h2 h3 hi)
        · have := hblk.lt hi; omega
  · rcases hcid hx hi with ⟨j, y, h1, h2, h3⟩ | ⟨h1, h2, h3, h4⟩ <;> rcases hcid hx' hi' with ⟨j', y', h1', h2', h3'⟩ | ⟨h1', h2', h3', h4'⟩
    · have := hT.hr.inj j j' y y' i h1 h1' h2 h2'
      subst this
      exact hjk h3 h3'
    · rcases hT.ids i ⟨j, y, h1, h2⟩ with h5 | h5
      · exact absurd h5 (huntouched h2' h3' h4')
      · have := (h.blk _ _ h3').lt h4'; omega
    · rcases hT.ids i ⟨j', y', h1', h2'⟩ with h5 | h5
      · exact absurd h5 (huntouched h2 h3 h4)
      · have := (h.blk _ _ h3).lt h4; omega
    · exact h.inj k k' x x' i h3 h3' h4 h4'
  · rcases hcase k x hx with ⟨j, y, h1, h2, _, _, _, h6, _⟩ | ⟨h1, h2, h3⟩
    · rw [h6, hT.hr.kind j y h1, isArr_ren h2]
    · rw [(hout h1 h2).2.2.2.2]
      exact h.kind k x h3
  · exact hT.same i hi fun hf => hnf (hfoot i hf)
  · obtain ⟨k, x, hx, hi⟩ := hf
    rcases hcid hx hi with ⟨j, y, h1, h2, _⟩ | ⟨h1, h2, h3, h4⟩
    · rcases hT.ids i ⟨j, y, h1, h2⟩ with h5 | h5
      · exact .inl (hfoot i h5)
      · exact .inr h5
    · exact .inl ⟨k, x, h3, h4⟩
  · rcases hT.fresh g o h0 h1 with h2 | h2
    · exact .inl (hfoot g h2)
    · exact .inr h2
  · have hlt : k < (putBack H ids H1').length := by rw [hpl]; omega
    rw [List.getElem?_eq_getElem hlt]
    rcases hcase k _ (List.getElem?_eq_getElem hlt) with ⟨j, y, _, _, _, _, _, _, _, h5, _⟩ | ⟨_, _, h3⟩
    · rcases h5 with h5 | h5
      · exact absurd (List.mem_of_getElem? h5) hki
      · omega
    · exact h3.symm
  · exact hT.same i ((h.blk k x hx).lt hi) (huntouched hki hx hi)
  · refine hT.same i hi fun hf => ?_
    obtain ⟨j, x, hx, hj, hji⟩ := hids hf
    exact hno j x hx hj hji
  · rcases hcase k x hx with ⟨_, _, _, _, _, _, _, _, _, _, h5⟩ | ⟨h1, h2, _⟩
    · exact .inr h5
    · exact .inl ⟨h1, h2⟩
end Go.Sm
/- A call by its contract; one operation, and operations one behind the other. No condition. -/
set_option linter.unusedVariables false
set_option linter.unusedSimpArgs false
set_option linter.unusedSectionVars false
namespace Go.Sm

/-- All blocks are as they were. -/
def keepsB (H H' : List AB) : Prop := ∀ (b : Nat) (x : AB), H[b]? = some x → H'[b]? = some x
theorem keepsB.refl (H : List AB) : keepsB H H := fun _ _ h => h
theorem keepsB.app (H l : List AB) : keepsB H (H ++ l) := fun b x h => by
  rw [List.getElem?_append_left (List.getElem?_eq_some_iff.1 h).1]; exact h
theorem ice_back {H : List AB} {fb : List Nat} (hfb : ∀ b ∈ fb, ∃ v c, ∃ l : List (τ c), H[b]? = some (.arr false v c l)) {X : List AB} (hX : keepsB (iceL true H fb) X) : keepsB H (iceL false X fb) := by
  intro b x hb
  rw [iceL_get]
  by_cases hk : b ∈ fb
  · obtain ⟨v, c, l, hbb⟩ := hfb b hk
    rw [if_pos hk]
    have h1 : (iceL true H fb)[b]? = some (.arr true v c l) := by rw [iceL_get, if_pos hk, hbb]; rfl
    rw [hX b _ h1]
    rw [hb] at hbb
    obtain rfl := Option.some.inj hbb
    rfl
  · rw [if_neg hk]
    exact hX b x (by rw [iceL_get, if_neg hk]; exact hb)
theorem callT_sound {β : Type} {P : Program} {cal : CalT} (hcal : ∀ f p, cal f = some p → SoundT P f p.2) {f : FuncId} {args : List AV} {H : List AB} {K : AV → List AB → Bool → DT β} {res : β} (hrun : (callT cal f args H K).run = some res) :
    ∃ r H' k, Sim P f args H r H' ∧ (K r H' k).run = some res ∧ (k = true → keepsB H H') := by
  unfold callT at hrun
  split at hrun
  · exact (run_no hrun).elim
  rename_i lend spec hspec
  have hS0 := hcal f _ hspec
  -- what is handed in
  have prep : ∀ {M : Mem} {e : RR} {w : World} {vs : Array Value}, HR M e H w → CR M e args vs → ∃ Mc, Tr M e H w Mc e (iceL true H (lendFb lend H args)) w ∧
      (∀ g o, Mc g o ≠ M g o → ∃ b ∈ (lendFb lend H args), ∃ v c, ∃ l : List (τ c), H[b]? = some (.arr false v c l) ∧ ∃ cc, e.g b = some (g, cc)) ∧
      CR Mc e (lendArgs lend H args) vs := by
    intro M e w vs h hargs
    obtain ⟨Mc, h1, h2⟩ := ice_sound (fb := lendFb lend H args) h
    refine ⟨Mc, h1, h2, ?_⟩
    cases lend with
    | false => exact hargs.mono h1.mle (RR.le.refl _)
    | true => exact thawL_sound h1.mle h1.hr hargs fun b hb ice k c l hbb => lent_ice hb hbb
  have hsoft : ∀ b ∈ (lendFb lend H args), ∃ v c, ∃ l : List (τ c), H[b]? = some (.arr false v c l) := by
    intro b hb
    cases lend with
    | false => simp [lendFb] at hb
    | true => exact (softB_mem hb).2
  simp only at hrun
  generalize lendArgs lend H args = args1 at hrun prep
  generalize lendFb lend H args = fb at hrun prep hsoft
  obtain ⟨hn, _⟩ := close_nodup (iceL true H fb) 200 [] (ptrsL args1) List.nodup_nil
  generalize close (iceL true H fb) 200 [] (ptrsL args1) = ids at hrun hn
  split at hrun
  case h_2 => exact (run_no hrun).elim
  rename_i args' hargs
  split at hrun
  case h_2 => exact (run_no hrun).elim
  rename_i bs hbs
  split at hrun
  case h_2 => exact (run_no hrun).elim
  rename_i bs' hbs'
  obtain ⟨⟨r1, H1⟩, hsp, hrun⟩ := bind_run hrun
  have hS := hS0 _ _ _ _ hsp
  split at hrun
  case h_2 => exact (run_no hrun).elim
  rename_i r' hr'
  split at hrun
  case h_2 => exact (run_no hrun).elim
  rename_i H1' hH1'
  split at hrun
  case h_2 => exact (run_no hrun).elim
  rename_i hle
  have hle := of_decide_eq_true hle
  have hlen : (iceL true H fb).length = H.length := iceL_len
  have core := fun {M : Mem} {e : RR} {w : World} {vs : Array Value} (h : HR M e (iceL true H fb) w) (hc : CR M e args1 vs) => call_core hn hargs hbs hbs' hS hr' hH1' hle h hc
  -- given away, or nothing lent
  have keep : Sim P f args H r' (putBack (iceL true H fb) ids H1') := by
    refine ⟨hS.there, fun M e w vs h hc => ?_⟩
    obtain ⟨Mc, h1, h2, h3⟩ := prep h hc
    refine (core h1.hr h3).mono ?_
    rintro en w' ⟨c, M', e', rfl, hT, hv, _⟩
    exact ⟨c, M', e', rfl, h1.trans hT, hv⟩
  have hnil : ids = [] → keepsB (iceL true H fb) (putBack (iceL true H fb) ids H1') := by
    rintro rfl
    have : putBack (iceL true H fb) [] H1' = iceL true H fb ++ H1' := by cases H1' <;> simp [putBack]
    rw [this]
    exact keepsB.app _ _
  split at hrun
  · refine ⟨r', _, _, keep, hrun, fun hk => ?_⟩
    have : ids = [] := by
      cases ids with
      | nil => rfl
      | cons a l => cases hk
    simpa [iceL] using hnil this
  · split at hrun
    · rename_i hfree
      simp only [Bool.and_eq_true, List.all_eq_true] at hfree
      obtain ⟨⟨hf1, hf2⟩, hf3⟩ := hfree
      have hdis : ∀ b ∈ fb, b ∉ ids := fun b hb hbi => by
        have := hf3 b hb
        simp [hbi] at this
      refine ⟨r', _, _, ⟨hS.there, fun M e w vs h hc => ?_⟩, hrun, fun hk => ice_back hsoft (hnil (by
        cases ids with
        | nil => rfl
        | cons a l => cases hk))⟩
      obtain ⟨Mc, h1, h2, h3⟩ := prep h hc
      refine (core h1.hr h3).mono ?_
      rintro en w' ⟨c, M', e', rfl, hT, hv, hq1, hq2, hq3⟩
      have hlt : ∀ b ∈ fb, b < (iceL true H fb).length := fun b hb => by
        obtain ⟨v, c, l, hbb⟩ := hsoft b hb
        rw [hlen]
        exact (List.getElem?_eq_some_iff.1 hbb).1
      obtain ⟨M2, hT2, hv2⟩ := melt_sound h hsoft h2 h1.mle hT (fun b hb => by
        obtain ⟨q1, q2, _⟩ := hq1 b (hlt b hb) (hdis b hb)
        refine ⟨q1, q2, fun g cc hg => ?_⟩
        obtain ⟨v, cd, l, hbb⟩ := hsoft b hb
        refine hq2 b (hlt b hb) (hdis b hb) g (fun j x hx hj hji => ?_) ((h.blk b _ hbb).lt (by simp [cid, hg]))
        have hjf : j ∉ fb := fun hjf => hdis j hjf hj
        rw [iceL_get, if_neg hjf] at hx
        have := h.inj j b x _ g hx hbb hji (by simp [cid, hg])
        exact hjf (by rw [this]; exact hb)) (fun k x hx hkf => by
        rcases hq3 k x hx with ⟨hk1, hk2⟩ | hx'
        · obtain ⟨q1, q2, q3⟩ := hq1 k hk1 hk2
          rw [hx] at q1
          have q1' := q1.symm
          refine .inr ⟨?_, q2, fun i hi => q3 x i q1' hi⟩
          rw [iceL_get, if_neg hkf] at q1'
          exact q1'
        · exact .inl (hf2 x hx'))
      exact ⟨c, M2, e', rfl, hT2, hv2 _ _ hf1 hv⟩
    · exact ⟨r', _, _, keep, hrun, fun hk => by cases hk⟩

theorem EnvR.put {M : Mem} {e : RR} {env : Env} {tmps : Array Value} (h : EnvR M e env tmps) {d : Nat} {v : AV} {c : Value} (hv : VR M e v c) (hd : d < tmps.size) : EnvR M e (upd env d v) (tmps.setIfInBounds d c) := by
  intro t x hx
  unfold upd at hx
  split at hx
  · rename_i ht
    subst ht
    obtain rfl := Option.some.inj hx
    rw [Array.getD_eq_getD_getElem?, Array.getElem?_setIfInBounds_self_of_lt hd]
    exact hv
  · rename_i ht
    have := h t x hx
    rw [Array.getD_eq_getD_getElem?] at this ⊢
    rw [Array.getElem?_setIfInBounds_ne (fun h => ht h.symm)]
    exact this
theorem EnvR.mono {M M' : Mem} {e e' : RR} {env : Env} {tmps : Array Value} (h : EnvR M e env tmps) (hM : Mle M M') (he : e.le e') : EnvR M' e' env tmps := fun t x hx => (h t x hx).mono hM he

section
variable {P : Program} {cal : CalT} (hcal : ∀ f p, cal f = some p → SoundT P f p.2)
include hcal

/-- A call of a function: what the model runs. -/
theorem call_run {o : Oper} {f : Operand} {args : Array Operand} {ts : Array TypeId} (hop : o.op = .call ⟨.value f, args, ts⟩) {a : Act} {g : FuncId} {cap : Array Value} (hf : a.eval f = .func (.func g) #[] cap)
    (hthere : ∃ fn, P.funcs[g]? = some fn ∧ fn.body.isNone = false ∧ (fn.name == "runtime.NumGoroutine") = false) (w : World) :
    (execOp a.eval o).run P w = .ok (.enter g (args.map a.eval ++ cap)) w := by
  obtain ⟨fn, h1, h2, h3⟩ := hthere
  have h2' : fn.body ≠ none := by intro h; rw [h] at h2; exact absurd h2 (by simp)
  have h3' : ¬ fn.name = "runtime.NumGoroutine" := by simpa using h3
  simp [execOp, hop, resolve, hf, Deferred.ofValue, invoke, callFunc, h1, h2', h3']


/-- What stands behind one operation. -/
theorem stepT_sound {β : Type} {o : Oper} {st : St} {K : AV → List AB → Bool → DT β} {res : β} (hrun : (stepT P cal st o.op K).run = some res) {M : Mem} {e : RR} {w : World} {a : Act} (h : HR M e st.H w) (hE : EnvR M e st.env a.tmps)
    (hd : ∀ d, o.dst = some d → d < a.tmps.size) {K' : Act → World → Prop} {Q : Exit → Act → World → Prop}
    (hK : ∀ v H' k, (K v H' k).run = some res → ∀ c M' e' w', Tr M e st.H w M' e' H' w' → VR M' e' v c → (∀ d, o.dst = some d → True) → K' (a.put o.dst c) w') : o.wp P a w K' Q := by
  unfold stepT at hrun
  split at hrun
  · rename_i f args ts hop
    split at hrun
    case h_2 => exact (run_no hrun).elim
    rename_i g cap vs hf hargs
    obtain ⟨r, H', k, hS, hr, _⟩ := callT_sound hcal hrun
    have hvf := opd_sound hE hf
    generalize hcf : a.eval f = cf at hvf
    cases hvf with
    | @fn _ _ _ capv hsz hg =>
      have hargs' := opdL_sound hE hargs
      have hcr : CR M e (vs ++ cap) (args.map a.eval ++ capv) := by
        have := CR.app (vs := args.toList.map a.eval) (us := capv.toList) hargs' (ys := cap) ⟨by simpa using hsz, fun i x v h1 h2 => hg i x v h1 (by simpa using h2)⟩
        have he : (args.toList.map a.eval ++ capv.toList).toArray = args.map a.eval ++ capv := by
          rw [← Array.toList_inj]
          simp
        rwa [he] at this
      unfold Oper.wp
      rw [call_run hcal hop hcf hS.there, Oper.upon_enter]
      refine (hS.calls M e w _ h hcr).mono ?_
      rintro en w' ⟨c, M', e', rfl, hT, hv⟩
      exact hK _ _ _ hr c M' e' w' hT hv fun _ _ => trivial
  · obtain ⟨⟨v, H'⟩, h1, h2⟩ := bind_run hrun
    obtain ⟨n, c, w', M', e', hr, hn, hT, hv⟩ := opT_sound h hE h1
    unfold Oper.wp
    rw [hr]
    rcases hn with rfl | ⟨rfl, rfl⟩
    · rw [Oper.upon_value]
      exact hK _ _ _ h2 c M' e' w' hT hv fun _ _ => trivial
    · rw [Oper.upon_skip]
      exact hK _ _ _ h2 undef M' e' w' hT hv fun _ _ => trivial
end
end Go.Sm
