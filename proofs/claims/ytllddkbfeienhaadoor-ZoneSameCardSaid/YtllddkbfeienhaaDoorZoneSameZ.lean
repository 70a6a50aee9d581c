/- ZoneSame: for any two zones that are looked at: zone.Same says what the document says, a zone is the same as itself, and a copy of a zone is the same and apart: if all memory of the zone, or of the copy, is changed, the other one stays; longer zones aren't looked at. It holds for all zones, on every machine that has started. -/
import Derived.Test.YtllddkbfeienhaaDoorZoneSame1
import Derived.Test.YtllddkbfeienhaaDoorRows
import Derived.Test.YtllddkbfeienhaaDoorTie
import Derived.Test.YtllddkbfeienhaaDoorCards
import Derived.PinnedBridge
import Derived.Lay
import Derived.Stop.Joined
import Derived.Test.YtllddkbfeienhaaDoorZoneSame4
/- What all rows of this seat share at their end: the laid tables, the witness's world. No condition. -/
namespace Go.Proofs.YtllddkbfeienhaaDoor
open Go.Sm Go.ChangeShapes Go.WideShapes Go.ChangeAt Go.RowKit Go.Proofs
set_option maxRecDepth 100000
theorem own : ownKnob Tryd.prog.godebug = none := by kernel_rfl
theorem laidOut : laidOutB Tryd.prog = true := by kernel_rfl
abbrev laid2 : List (String × DataW Unit) := [("unicode/utf8.acceptRanges", Rows.laid_unicode_utf8_acceptRanges), ("unicode/utf8.first", Rows.laid_unicode_utf8_first)]
theorem door_met (os : Os) (args : Array Value) : laidMetH Tryd.prog laid2 ((World.laidAll Tryd.prog os laid2).forCall (fun _ _ => 0) ⟨#[], args, []⟩).memory := by
  rw [MakeChecks.laidMetH_plain _ _ _ (by kernel_rfl)]
  exact laidMet_laidAll _ (by kernel_rfl) (by kernel_rfl)
theorem door_shaped (os : Os) : (World.laidAll Tryd.prog os laid2).Shaped Tryd.prog := World.shaped_of_ZipB (by kernel_rfl) (by kernel_rfl)
abbrev ρ8 : Go.Shelf.Ren := ⟨fun x => x, fun x => if x = 119 then 226 else if x = 138 then 228 else if x = 139 then 229 else x, fun x => if x = 3 then 1 else if x = 4 then 2 else x⟩
theorem types8 : U8Types Tryd.prog ρ8 := ⟨by kernel_rfl, by kernel_rfl, by kernel_rfl, by kernel_rfl⟩
theorem extra8 : U8Extra Tryd.prog ρ8 := ⟨by kernel_rfl, by kernel_rfl, by kernel_rfl, by kernel_rfl, by kernel_rfl, by kernel_rfl, by kernel_rfl⟩
theorem tabs_of_laid {W : World} (h : laidMetH Tryd.prog laid2 W) : Lib.Utf8Tabs 1 2 W := by
  rw [MakeChecks.laidMetH_plain _ _ _ (by kernel_rfl)] at h
  refine utf8Tabs_of_readsT types8 extra8 (Lib.laidMet.reads h ?_) (Lib.laidMet.reads h ?_)
  · rw [← Pinned.utf8First_eq]
    exact List.mem_cons_of_mem _ (List.mem_cons_self ..)
  · have : Lib.acceptData = Rows.laid_unicode_utf8_acceptRanges := by kernel_rfl
    rw [this]
    exact List.mem_cons_self ..
end Go.Proofs.YtllddkbfeienhaaDoor
/- ZoneSame: from the contract to the card. -/
namespace Go.Proofs.YtllddkbfeienhaaDoor
open Go.Sm Go.ChangeShapes Go.WideShapes Go.ChangeAt Go.RowKit Go.Proofs
set_option maxRecDepth 100000
abbrev cs_ZoneSame : List Cd := [(.pair (.lst (.int .i64)) (.pair (.lst (.int .i64)) (.pair (.lst (.pair (.int .i64) (.pair .bool .str))) (.pair (.lst (.pair (.int .i64) (.int .i64))) (.pair .bool (.pair .str (.pair .str (.pair (.int .i64) (.pair (.int .i64) (.pair (.pair (.int .i64) (.pair (.int .i64) (.pair (.int .i64) (.pair (.int .i64) (.int .i64))))) (.pair (.int .i64) (.pair (.int .i64) (.pair (.int .i64) (.pair (.int .i64) (.int .i64))))))))))))))), (.pair (.lst (.int .i64)) (.pair (.lst (.int .i64)) (.pair (.lst (.pair (.int .i64) (.pair .bool .str))) (.pair (.lst (.pair (.int .i64) (.int .i64))) (.pair .bool (.pair .str (.pair .str (.pair (.int .i64) (.pair (.int .i64) (.pair (.pair (.int .i64) (.pair (.int .i64) (.pair (.int .i64) (.pair (.int .i64) (.int .i64))))) (.pair (.int .i64) (.pair (.int .i64) (.pair (.int .i64) (.pair (.int .i64) (.int .i64)))))))))))))))]
theorem zoneSame_lifted (law : ∀ x : Tup cs_ZoneSame, tupW cs_ZoneSame x → Sim Tryd.prog 4 (tupA cs_ZoneSame x) [] (.bool true) []) (os : Os) (started : os.Started) (H : Type) (enc : TypeId × Value → H) :
    ReturnsInHanded {} Tryd.checked os 4 .any (fun w args => (Rows.zoneSameSpec.pre enc Tryd.prog Tryd.f4 Rows.zoneSameRow.domain false w args ∧ laidMetH Tryd.prog laid2 w) ∧ sizedMet enc Tryd.prog Tryd.f4 (OpenSpec.ofChange Rows.zoneSameSpec) false w args)
      (Rows.zoneSameSpec.post enc Tryd.prog Tryd.f4 false true false false) := by
  refine returnsInHanded_of_change_and (C := Tryd.checked) (X := fun w _ => laidMetH Tryd.prog laid2 w) (fun _ _ _ hh h => h.of_heap hh) own started (by kernel_rfl) Tryd.func4
    (ChangeSpec.witness_shaped (enc := enc) (C := Tryd.checked) (os := os) (X := fun w _ => laidMetH Tryd.prog laid2 w) false (World.laidAll Tryd.prog os laid2) #[.agg #[.slice none 0 0, .slice none 0 0, .slice none 0 0, .slice none 0 0, .bool false, .string ⟨#[]⟩, .string ⟨#[]⟩, .int .i64 0, .int .i64 0, .int .i64 0, .int .i64 0, .int .i64 0, .int .i64 0, .int .i64 0, .int .i64 0, .int .i64 0, .int .i64 0, .int .i64 0, .int .i64 0], .agg #[.slice none 0 0, .slice none 0 0, .slice none 0 0, .slice none 0 0, .bool false, .string ⟨#[]⟩, .string ⟨#[]⟩, .int .i64 0, .int .i64 0, .int .i64 0, .int .i64 0, .int .i64 0, .int .i64 0, .int .i64 0, .int .i64 0, .int .i64 0, .int .i64 0, .int .i64 0, .int .i64 0]] 8 (World.laidAll_os _ _ _)
      (door_shaped os) (by kernel_rfl) (by kernel_rfl) (by kernel_rfl) (door_met os _)) ?_
  intro W base args ds gs before hval0 hW hc _ hL _
  have hval : ∀ (j : Nat) t v, Tryd.f4.params[j]? = some t → args[j]? = some v → Value.okWide Tryd.prog W .any base t v := hval0
  have hW' := hW
  obtain ⟨p, q, hA0, hV, rfl, _, _⟩ := hW
  have hA : DataW.TrodAll enc Tryd.prog W 0 (fun _ => true) true Tryd.f4.params.toList args.toList ds p := hA0
  rw [Tryd.params4] at hA hval
  obtain ⟨rfl, rfl⟩ := trodVars_none hV
  obtain ⟨hlen, x, hcr, hw⟩ := open_tup (d := 20) (cs := cs_ZoneSame) (ts := [44, 44]) (by kernel_rfl) (fun j t v ht hv => hval j t v (by rw [← List.getElem?_toArray] at ht; exact ht) (by simpa using hv)) hA
  have hcr : CR (memOf W) RR.nul (tupA cs_ZoneSame x) args := hcr
  refine (calls_of_sim (law x hw) (glob_of_tabs (tabs_of_laid hL)) hcr).mono fun e W' ⟨he, hb⟩ => ?_
  match ds, hlen, hW' with
  | [d0, d1], _, hW' => exact ⟨_, he, post_true (t := 4) laidOut (by kernel_rfl) rfl Tryd.underlying4 rfl hW' rfl hb⟩
theorem zoneSame_holds (law : ∀ x : Tup cs_ZoneSame, tupW cs_ZoneSame x → Sim Tryd.prog 4 (tupA cs_ZoneSame x) [] (.bool true) []) : Rows.ZoneSameSaid :=
  OpenClaim.holds_of_wide 4 Tryd.f4 rfl rfl rfl rfl rfl rfl rfl ⟨rfl, rfl, rfl, rfl, rfl⟩ rfl rfl rfl rfl rfl (by kernel_rfl) Tryd.func4 (by kernel_rfl)
    (of_decide_eq_true (by kernel_rfl)) (by unfold Func.isWrapper; first | (rw [if_pos (by decide +kernel)]; kernel_rfl) | (rw [if_neg (by decide +kernel)]; exact ⟨rfl, rfl⟩))
    (fun os started H enc _ => zoneSame_lifted law os started H enc)
theorem zoneSame_card (law : ∀ x : Tup cs_ZoneSame, tupW cs_ZoneSame x → Sim Tryd.prog 4 (tupA cs_ZoneSame x) [] (.bool true) []) : Rows.ZoneSameCardSaid :=
  Claim7.holds_tied_plain_at .later [] [.data, .pinned] true (true, "aa26bc6556dbd73fcc126498c2d0fc0c0664bbdaea4c17de43a1ba369324e920") true
    (zoneSame_holds law) (fun _ h => by cases h) (by kernel_rfl) (fun _ h => by cases h) zoneSame_row_tie rfl ⟨rfl, rfl⟩ (by kernel_rfl) rfl
    (fun f fn hf hfn => by
      obtain rfl : f = 4 := Option.some.inj ((show Tryd.prog.funcNamed "horologe/horologelaw19.ZoneSame" = some 4 by kernel_rfl).symm.trans hf) |>.symm
      obtain rfl : fn = Tryd.f4 := (Option.some.inj (Tryd.func4.symm.trans hfn)).symm
      exact ⟨by kernel_rfl, fun j t ht => by
        rw [Tryd.params4] at ht
        have hm : t ∈ [44, 44] := by simpa using Array.mem_of_getElem? ht
        have hall : ([44, 44].all fun u => !Tryd.prog.wantsStandIn u) = true := by kernel_rfl
        exact (show Tryd.prog.wantsStandIn t = false by simpa using List.all_eq_true.1 hall t hm)⟩)
    (by kernel_rfl)
end Go.Proofs.YtllddkbfeienhaaDoor
namespace Go.Proofs.YtllddkbfeienhaaDoor
open Go.Sm Go.Proofs
theorem zoneSame : Rows.ZoneSameCardSaid := zoneSame_card fun ⟨y, z⟩ hw => sim_true so_lawZoneSame (x := (y, z)) rfl (lawZoneSame y z (Nat.le_trans hw.1.2.2.1.1 (by decide)) (Nat.le_trans hw.2.2.2.1.1 (by decide)))
end Go.Proofs.YtllddkbfeienhaaDoor
