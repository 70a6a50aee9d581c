/- LookTells: for every zone that is looked at and every second: whether there is a clock of the zone, and else the error; how the clock stands at the second, and the first turn behind it, are as the document says, as are the errors; longer zones aren't looked at. It holds for all zones and seconds, on every machine that has started. -/
import Derived.Test.YtllddkbfeienhaaGreatDoorLookTells1
import Derived.Test.YtllddkbfeienhaaGreatDoorRows
import Derived.Test.YtllddkbfeienhaaGreatDoorTie
import Derived.Test.YtllddkbfeienhaaGreatDoorCards
import Derived.PinnedBridge
import Derived.Lay
import Derived.Stop.Joined
import Derived.Test.YtllddkbfeienhaaGreatDoorLookTells3
/- What all rows of this seat share at their end: the laid tables, the witness's world. No condition. -/
namespace Go.Proofs.YtllddkbfeienhaaGreatDoor
open Go.Sm Go.ChangeShapes Go.WideShapes Go.ChangeAt Go.RowKit Go.Proofs
set_option maxRecDepth 100000
theorem own : ownKnob Tryz.prog.godebug = none := by kernel_rfl
theorem laidOut : laidOutB Tryz.prog = true := by kernel_rfl
abbrev laid2 : List (String × DataW Unit) := [("unicode/utf8.acceptRanges", Rows.laid_unicode_utf8_acceptRanges), ("unicode/utf8.first", Rows.laid_unicode_utf8_first)]
theorem door_met (os : Os) (args : Array Value) : laidMetH Tryz.prog laid2 ((World.laidAll Tryz.prog os laid2).forCall (fun _ _ => 0) ⟨#[], args, []⟩).memory := by
  rw [MakeChecks.laidMetH_plain _ _ _ (by kernel_rfl)]
  exact laidMet_laidAll _ (by kernel_rfl) (by kernel_rfl)
theorem door_shaped (os : Os) : (World.laidAll Tryz.prog os laid2).Shaped Tryz.prog := World.shaped_of_ZipB (by kernel_rfl) (by kernel_rfl)
abbrev ρ8 : Go.Shelf.Ren := ⟨fun x => x, fun x => if x = 119 then 279 else if x = 138 then 281 else if x = 139 then 282 else x, fun x => if x = 3 then 1 else if x = 4 then 2 else x⟩
theorem types8 : U8Types Tryz.prog ρ8 := ⟨by kernel_rfl, by kernel_rfl, by kernel_rfl, by kernel_rfl⟩
theorem extra8 : U8Extra Tryz.prog ρ8 := ⟨by kernel_rfl, by kernel_rfl, by kernel_rfl, by kernel_rfl, by kernel_rfl, by kernel_rfl, by kernel_rfl⟩
theorem tabs_of_laid {W : World} (h : laidMetH Tryz.prog laid2 W) : Lib.Utf8Tabs 1 2 W := by
  rw [MakeChecks.laidMetH_plain _ _ _ (by kernel_rfl)] at h
  refine utf8Tabs_of_readsT types8 extra8 (Lib.laidMet.reads h ?_) (Lib.laidMet.reads h ?_)
  · rw [← Pinned.utf8First_eq]
    exact List.mem_cons_of_mem _ (List.mem_cons_self ..)
  · have : Lib.acceptData = Rows.laid_unicode_utf8_acceptRanges := by kernel_rfl
    rw [this]
    exact List.mem_cons_self ..
end Go.Proofs.YtllddkbfeienhaaGreatDoor
/- LookTells: from the contract to the card. -/
namespace Go.Proofs.YtllddkbfeienhaaGreatDoor
open Go.Sm Go.ChangeShapes Go.WideShapes Go.ChangeAt Go.RowKit Go.Proofs
set_option maxRecDepth 100000
abbrev cs_LookTells : List Cd := [(.pair (.lst (.int .i64)) (.pair (.lst (.int .i64)) (.pair (.lst (.pair (.int .i64) (.pair .bool .str))) (.pair (.lst (.pair (.int .i64) (.int .i64))) (.pair .bool (.pair .str (.pair .str (.pair (.int .i64) (.pair (.int .i64) (.pair (.pair (.int .i64) (.pair (.int .i64) (.pair (.int .i64) (.pair (.int .i64) (.int .i64))))) (.pair (.int .i64) (.pair (.int .i64) (.pair (.int .i64) (.pair (.int .i64) (.int .i64))))))))))))))), (.int .i64)]
theorem lookTells_lifted (law : ∀ x : Tup cs_LookTells, tupW cs_LookTells x → Sim Tryz.prog 5 (tupA cs_LookTells x) [] (.bool true) []) (os : Os) (started : os.Started) (H : Type) (enc : TypeId × Value → H) :
    ReturnsInHanded {} Tryz.checked os 5 .any (fun w args => (Rows.lookTellsSpec.pre enc Tryz.prog Tryz.f5 Rows.lookTellsRow.domain false w args ∧ laidMetH Tryz.prog laid2 w) ∧ sizedMet enc Tryz.prog Tryz.f5 (OpenSpec.ofChange Rows.lookTellsSpec) false w args)
      (Rows.lookTellsSpec.post enc Tryz.prog Tryz.f5 false true false false) := by
  refine returnsInHanded_of_change_and (C := Tryz.checked) (X := fun w _ => laidMetH Tryz.prog laid2 w) (fun _ _ _ hh h => h.of_heap hh) own started (by kernel_rfl) Tryz.func5
    (ChangeSpec.witness_shaped (enc := enc) (C := Tryz.checked) (os := os) (X := fun w _ => laidMetH Tryz.prog laid2 w) false (World.laidAll Tryz.prog os laid2) #[.agg #[.slice none 0 0, .slice none 0 0, .slice none 0 0, .slice none 0 0, .bool false, .string ⟨#[]⟩, .string ⟨#[]⟩, .int .i64 0, .int .i64 0, .int .i64 0, .int .i64 0, .int .i64 0, .int .i64 0, .int .i64 0, .int .i64 0, .int .i64 0, .int .i64 0, .int .i64 0, .int .i64 0], .int .i64 0] 8 (World.laidAll_os _ _ _)
      (door_shaped os) (by kernel_rfl) (by kernel_rfl) (by kernel_rfl) (door_met os _)) ?_
  intro W base args ds gs before hval0 hW hc _ hL _
  have hval : ∀ (j : Nat) t v, Tryz.f5.params[j]? = some t → args[j]? = some v → Value.okWide Tryz.prog W .any base t v := hval0
  have hW' := hW
  obtain ⟨p, q, hA0, hV, rfl, _, _⟩ := hW
  have hA : DataW.TrodAll enc Tryz.prog W 0 (fun _ => true) true Tryz.f5.params.toList args.toList ds p := hA0
  rw [Tryz.params5] at hA hval
  obtain ⟨rfl, rfl⟩ := trodVars_none hV
  obtain ⟨hlen, x, hcr, hw⟩ := open_tup (d := 20) (cs := cs_LookTells) (ts := [31, 2]) (by kernel_rfl) (fun j t v ht hv => hval j t v (by rw [← List.getElem?_toArray] at ht; exact ht) (by simpa using hv)) hA
  have hcr : CR (memOf W) RR.nul (tupA cs_LookTells x) args := hcr
  refine (calls_of_sim (law x hw) (glob_of_tabs (tabs_of_laid hL)) hcr).mono fun e W' ⟨he, hb⟩ => ?_
  match ds, hlen, hW' with
  | [d0, d1], _, hW' => exact ⟨_, he, post_true (t := 4) laidOut (by kernel_rfl) rfl Tryz.underlying4 rfl hW' rfl hb⟩
theorem lookTells_holds (law : ∀ x : Tup cs_LookTells, tupW cs_LookTells x → Sim Tryz.prog 5 (tupA cs_LookTells x) [] (.bool true) []) : Rows.LookTellsSaid :=
  OpenClaim.holds_of_wide 5 Tryz.f5 rfl rfl rfl rfl rfl rfl rfl ⟨rfl, rfl, rfl, rfl, rfl⟩ rfl rfl rfl rfl rfl (by kernel_rfl) Tryz.func5 (by kernel_rfl)
    (of_decide_eq_true (by kernel_rfl)) (by unfold Func.isWrapper; first | (rw [if_pos (by decide +kernel)]; kernel_rfl) | (rw [if_neg (by decide +kernel)]; exact ⟨rfl, rfl⟩))
    (fun os started H enc _ => lookTells_lifted law os started H enc)
theorem lookTells_card (law : ∀ x : Tup cs_LookTells, tupW cs_LookTells x → Sim Tryz.prog 5 (tupA cs_LookTells x) [] (.bool true) []) : Rows.LookTellsCardSaid :=
  Claim7.holds_tied_plain_at .later [] [.data, .pinned] true (true, "216e7fd7c61938c5b71baf1bb119e31be8d4848418d7a2f7cdc8f13c6363f293") true
    (lookTells_holds law) (fun _ h => by cases h) (by kernel_rfl) (fun _ h => by cases h) lookTells_row_tie rfl ⟨rfl, rfl⟩ (by kernel_rfl) rfl
    (fun f fn hf hfn => by
      obtain rfl : f = 5 := Option.some.inj ((show Tryz.prog.funcNamed "horologe/horologelaw22.LookTells" = some 5 by kernel_rfl).symm.trans hf) |>.symm
      obtain rfl : fn = Tryz.f5 := (Option.some.inj (Tryz.func5.symm.trans hfn)).symm
      exact ⟨by kernel_rfl, fun j t ht => by
        rw [Tryz.params5] at ht
        have hm : t ∈ [31, 2] := by simpa using Array.mem_of_getElem? ht
        have hall : ([31, 2].all fun u => !Tryz.prog.wantsStandIn u) = true := by kernel_rfl
        exact (show Tryz.prog.wantsStandIn t = false by simpa using List.all_eq_true.1 hall t hm)⟩)
    (by kernel_rfl)
end Go.Proofs.YtllddkbfeienhaaGreatDoor
namespace Go.Proofs.YtllddkbfeienhaaGreatDoor
open Go.Sm Go.Proofs
theorem lookTells : Rows.LookTellsCardSaid := lookTells_card fun ⟨z, t⟩ hw => sim_true so_lawLookTells (x := (z, t)) rfl (lawLookTells z t (Nat.le_trans hw.1.2.2.1.1 (by decide)) (fun t ht => wf_i64 (hw.1.1.2 t ht)) (wf_i64 hw.2))
end Go.Proofs.YtllddkbfeienhaaGreatDoor
