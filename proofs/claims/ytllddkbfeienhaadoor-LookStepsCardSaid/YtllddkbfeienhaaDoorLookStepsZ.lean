/- LookSteps: for every zone that is looked at and every second within 2^50: if there is a clock of the zone, it stands from a second to the next one as it stood but at a turn, turns lie behind the second, and up to the next turn nothing changes; longer zones and seconds beyond aren't looked at. It holds for all zones and seconds, on every machine that has started. -/
import Derived.Test.YtllddkbfeienhaaDoorLookSteps1
import Derived.Test.YtllddkbfeienhaaDoorRows
import Derived.Test.YtllddkbfeienhaaDoorTie
import Derived.Test.YtllddkbfeienhaaDoorCards
import Derived.PinnedBridge
import Derived.Lay
import Derived.Stop.Joined
import Derived.Test.YtllddkbfeienhaaDoorLookSteps3
/- What all rows of this seat share at their end: the laid tables, the witness's world. No condition. -/
namespace Go.Proofs.YtllddkbfeienhaaDoor
open Go.Sm Go.ChangeShapes Go.WideShapes Go.ChangeAt Go.RowKit Go.Proofs
set_option maxRecDepth 100000
theorem own : ownKnob Tryd.prog.godebug = none := by kernel_rfl
theorem laidOut : laidOutB Tryd.prog = true := by kernel_rfl
abbrev laid2 : List (String × DataW Unit) := [("unicode/utf8.acceptRanges", Rows.laid_unicode_utf8_acceptRanges), ("unicode/utf8.first", Rows.laid_unicode_utf8_first)]
theorem door_met (os : Os) (args : Array Value) : laidMetH Tryd.prog laid2 ((World.laidAll Tryd.prog os laid2).forCall (fun _ _ => 0) ⟨#[], args, []⟩).memory := by
  rw [MakeChecks.laidMetH_plain _ _ _ (by kernel_rfl)]
  exact laidMet_laidAll _ (by kernel_rfl) (by kernel_rfl)
theorem door_shaped (os : Os) : (World.laidAll Tryd.prog os laid2).Shaped Tryd.prog := World.shaped_of_ZipB (by kernel_rfl) (by kernel_rfl)
abbrev ρ8 : Go.Shelf.Ren := ⟨fun x => x, fun x => if x = 119 then 226 else if x = 138 then 228 else if x = 139 then 229 else x, fun x => if x = 3 then 1 else if x = 4 then 2 else x⟩
theorem types8 : U8Types Tryd.prog ρ8 := ⟨by kernel_rfl, by kernel_rfl, by kernel_rfl, by kernel_rfl⟩
theorem extra8 : U8Extra Tryd.prog ρ8 := ⟨by kernel_rfl, by kernel_rfl, by kernel_rfl, by kernel_rfl, by kernel_rfl, by kernel_rfl, by kernel_rfl⟩
theorem tabs_of_laid {W : World} (h : laidMetH Tryd.prog laid2 W) : Lib.Utf8Tabs 1 2 W := by
  rw [MakeChecks.laidMetH_plain _ _ _ (by kernel_rfl)] at h
  refine utf8Tabs_of_readsT types8 extra8 (Lib.laidMet.reads h ?_) (Lib.laidMet.reads h ?_)
  · rw [← Pinned.utf8First_eq]
    exact List.mem_cons_of_mem _ (List.mem_cons_self ..)
  · have : Lib.acceptData = Rows.laid_unicode_utf8_acceptRanges := by kernel_rfl
    rw [this]
    exact List.mem_cons_self ..
end Go.Proofs.YtllddkbfeienhaaDoor
/- LookSteps: from the contract to the card. -/
namespace Go.Proofs.YtllddkbfeienhaaDoor
open Go.Sm Go.ChangeShapes Go.WideShapes Go.ChangeAt Go.RowKit Go.Proofs
set_option maxRecDepth 100000
abbrev cs_LookSteps : List Cd := [(.pair (.lst (.int .i64)) (.pair (.lst (.int .i64)) (.pair (.lst (.pair (.int .i64) (.pair .bool .str))) (.pair (.lst (.pair (.int .i64) (.int .i64))) (.pair .bool (.pair .str (.pair .str (.pair (.int .i64) (.pair (.int .i64) (.pair (.pair (.int .i64) (.pair (.int .i64) (.pair (.int .i64) (.pair (.int .i64) (.int .i64))))) (.pair (.int .i64) (.pair (.int .i64) (.pair (.int .i64) (.pair (.int .i64) (.int .i64))))))))))))))), (.int .i64)]
theorem lookSteps_lifted (law : ∀ x : Tup cs_LookSteps, tupW cs_LookSteps x → Sim Tryd.prog 5 (tupA cs_LookSteps x) [] (.bool true) []) (os : Os) (started : os.Started) (H : Type) (enc : TypeId × Value → H) :
    ReturnsInHanded {} Tryd.checked os 5 .any (fun w args => (Rows.lookStepsSpec.pre enc Tryd.prog Tryd.f5 Rows.lookStepsRow.domain false w args ∧ laidMetH Tryd.prog laid2 w) ∧ sizedMet enc Tryd.prog Tryd.f5 (OpenSpec.ofChange Rows.lookStepsSpec) false w args)
      (Rows.lookStepsSpec.post enc Tryd.prog Tryd.f5 false true false false) := by
  refine returnsInHanded_of_change_and (C := Tryd.checked) (X := fun w _ => laidMetH Tryd.prog laid2 w) (fun _ _ _ hh h => h.of_heap hh) own started (by kernel_rfl) Tryd.func5
    (ChangeSpec.witness_shaped (enc := enc) (C := Tryd.checked) (os := os) (X := fun w _ => laidMetH Tryd.prog laid2 w) false (World.laidAll Tryd.prog os laid2) #[.agg #[.slice none 0 0, .slice none 0 0, .slice none 0 0, .slice none 0 0, .bool false, .string ⟨#[]⟩, .string ⟨#[]⟩, .int .i64 0, .int .i64 0, .int .i64 0, .int .i64 0, .int .i64 0, .int .i64 0, .int .i64 0, .int .i64 0, .int .i64 0, .int .i64 0, .int .i64 0, .int .i64 0], .int .i64 0] 8 (World.laidAll_os _ _ _)
      (door_shaped os) (by kernel_rfl) (by kernel_rfl) (by kernel_rfl) (door_met os _)) ?_
  intro W base args ds gs before hval0 hW hc _ hL _
  have hval : ∀ (j : Nat) t v, Tryd.f5.params[j]? = some t → args[j]? = some v → Value.okWide Tryd.prog W .any base t v := hval0
  have hW' := hW
  obtain ⟨p, q, hA0, hV, rfl, _, _⟩ := hW
  have hA : DataW.TrodAll enc Tryd.prog W 0 (fun _ => true) true Tryd.f5.params.toList args.toList ds p := hA0
  rw [Tryd.params5] at hA hval
  obtain ⟨rfl, rfl⟩ := trodVars_none hV
  obtain ⟨hlen, x, hcr, hw⟩ := open_tup (d := 20) (cs := cs_LookSteps) (ts := [44, 2]) (by kernel_rfl) (fun j t v ht hv => hval j t v (by rw [← List.getElem?_toArray] at ht; exact ht) (by simpa using hv)) hA
  have hcr : CR (memOf W) RR.nul (tupA cs_LookSteps x) args := hcr
  refine (calls_of_sim (law x hw) (glob_of_tabs (tabs_of_laid hL)) hcr).mono fun e W' ⟨he, hb⟩ => ?_
  match ds, hlen, hW' with
  | [d0, d1], _, hW' => exact ⟨_, he, post_true (t := 4) laidOut (by kernel_rfl) rfl Tryd.underlying4 rfl hW' rfl hb⟩
theorem lookSteps_holds (law : ∀ x : Tup cs_LookSteps, tupW cs_LookSteps x → Sim Tryd.prog 5 (tupA cs_LookSteps x) [] (.bool true) []) : Rows.LookStepsSaid :=
  OpenClaim.holds_of_wide 5 Tryd.f5 rfl rfl rfl rfl rfl rfl rfl ⟨rfl, rfl, rfl, rfl, rfl⟩ rfl rfl rfl rfl rfl (by kernel_rfl) Tryd.func5 (by kernel_rfl)
    (of_decide_eq_true (by kernel_rfl)) (by unfold Func.isWrapper; first | (rw [if_pos (by decide +kernel)]; kernel_rfl) | (rw [if_neg (by decide +kernel)]; exact ⟨rfl, rfl⟩))
    (fun os started H enc _ => lookSteps_lifted law os started H enc)
theorem lookSteps_card (law : ∀ x : Tup cs_LookSteps, tupW cs_LookSteps x → Sim Tryd.prog 5 (tupA cs_LookSteps x) [] (.bool true) []) : Rows.LookStepsCardSaid :=
  Claim7.holds_tied_plain_at .later [] [.data, .pinned] true (true, "aa26bc6556dbd73fcc126498c2d0fc0c0664bbdaea4c17de43a1ba369324e920") true
    (lookSteps_holds law) (fun _ h => by cases h) (by kernel_rfl) (fun _ h => by cases h) lookSteps_row_tie rfl ⟨rfl, rfl⟩ (by kernel_rfl) rfl
    (fun f fn hf hfn => by
      obtain rfl : f = 5 := Option.some.inj ((show Tryd.prog.funcNamed "horologe/horologelaw22.LookSteps" = some 5 by kernel_rfl).symm.trans hf) |>.symm
      obtain rfl : fn = Tryd.f5 := (Option.some.inj (Tryd.func5.symm.trans hfn)).symm
      exact ⟨by kernel_rfl, fun j t ht => by
        rw [Tryd.params5] at ht
        have hm : t ∈ [44, 2] := by simpa using Array.mem_of_getElem? ht
        have hall : ([44, 2].all fun u => !Tryd.prog.wantsStandIn u) = true := by kernel_rfl
        exact (show Tryd.prog.wantsStandIn t = false by simpa using List.all_eq_true.1 hall t hm)⟩)
    (by kernel_rfl)
end Go.Proofs.YtllddkbfeienhaaDoor
namespace Go.Proofs.YtllddkbfeienhaaDoor
open Go.Sm Go.Proofs
theorem lookSteps : Rows.LookStepsCardSaid := lookSteps_card fun ⟨z, t⟩ hw => sim_true so_lawLookSteps (x := (z, t)) rfl (lawLookSteps z t (Nat.le_trans hw.1.2.2.1.1 (by decide)) (fun t ht => wf_i64 (hw.1.1.2 t ht)))
end Go.Proofs.YtllddkbfeienhaaDoor
