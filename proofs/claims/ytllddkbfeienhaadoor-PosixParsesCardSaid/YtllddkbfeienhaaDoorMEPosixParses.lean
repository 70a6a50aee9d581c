/- PosixParses: from the contract to the card. -/
import Derived.Test.YtllddkbfeienhaaDoorME
namespace Go.Proofs.YtllddkbfeienhaaDoor
open Go.Sm Go.ChangeShapes Go.WideShapes Go.ChangeAt Go.RowKit Go.Proofs
open Go.ChangeMaps (open_string)
set_option maxRecDepth 100000
theorem pp_lifted (law : ∀ s : List UInt8, Sim Tryd.prog 3 [.str s] [] (.bool true) []) (os : Os) (started : os.Started) (H : Type) (enc : TypeId × Value → H) :
    ReturnsInHanded {} Tryd.checked os 3 .any (fun w args => (Rows.posixParsesSpec.pre enc Tryd.prog Tryd.f3 Rows.posixParsesRow.domain false w args ∧ laidMetH Tryd.prog laid2 w) ∧ sizedMet enc Tryd.prog Tryd.f3 (OpenSpec.ofChange Rows.posixParsesSpec) false w args)
      (Rows.posixParsesSpec.post enc Tryd.prog Tryd.f3 false true false false) := by
  refine returnsInHanded_of_change_and (C := Tryd.checked) (X := fun w _ => laidMetH Tryd.prog laid2 w) (fun _ _ _ hh h => h.of_heap hh) own started (by kernel_rfl) Tryd.func3
    (ChangeSpec.witness_shaped (enc := enc) (C := Tryd.checked) (os := os) (X := fun w _ => laidMetH Tryd.prog laid2 w) false (World.laidAll Tryd.prog os laid2) #[.string ⟨#[]⟩] 8 (World.laidAll_os _ _ _)
      (door_shaped os) (by kernel_rfl) (by kernel_rfl) (by kernel_rfl) (door_met os _)) ?_
  intro W base args ds gs before hval0 hW hc _ hL _
  have hval : ∀ (j : Nat) t v, Tryd.f3.params[j]? = some t → args[j]? = some v → Value.okWide Tryd.prog W .any base t v := hval0
  have hW' := hW
  obtain ⟨p, q, hA0, hV, rfl, _, _⟩ := hW
  have hA : DataW.TrodAll enc Tryd.prog W 0 (fun _ => true) true Tryd.f3.params.toList args.toList ds p := hA0
  rw [Tryd.params3] at hA hval
  obtain ⟨v0, d0, rfl, rfl, h0⟩ := trodAll_one hA
  obtain ⟨rfl, rfl⟩ := trodVars_none hV
  obtain ⟨s, rfl, rfl, rfl, hs⟩ := open_string Tryd.underlying9 (hval 0 9 v0 rfl rfl) h0
  refine (calls_of_sim (law s.data.toList) (glob_of_tabs (tabs_of_laid hL)) (vs := #[.string s]) ⟨rfl, fun i x v hx hv => ?_⟩).mono fun e W' ⟨he, hb⟩ => ?_
  · match i, hx, hv with
    | 0, hx, hv =>
      obtain rfl := Option.some.inj hx
      obtain rfl := Option.some.inj hv
      exact .str rfl
  · exact ⟨_, he, post_true (t := 4) laidOut (by kernel_rfl) rfl Tryd.underlying4 rfl hW' rfl hb⟩
theorem pp_holds (law : ∀ s : List UInt8, Sim Tryd.prog 3 [.str s] [] (.bool true) []) : Rows.PosixParsesSaid :=
  OpenClaim.holds_of_wide 3 Tryd.f3 rfl rfl rfl rfl rfl rfl rfl ⟨rfl, rfl, rfl, rfl, rfl⟩ rfl rfl rfl rfl rfl (by kernel_rfl) Tryd.func3 (by kernel_rfl)
    (of_decide_eq_true (by kernel_rfl)) (by unfold Func.isWrapper; first | (rw [if_pos (by decide +kernel)]; kernel_rfl) | (rw [if_neg (by decide +kernel)]; exact ⟨rfl, rfl⟩))
    (fun os started H enc _ => pp_lifted law os started H enc)
theorem pp_card (law : ∀ s : List UInt8, Sim Tryd.prog 3 [.str s] [] (.bool true) []) : Rows.PosixParsesCardSaid :=
  Claim7.holds_tied_plain_at .later [] [.data, .pinned] true (true, "aa26bc6556dbd73fcc126498c2d0fc0c0664bbdaea4c17de43a1ba369324e920") true
    (pp_holds law) (fun _ h => by cases h) (by kernel_rfl) (fun _ h => by cases h) posixParses_row_tie rfl ⟨rfl, rfl⟩ (by kernel_rfl) rfl
    (fun f fn hf hfn => by
      obtain rfl : f = 3 := Option.some.inj ((show Tryd.prog.funcNamed "horologe/horologelaw17.PosixParses" = some 3 by kernel_rfl).symm.trans hf) |>.symm
      obtain rfl : fn = Tryd.f3 := (Option.some.inj (Tryd.func3.symm.trans hfn)).symm
      exact ⟨by kernel_rfl, fun j t ht => by
        rw [Tryd.params3] at ht
        have hm : t ∈ [9] := by simpa using Array.mem_of_getElem? ht
        have hall : ([9].all fun u => !Tryd.prog.wantsStandIn u) = true := by kernel_rfl
        exact (show Tryd.prog.wantsStandIn t = false by simpa using List.all_eq_true.1 hall t hm)⟩)
    (by kernel_rfl)
end Go.Proofs.YtllddkbfeienhaaDoor
