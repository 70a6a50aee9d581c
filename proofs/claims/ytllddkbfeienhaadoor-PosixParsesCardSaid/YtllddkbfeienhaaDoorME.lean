/- What all rows of this seat share at their end: the laid tables, the witness's world. No condition. -/
import Derived.Test.YtllddkbfeienhaaDoorMC
import Derived.Test.YtllddkbfeienhaaDoorRows
import Derived.Test.YtllddkbfeienhaaDoorTie
import Derived.Test.YtllddkbfeienhaaDoorCards
import Derived.PinnedBridge
import Derived.Lay
import Derived.Stop.Joined
namespace Go.Proofs.YtllddkbfeienhaaDoor
open Go.Sm Go.ChangeShapes Go.WideShapes Go.ChangeAt Go.RowKit Go.Proofs
set_option maxRecDepth 100000
theorem own : ownKnob Tryd.prog.godebug = none := by kernel_rfl
theorem laidOut : laidOutB Tryd.prog = true := by kernel_rfl
abbrev laid2 : List (String × DataW Unit) := [("unicode/utf8.acceptRanges", Rows.laid_unicode_utf8_acceptRanges), ("unicode/utf8.first", Rows.laid_unicode_utf8_first)]
theorem door_met (os : Os) (args : Array Value) : laidMetH Tryd.prog laid2 ((World.laidAll Tryd.prog os laid2).forCall (fun _ _ => 0) ⟨#[], args, []⟩).memory := by
  rw [MakeChecks.laidMetH_plain _ _ _ (by kernel_rfl)]
  exact laidMet_laidAll _ (by kernel_rfl) (by kernel_rfl)
theorem door_shaped (os : Os) : (World.laidAll Tryd.prog os laid2).Shaped Tryd.prog := World.shaped_of_ZipB (by kernel_rfl) (by kernel_rfl)
abbrev ρ8 : Go.Shelf.Ren := ⟨fun x => x, fun x => if x = 119 then 226 else if x = 138 then 228 else if x = 139 then 229 else x, fun x => if x = 3 then 1 else if x = 4 then 2 else x⟩
theorem types8 : U8Types Tryd.prog ρ8 := ⟨by kernel_rfl, by kernel_rfl, by kernel_rfl, by kernel_rfl⟩
theorem extra8 : U8Extra Tryd.prog ρ8 := ⟨by kernel_rfl, by kernel_rfl, by kernel_rfl, by kernel_rfl, by kernel_rfl, by kernel_rfl, by kernel_rfl⟩
theorem tabs_of_laid {W : World} (h : laidMetH Tryd.prog laid2 W) : Lib.Utf8Tabs 1 2 W := by
  rw [MakeChecks.laidMetH_plain _ _ _ (by kernel_rfl)] at h
  refine utf8Tabs_of_readsT types8 extra8 (Lib.laidMet.reads h ?_) (Lib.laidMet.reads h ?_)
  · rw [← Pinned.utf8First_eq]
    exact List.mem_cons_of_mem _ (List.mem_cons_self ..)
  · have : Lib.acceptData = Rows.laid_unicode_utf8_acceptRanges := by kernel_rfl
    rw [this]
    exact List.mem_cons_self ..
end Go.Proofs.YtllddkbfeienhaaDoor
