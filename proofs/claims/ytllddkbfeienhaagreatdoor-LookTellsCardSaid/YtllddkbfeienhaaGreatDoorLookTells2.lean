/- The references of days, rules' days and footers; the law FooterTells. No condition. -/
import Derived.Test.YtllddkbfeienhaaGreatDoorLookTells1
set_option linter.unusedVariables false
namespace Go.Sm
open Go.Proofs
/-! ### horologe/horologeref05.Leap -/
noncomputable abbrev ct_r5Leap : List (FuncId × Bool × SpecT) := []
theorem cs_r5Leap : AllSound Tryz.prog ct_r5Leap := trivial
noncomputable def F_r5Leap (x : (Int)) : Option (Bool) := (evalF Tryz.prog (lookT ct_r5Leap) (keepT []) (loopsT []) false false Tryz.f176 (codP [pI]) 1 (codP [pB]) x).run
noncomputable abbrev s_r5Leap : SpecT := specF (codP [pI]) 1 (codP [pB]) F_r5Leap
theorem so_r5Leap : SoundT Tryz.prog 176 s_r5Leap := soundG (P := Tryz.prog) mixed (t := ct_r5Leap) cs_r5Leap (f := 176) (fn := Tryz.f176) Tryz.func176 (by kernel_rfl) (by kernel_rfl) (by kernel_rfl) (ls := []) (by kernel_rfl) (kp := keepT []) (lps := loopsT []) (bump := false) (ice := false) (A := (codP [pI])) (n := 1) (R := (codP [pB])) fun _ => lps_nil

theorem e_r5Leap (y : Int) : F_r5Leap y = (
  bif decide (y.tmod (400 : Int) = (0 : Int)) then some true else bif decide (y.tmod (4 : Int) = (0 : Int)) then some (decide (y.tmod (100 : Int) ≠ (0 : Int))) else some false) := by kernel_rfl


/-! ### horologe/horologeref05.Days -/
noncomputable abbrev ct_r5Days : List (FuncId × Bool × SpecT) := [(176, false, s_r5Leap)]
theorem cs_r5Days : AllSound Tryz.prog ct_r5Days := ⟨so_r5Leap, trivial⟩
noncomputable def F_r5Days (x : (Int)) : Option (Int) := (evalF Tryz.prog (lookT ct_r5Days) (keepT []) (loopsT []) false false Tryz.f133 (codP [pI]) 1 (codP [pI]) x).run
noncomputable abbrev s_r5Days : SpecT := specF (codP [pI]) 1 (codP [pI]) F_r5Days
theorem so_r5Days : SoundT Tryz.prog 133 s_r5Days := soundG (P := Tryz.prog) mixed (t := ct_r5Days) cs_r5Days (f := 133) (fn := Tryz.f133) Tryz.func133 (by kernel_rfl) (by kernel_rfl) (by kernel_rfl) (ls := []) (by kernel_rfl) (kp := keepT []) (lps := loopsT []) (bump := false) (ice := false) (A := (codP [pI])) (n := 1) (R := (codP [pI])) fun _ => lps_nil

theorem e_r5Days (y : Int) : F_r5Days y = (
  (F_r5Leap y).bind fun x1 => bif x1 then some (366 : Int) else some (365 : Int)) := by kernel_rfl


/-! ### horologe/horologeref05.Month -/
noncomputable abbrev ct_r5Month : List (FuncId × Bool × SpecT) := [(176, false, s_r5Leap)]
theorem cs_r5Month : AllSound Tryz.prog ct_r5Month := ⟨so_r5Leap, trivial⟩
noncomputable def F_r5Month (x : (Int × Int)) : Option (Int) := (evalF Tryz.prog (lookT ct_r5Month) (keepT []) (loopsT []) false false Tryz.f134 (codP [pI, pI]) 1 (codP [pI]) x).run
noncomputable abbrev s_r5Month : SpecT := specF (codP [pI, pI]) 1 (codP [pI]) F_r5Month
theorem so_r5Month : SoundT Tryz.prog 134 s_r5Month := soundG (P := Tryz.prog) mixed (t := ct_r5Month) cs_r5Month (f := 134) (fn := Tryz.f134) Tryz.func134 (by kernel_rfl) (by kernel_rfl) (by kernel_rfl) (ls := []) (by kernel_rfl) (kp := keepT []) (lps := loopsT []) (bump := false) (ice := false) (A := (codP [pI, pI])) (n := 1) (R := (codP [pI])) fun _ => lps_nil

theorem e_r5Month (y m : Int) : F_r5Month (y, m) = (
  bif decide (m = (2 : Int)) then
    (F_r5Leap y).bind fun x1 =>
      bif x1 then some (29 : Int)
      else
        bif decide ((0 : Int) ≤ IntKind.i64.wrap (m - (1 : Int)) ∧ IntKind.i64.wrap (m - (1 : Int)) < (12 : Int)) then
          [(31 : Int), (28 : Int), (31 : Int), (30 : Int), (31 : Int), (30 : Int), (31 : Int), (31 : Int), (30 : Int), (31 : Int), (30 : Int), (31 : Int)][(IntKind.i64.wrap (m - (1 : Int))).toNat]?.bind
            fun x2 => some x2
        else none
  else
    bif decide ((0 : Int) ≤ IntKind.i64.wrap (m - (1 : Int)) ∧ IntKind.i64.wrap (m - (1 : Int)) < (12 : Int)) then
      [(31 : Int), (28 : Int), (31 : Int), (30 : Int), (31 : Int), (30 : Int), (31 : Int), (31 : Int), (30 : Int), (31 : Int), (30 : Int), (31 : Int)][(IntKind.i64.wrap (m - (1 : Int))).toNat]?.bind
        fun x1 => some x1
    else none) := by kernel_rfl


/-! ### horologe/horologeref05.Start -/
noncomputable abbrev ct_r5Start : List (FuncId × Bool × SpecT) := [(133, false, s_r5Days)]
theorem cs_r5Start : AllSound Tryz.prog ct_r5Start := ⟨so_r5Days, trivial⟩
-- loop 0 (key 2) exit 0: [0, 3]
-- loop 0 (key 2) exit 3: [0, 3]
-- loop 1 (key 5) exit 0: [0, 3]
-- loop 1 (key 5) exit 5: [0, 3]
-- loop 2 (key 9) exit 0: [0, 3, 4]
-- loop 2 (key 9) exit 7: [3]
abbrev kp_r5Start : Keep := keepT [(2, 0, [(0, none), (3, none)]), (2, 3, [(0, none), (3, none)]), (5, 0, [(0, none), (3, none)]), (5, 5, [(0, none), (3, none)]), (9, 0, [(0, none), (3, none), (4, none)]), (9, 7, [(3, none)])]
noncomputable abbrev b_r5Start_0 : Code := loopAt Tryz.f132 0
noncomputable abbrev b_r5Start_1 : Code := loopAt Tryz.f132 1
noncomputable abbrev b_r5Start_2 : Code := loopAt Tryz.f132 2
noncomputable def sp_r5Start_2 (x : (Int × Int × Int)) : Option ((Int × Int × Int) ⊕ (Int)) := (stepL Tryz.prog (lookT ct_r5Start) kp_r5Start (loopsT []) 0 false b_r5Start_2 (codP [pI, pI, pI]) (exO (.ext 4) (codP [pI])) x).run
noncomputable def w_r5Start_2 : (Int × Int × Int) → Option (Int) := whileO sp_r5Start_2
theorem ew_r5Start_2 (x : (Int × Int × Int)) : w_r5Start_2 x = (sp_r5Start_2 x).bind (Sum.elim w_r5Start_2 some) := whileO_eq _ _
noncomputable abbrev l_r5Start_2 : LT := ltF (codP [pI, pI, pI]) (exO (.ext 4) (codP [pI])) w_r5Start_2
theorem lo_r5Start_2 : LoopOk Tryz.prog Tryz.f132.ntmps kp_r5Start 0 false b_r5Start_2 l_r5Start_2 := loopG mixed cs_r5Start (lps := loopsT []) (by kernel_rfl) (ls := []) (by kernel_rfl) lps_nil
noncomputable def sp_r5Start_1 (x : (Int × Int)) : Option ((Int × Int) ⊕ (Int × Int)) := (stepL Tryz.prog (lookT ct_r5Start) kp_r5Start (loopsT []) 0 false b_r5Start_1 (codP [pI, pI]) (exO (.ext 2) (codP [pI, pI])) x).run
noncomputable def w_r5Start_1 : (Int × Int) → Option (Int × Int) := whileO sp_r5Start_1
theorem ew_r5Start_1 (x : (Int × Int)) : w_r5Start_1 x = (sp_r5Start_1 x).bind (Sum.elim w_r5Start_1 some) := whileO_eq _ _
noncomputable abbrev l_r5Start_1 : LT := ltF (codP [pI, pI]) (exO (.ext 2) (codP [pI, pI])) w_r5Start_1
theorem lo_r5Start_1 : LoopOk Tryz.prog Tryz.f132.ntmps kp_r5Start 0 false b_r5Start_1 l_r5Start_1 := loopG mixed cs_r5Start (lps := loopsT []) (by kernel_rfl) (ls := []) (by kernel_rfl) lps_nil
noncomputable def sp_r5Start_0 (x : (Int × Int)) : Option ((Int × Int) ⊕ (Int × Int)) := (stepL Tryz.prog (lookT ct_r5Start) kp_r5Start (loopsT []) 0 false b_r5Start_0 (codP [pI, pI]) (exO (.ext 0) (codP [pI, pI])) x).run
noncomputable def w_r5Start_0 : (Int × Int) → Option (Int × Int) := whileO sp_r5Start_0
theorem ew_r5Start_0 (x : (Int × Int)) : w_r5Start_0 x = (sp_r5Start_0 x).bind (Sum.elim w_r5Start_0 some) := whileO_eq _ _
noncomputable abbrev l_r5Start_0 : LT := ltF (codP [pI, pI]) (exO (.ext 0) (codP [pI, pI])) w_r5Start_0
theorem lo_r5Start_0 : LoopOk Tryz.prog Tryz.f132.ntmps kp_r5Start 0 false b_r5Start_0 l_r5Start_0 := loopG mixed cs_r5Start (lps := loopsT []) (by kernel_rfl) (ls := []) (by kernel_rfl) lps_nil
noncomputable def F_r5Start (x : (Int)) : Option (Int) := (evalF Tryz.prog (lookT ct_r5Start) (kp_r5Start) (loopsT [(2, l_r5Start_0), (5, l_r5Start_1), (9, l_r5Start_2)]) false false Tryz.f132 (codP [pI]) 1 (codP [pI]) x).run
noncomputable abbrev s_r5Start : SpecT := specF (codP [pI]) 1 (codP [pI]) F_r5Start
theorem so_r5Start : SoundT Tryz.prog 132 s_r5Start := soundG (P := Tryz.prog) mixed (t := ct_r5Start) cs_r5Start (f := 132) (fn := Tryz.f132) Tryz.func132 (by kernel_rfl) (by kernel_rfl) (by kernel_rfl) (ls := [b_r5Start_0, b_r5Start_1, b_r5Start_2]) (by kernel_rfl) (kp := kp_r5Start) (lps := loopsT [(2, l_r5Start_0), (5, l_r5Start_1), (9, l_r5Start_2)]) (bump := false) (ice := false) (A := (codP [pI])) (n := 1) (R := (codP [pI])) fun _ => (lps_cons l_r5Start_0 (by kernel_rfl) lo_r5Start_0 (lps_cons l_r5Start_1 (by kernel_rfl) lo_r5Start_1 (lps_cons l_r5Start_2 (by kernel_rfl) lo_r5Start_2 lps_nil)))

theorem es_r5Start_0 (y n : Int) : sp_r5Start_0 (y, n) = (
  bif decide (y < (1970 : Int)) then some (Sum.inl (IntKind.i64.wrap (y + (400 : Int)), IntKind.i64.wrap (n - (146097 : Int)))) else some (Sum.inr (y, n))) := by kernel_rfl

theorem es_r5Start_1 (y n : Int) : sp_r5Start_1 (y, n) = (
  bif decide ((2370 : Int) ≤ y) then some (Sum.inl (IntKind.i64.wrap (y - (400 : Int)), IntKind.i64.wrap (n + (146097 : Int)))) else some (Sum.inr (y, n))) := by kernel_rfl

theorem es_r5Start_2 (y n x : Int) : sp_r5Start_2 (y, n, x) = (
  bif decide (x < y) then (F_r5Days x).bind fun x1 => some (Sum.inl (y, IntKind.i64.wrap (n + x1), IntKind.i64.wrap (x + (1 : Int)))) else some (Sum.inr n)) := by kernel_rfl

theorem e_r5Start (y : Int) : F_r5Start y = (
  (w_r5Start_0 (y, (0 : Int))).bind fun x1 => (w_r5Start_1 x1).bind fun x2 => (w_r5Start_2 (x2.fst, x2.snd, (1970 : Int))).bind fun x3 => some x3) := by kernel_rfl


/-! ### horologe/horologeref05.First -/
noncomputable abbrev ct_r5First : List (FuncId × Bool × SpecT) := [(132, false, s_r5Start)]
theorem cs_r5First : AllSound Tryz.prog ct_r5First := ⟨so_r5Start, trivial⟩
noncomputable def F_r5First (x : Unit) : Option (Int) := (evalF Tryz.prog (lookT ct_r5First) (keepT []) (loopsT []) false false Tryz.f84 (codP []) 1 (codP [pI]) x).run
noncomputable abbrev s_r5First : SpecT := specF (codP []) 1 (codP [pI]) F_r5First
theorem so_r5First : SoundT Tryz.prog 84 s_r5First := soundG (P := Tryz.prog) mixed (t := ct_r5First) cs_r5First (f := 84) (fn := Tryz.f84) Tryz.func84 (by kernel_rfl) (by kernel_rfl) (by kernel_rfl) (ls := []) (by kernel_rfl) (kp := keepT []) (lps := loopsT []) (bump := false) (ice := false) (A := (codP [])) (n := 1) (R := (codP [pI])) fun _ => lps_nil

theorem e_r5First  : F_r5First () = (
  (F_r5Start (-9999 : Int)).bind fun x1 => some x1) := by kernel_rfl


/-! ### horologe/horologeref05.Last -/
noncomputable abbrev ct_r5Last : List (FuncId × Bool × SpecT) := [(132, false, s_r5Start)]
theorem cs_r5Last : AllSound Tryz.prog ct_r5Last := ⟨so_r5Start, trivial⟩
noncomputable def F_r5Last (x : Unit) : Option (Int) := (evalF Tryz.prog (lookT ct_r5Last) (keepT []) (loopsT []) false false Tryz.f85 (codP []) 1 (codP [pI]) x).run
noncomputable abbrev s_r5Last : SpecT := specF (codP []) 1 (codP [pI]) F_r5Last
theorem so_r5Last : SoundT Tryz.prog 85 s_r5Last := soundG (P := Tryz.prog) mixed (t := ct_r5Last) cs_r5Last (f := 85) (fn := Tryz.f85) Tryz.func85 (by kernel_rfl) (by kernel_rfl) (by kernel_rfl) (ls := []) (by kernel_rfl) (kp := keepT []) (lps := loopsT []) (bump := false) (ice := false) (A := (codP [])) (n := 1) (R := (codP [pI])) fun _ => lps_nil

theorem e_r5Last  : F_r5Last () = (
  (F_r5Start (10000 : Int)).bind fun x1 => some (IntKind.i64.wrap (x1 - (1 : Int)))) := by kernel_rfl


/-! ### horologe/horologeref05.Of -/
noncomputable abbrev ct_r5Of : List (FuncId × Bool × SpecT) := [(132, false, s_r5Start), (134, false, s_r5Month)]
theorem cs_r5Of : AllSound Tryz.prog ct_r5Of := ⟨so_r5Start, so_r5Month, trivial⟩
-- loop 0 (key 3) exit 0: [0, 1, 7, 8]
-- loop 0 (key 3) exit 3: [7]
abbrev kp_r5Of : Keep := keepT [(3, 0, [(0, none), (1, none), (7, none), (8, none)]), (3, 3, [(7, none)])]
noncomputable abbrev b_r5Of_0 : Code := loopAt Tryz.f177 0
noncomputable def sp_r5Of_0 (x : (Int × Int × Int × Int)) : Option ((Int × Int × Int × Int) ⊕ (Int)) := (stepL Tryz.prog (lookT ct_r5Of) kp_r5Of (loopsT []) 0 false b_r5Of_0 (codP [pI, pI, pI, pI]) (exO (.ext 0) (codP [pI])) x).run
noncomputable def w_r5Of_0 : (Int × Int × Int × Int) → Option (Int) := whileO sp_r5Of_0
theorem ew_r5Of_0 (x : (Int × Int × Int × Int)) : w_r5Of_0 x = (sp_r5Of_0 x).bind (Sum.elim w_r5Of_0 some) := whileO_eq _ _
noncomputable abbrev l_r5Of_0 : LT := ltF (codP [pI, pI, pI, pI]) (exO (.ext 0) (codP [pI])) w_r5Of_0
theorem lo_r5Of_0 : LoopOk Tryz.prog Tryz.f177.ntmps kp_r5Of 0 false b_r5Of_0 l_r5Of_0 := loopG mixed cs_r5Of (lps := loopsT []) (by kernel_rfl) (ls := []) (by kernel_rfl) lps_nil
noncomputable def F_r5Of (x : (Int × Int × Int)) : Option (Int) := (evalF Tryz.prog (lookT ct_r5Of) (kp_r5Of) (loopsT [(3, l_r5Of_0)]) false false Tryz.f177 (codP [pI, pI, pI]) 1 (codP [pI]) x).run
noncomputable abbrev s_r5Of : SpecT := specF (codP [pI, pI, pI]) 1 (codP [pI]) F_r5Of
theorem so_r5Of : SoundT Tryz.prog 177 s_r5Of := soundG (P := Tryz.prog) mixed (t := ct_r5Of) cs_r5Of (f := 177) (fn := Tryz.f177) Tryz.func177 (by kernel_rfl) (by kernel_rfl) (by kernel_rfl) (ls := [b_r5Of_0]) (by kernel_rfl) (kp := kp_r5Of) (lps := loopsT [(3, l_r5Of_0)]) (bump := false) (ice := false) (A := (codP [pI, pI, pI])) (n := 1) (R := (codP [pI])) fun _ => (lps_cons l_r5Of_0 (by kernel_rfl) lo_r5Of_0 lps_nil)

theorem es_r5Of_0 (y m n x : Int) : sp_r5Of_0 (y, m, n, x) = (
  bif decide (x < m) then (F_r5Month (y, x)).bind fun x1 => some (Sum.inl (y, m, IntKind.i64.wrap (n + x1), IntKind.i64.wrap (x + (1 : Int)))) else some (Sum.inr n)) := by kernel_rfl

theorem e_r5Of (y m d : Int) : F_r5Of (y, m, d) = (
  (F_r5Start y).bind fun x1 => (w_r5Of_0 (y, m, IntKind.i64.wrap (IntKind.i64.wrap (x1 + d) - (1 : Int)), (1 : Int))).bind fun x2 => some x2) := by kernel_rfl


/-! ### horologe/horologeref05.Date -/
noncomputable abbrev ct_r5Date : List (FuncId × Bool × SpecT) := [(133, false, s_r5Days), (134, false, s_r5Month)]
theorem cs_r5Date : AllSound Tryz.prog ct_r5Date := ⟨so_r5Days, so_r5Month, trivial⟩
-- loop 0 (key 2) exit 0: [0, 5]
-- loop 0 (key 2) exit 3: [0, 5]
-- loop 1 (key 5) exit 0: [0, 5]
-- loop 1 (key 5) exit 5: [0, 5]
-- loop 2 (key 8) exit 0: [0, 5]
-- loop 2 (key 8) exit 7: [0, 5]
-- loop 3 (key 12) exit 0: [0, 5, 6]
-- loop 3 (key 12) exit 9: [0, 5, 6]
abbrev kp_r5Date : Keep := keepT [(2, 0, [(0, none), (5, none)]), (2, 3, [(0, none), (5, none)]), (5, 0, [(0, none), (5, none)]), (5, 5, [(0, none), (5, none)]), (8, 0, [(0, none), (5, none)]), (8, 7, [(0, none), (5, none)]), (12, 0, [(0, none), (5, none), (6, none)]), (12, 9, [(0, none), (5, none), (6, none)])]
noncomputable abbrev b_r5Date_0 : Code := loopAt Tryz.f86 0
noncomputable abbrev b_r5Date_1 : Code := loopAt Tryz.f86 1
noncomputable abbrev b_r5Date_2 : Code := loopAt Tryz.f86 2
noncomputable abbrev b_r5Date_3 : Code := loopAt Tryz.f86 3
noncomputable def sp_r5Date_3 (x : (Int × Int × Int)) : Option ((Int × Int × Int) ⊕ (Int × Int × Int)) := (stepL Tryz.prog (lookT ct_r5Date) kp_r5Date (loopsT []) 0 false b_r5Date_3 (codP [pI, pI, pI]) (exO (.ext 6) (codP [pI, pI, pI])) x).run
noncomputable def w_r5Date_3 : (Int × Int × Int) → Option (Int × Int × Int) := whileO sp_r5Date_3
theorem ew_r5Date_3 (x : (Int × Int × Int)) : w_r5Date_3 x = (sp_r5Date_3 x).bind (Sum.elim w_r5Date_3 some) := whileO_eq _ _
noncomputable abbrev l_r5Date_3 : LT := ltF (codP [pI, pI, pI]) (exO (.ext 6) (codP [pI, pI, pI])) w_r5Date_3
theorem lo_r5Date_3 : LoopOk Tryz.prog Tryz.f86.ntmps kp_r5Date 0 false b_r5Date_3 l_r5Date_3 := loopG mixed cs_r5Date (lps := loopsT []) (by kernel_rfl) (ls := []) (by kernel_rfl) lps_nil
noncomputable def sp_r5Date_2 (x : (Int × Int)) : Option ((Int × Int) ⊕ (Int × Int)) := (stepL Tryz.prog (lookT ct_r5Date) kp_r5Date (loopsT []) 0 false b_r5Date_2 (codP [pI, pI]) (exO (.ext 4) (codP [pI, pI])) x).run
noncomputable def w_r5Date_2 : (Int × Int) → Option (Int × Int) := whileO sp_r5Date_2
theorem ew_r5Date_2 (x : (Int × Int)) : w_r5Date_2 x = (sp_r5Date_2 x).bind (Sum.elim w_r5Date_2 some) := whileO_eq _ _
noncomputable abbrev l_r5Date_2 : LT := ltF (codP [pI, pI]) (exO (.ext 4) (codP [pI, pI])) w_r5Date_2
theorem lo_r5Date_2 : LoopOk Tryz.prog Tryz.f86.ntmps kp_r5Date 0 false b_r5Date_2 l_r5Date_2 := loopG mixed cs_r5Date (lps := loopsT []) (by kernel_rfl) (ls := []) (by kernel_rfl) lps_nil
noncomputable def sp_r5Date_1 (x : (Int × Int)) : Option ((Int × Int) ⊕ (Int × Int)) := (stepL Tryz.prog (lookT ct_r5Date) kp_r5Date (loopsT []) 0 false b_r5Date_1 (codP [pI, pI]) (exO (.ext 2) (codP [pI, pI])) x).run
noncomputable def w_r5Date_1 : (Int × Int) → Option (Int × Int) := whileO sp_r5Date_1
theorem ew_r5Date_1 (x : (Int × Int)) : w_r5Date_1 x = (sp_r5Date_1 x).bind (Sum.elim w_r5Date_1 some) := whileO_eq _ _
noncomputable abbrev l_r5Date_1 : LT := ltF (codP [pI, pI]) (exO (.ext 2) (codP [pI, pI])) w_r5Date_1
theorem lo_r5Date_1 : LoopOk Tryz.prog Tryz.f86.ntmps kp_r5Date 0 false b_r5Date_1 l_r5Date_1 := loopG mixed cs_r5Date (lps := loopsT []) (by kernel_rfl) (ls := []) (by kernel_rfl) lps_nil
noncomputable def sp_r5Date_0 (x : (Int × Int)) : Option ((Int × Int) ⊕ (Int × Int)) := (stepL Tryz.prog (lookT ct_r5Date) kp_r5Date (loopsT []) 0 false b_r5Date_0 (codP [pI, pI]) (exO (.ext 0) (codP [pI, pI])) x).run
noncomputable def w_r5Date_0 : (Int × Int) → Option (Int × Int) := whileO sp_r5Date_0
theorem ew_r5Date_0 (x : (Int × Int)) : w_r5Date_0 x = (sp_r5Date_0 x).bind (Sum.elim w_r5Date_0 some) := whileO_eq _ _
noncomputable abbrev l_r5Date_0 : LT := ltF (codP [pI, pI]) (exO (.ext 0) (codP [pI, pI])) w_r5Date_0
theorem lo_r5Date_0 : LoopOk Tryz.prog Tryz.f86.ntmps kp_r5Date 0 false b_r5Date_0 l_r5Date_0 := loopG mixed cs_r5Date (lps := loopsT []) (by kernel_rfl) (ls := []) (by kernel_rfl) lps_nil
noncomputable def F_r5Date (x : (Int)) : Option (Int × Int × Int) := (evalF Tryz.prog (lookT ct_r5Date) (kp_r5Date) (loopsT [(2, l_r5Date_0), (5, l_r5Date_1), (8, l_r5Date_2), (12, l_r5Date_3)]) false false Tryz.f86 (codP [pI]) 3 (codP [pI, pI, pI]) x).run
noncomputable abbrev s_r5Date : SpecT := specF (codP [pI]) 3 (codP [pI, pI, pI]) F_r5Date
theorem so_r5Date : SoundT Tryz.prog 86 s_r5Date := soundG (P := Tryz.prog) mixed (t := ct_r5Date) cs_r5Date (f := 86) (fn := Tryz.f86) Tryz.func86 (by kernel_rfl) (by kernel_rfl) (by kernel_rfl) (ls := [b_r5Date_0, b_r5Date_1, b_r5Date_2, b_r5Date_3]) (by kernel_rfl) (kp := kp_r5Date) (lps := loopsT [(2, l_r5Date_0), (5, l_r5Date_1), (8, l_r5Date_2), (12, l_r5Date_3)]) (bump := false) (ice := false) (A := (codP [pI])) (n := 3) (R := (codP [pI, pI, pI])) fun _ => (lps_cons l_r5Date_0 (by kernel_rfl) lo_r5Date_0 (lps_cons l_r5Date_1 (by kernel_rfl) lo_r5Date_1 (lps_cons l_r5Date_2 (by kernel_rfl) lo_r5Date_2 (lps_cons l_r5Date_3 (by kernel_rfl) lo_r5Date_3 lps_nil))))

theorem es_r5Date_0 (n y : Int) : sp_r5Date_0 (n, y) = (
  bif decide (n < (0 : Int)) then some (Sum.inl (IntKind.i64.wrap (n + (146097 : Int)), IntKind.i64.wrap (y - (400 : Int)))) else some (Sum.inr (n, y))) := by kernel_rfl

theorem es_r5Date_1 (n y : Int) : sp_r5Date_1 (n, y) = (
  bif decide ((146097 : Int) ≤ n) then some (Sum.inl (IntKind.i64.wrap (n - (146097 : Int)), IntKind.i64.wrap (y + (400 : Int)))) else some (Sum.inr (n, y))) := by kernel_rfl

theorem es_r5Date_2 (n y : Int) : sp_r5Date_2 (n, y) = (
  (F_r5Days y).bind fun x1 => bif decide (x1 ≤ n) then (F_r5Days y).bind fun x2 => some (Sum.inl (IntKind.i64.wrap (n - x2), IntKind.i64.wrap (y + (1 : Int)))) else some (Sum.inr (n, y))) := by kernel_rfl

theorem es_r5Date_3 (n y m : Int) : sp_r5Date_3 (n, y, m) = (
  (F_r5Month (y, m)).bind fun x1 =>
    bif decide (x1 ≤ n) then (F_r5Month (y, m)).bind fun x2 => some (Sum.inl (IntKind.i64.wrap (n - x2), y, IntKind.i64.wrap (m + (1 : Int)))) else some (Sum.inr (n, y, m))) := by kernel_rfl

theorem e_r5Date (n : Int) : F_r5Date n = (
  (w_r5Date_0 (n, (1970 : Int))).bind fun x1 =>
    (w_r5Date_1 x1).bind fun x2 => (w_r5Date_2 x2).bind fun x3 => (w_r5Date_3 (x3.fst, x3.snd, (1 : Int))).bind fun x4 => some (x4.snd.fst, x4.snd.snd, IntKind.i64.wrap (x4.fst + (1 : Int)))) := by kernel_rfl


/-! ### horologe/horologeref05.Weekday -/
noncomputable abbrev ct_r5Weekday : List (FuncId × Bool × SpecT) := []
theorem cs_r5Weekday : AllSound Tryz.prog ct_r5Weekday := trivial
noncomputable def F_r5Weekday (x : (Int)) : Option (Int) := (evalF Tryz.prog (lookT ct_r5Weekday) (keepT []) (loopsT []) false false Tryz.f178 (codP [pI]) 1 (codP [pI]) x).run
noncomputable abbrev s_r5Weekday : SpecT := specF (codP [pI]) 1 (codP [pI]) F_r5Weekday
theorem so_r5Weekday : SoundT Tryz.prog 178 s_r5Weekday := soundG (P := Tryz.prog) mixed (t := ct_r5Weekday) cs_r5Weekday (f := 178) (fn := Tryz.f178) Tryz.func178 (by kernel_rfl) (by kernel_rfl) (by kernel_rfl) (ls := []) (by kernel_rfl) (kp := keepT []) (lps := loopsT []) (bump := false) (ice := false) (A := (codP [pI])) (n := 1) (R := (codP [pI])) fun _ => lps_nil

theorem e_r5Weekday (n : Int) : F_r5Weekday n = (
  bif decide (n.tmod (7 : Int) < (0 : Int)) then
    bif decide ((0 : Int) ≤ IntKind.i64.wrap (n.tmod (7 : Int) + (7 : Int)) ∧ IntKind.i64.wrap (n.tmod (7 : Int) + (7 : Int)) < (7 : Int)) then
      [(4 : Int), (5 : Int), (6 : Int), (7 : Int), (1 : Int), (2 : Int), (3 : Int)][(IntKind.i64.wrap (n.tmod (7 : Int) + (7 : Int))).toNat]?.bind fun x1 => some x1
    else none
  else
    bif decide ((0 : Int) ≤ n.tmod (7 : Int) ∧ n.tmod (7 : Int) < (7 : Int)) then
      [(4 : Int), (5 : Int), (6 : Int), (7 : Int), (1 : Int), (2 : Int), (3 : Int)][(n.tmod (7 : Int)).toNat]?.bind fun x1 => some x1
    else none) := by kernel_rfl


/-! ### horologe/horologeref16.Day -/
noncomputable abbrev ct_r6Day : List (FuncId × Bool × SpecT) := [(132, false, s_r5Start), (134, false, s_r5Month), (177, false, s_r5Of), (178, false, s_r5Weekday)]
theorem cs_r6Day : AllSound Tryz.prog ct_r6Day := ⟨so_r5Start, so_r5Month, so_r5Of, so_r5Weekday, trivial⟩
-- loop 0 (key 6) exit 0: [1, 5, 6]
-- loop 0 (key 6) exit 3: [1, 5, 6]
-- loop 1 (key 13) exit 0: [1, 2, 7, 8, 9]
-- loop 1 (key 13) exit 5: [7]
abbrev kp_r6Day : Keep := keepT [(6, 0, [(1, none), (5, none), (6, none)]), (6, 3, [(1, none), (5, none), (6, none)]), (13, 0, [(1, none), (2, none), (7, none), (8, none), (9, none)]), (13, 5, [(7, none)])]
noncomputable abbrev b_r6Day_0 : Code := loopAt Tryz.f135 0
noncomputable abbrev b_r6Day_1 : Code := loopAt Tryz.f135 1
noncomputable def sp_r6Day_1 (x : (Int × (Int × Int × Int × Int × Int) × Int × Int × Int)) : Option ((Int × (Int × Int × Int × Int × Int) × Int × Int × Int) ⊕ (Int)) := (stepL Tryz.prog (lookT ct_r6Day) kp_r6Day (loopsT []) 0 false b_r6Day_1 (codP [pI, (.box cRule), pI, pI, pI]) (exO (.ext 2) (codP [pI])) x).run
noncomputable def w_r6Day_1 : (Int × (Int × Int × Int × Int × Int) × Int × Int × Int) → Option (Int) := whileO sp_r6Day_1
theorem ew_r6Day_1 (x : (Int × (Int × Int × Int × Int × Int) × Int × Int × Int)) : w_r6Day_1 x = (sp_r6Day_1 x).bind (Sum.elim w_r6Day_1 some) := whileO_eq _ _
noncomputable abbrev l_r6Day_1 : LT := ltF (codP [pI, (.box cRule), pI, pI, pI]) (exO (.ext 2) (codP [pI])) w_r6Day_1
theorem lo_r6Day_1 : LoopOk Tryz.prog Tryz.f135.ntmps kp_r6Day 0 false b_r6Day_1 l_r6Day_1 := loopG mixed cs_r6Day (lps := loopsT []) (by kernel_rfl) (ls := []) (by kernel_rfl) lps_nil
noncomputable def sp_r6Day_0 (x : (Int × Int × Int)) : Option ((Int × Int × Int) ⊕ (Int × Int × Int)) := (stepL Tryz.prog (lookT ct_r6Day) kp_r6Day (loopsT []) 0 false b_r6Day_0 (codP [pI, pI, pI]) (exO (.ext 0) (codP [pI, pI, pI])) x).run
noncomputable def w_r6Day_0 : (Int × Int × Int) → Option (Int × Int × Int) := whileO sp_r6Day_0
theorem ew_r6Day_0 (x : (Int × Int × Int)) : w_r6Day_0 x = (sp_r6Day_0 x).bind (Sum.elim w_r6Day_0 some) := whileO_eq _ _
noncomputable abbrev l_r6Day_0 : LT := ltF (codP [pI, pI, pI]) (exO (.ext 0) (codP [pI, pI, pI])) w_r6Day_0
theorem lo_r6Day_0 : LoopOk Tryz.prog Tryz.f135.ntmps kp_r6Day 0 false b_r6Day_0 l_r6Day_0 := loopG mixed cs_r6Day (lps := loopsT []) (by kernel_rfl) (ls := []) (by kernel_rfl) lps_nil
noncomputable def F_r6Day (x : ((Int × Int × Int × Int × Int) × Int)) : Option (Int) := (evalF Tryz.prog (lookT ct_r6Day) (kp_r6Day) (loopsT [(6, l_r6Day_0), (13, l_r6Day_1)]) false false Tryz.f135 (codP [pRule, pI]) 1 (codP [pI]) x).run
noncomputable abbrev s_r6Day : SpecT := specF (codP [pRule, pI]) 1 (codP [pI]) F_r6Day
theorem so_r6Day : SoundT Tryz.prog 135 s_r6Day := soundG (P := Tryz.prog) mixed (t := ct_r6Day) cs_r6Day (f := 135) (fn := Tryz.f135) Tryz.func135 (by kernel_rfl) (by kernel_rfl) (by kernel_rfl) (ls := [b_r6Day_0, b_r6Day_1]) (by kernel_rfl) (kp := kp_r6Day) (lps := loopsT [(6, l_r6Day_0), (13, l_r6Day_1)]) (bump := false) (ice := false) (A := (codP [pRule, pI])) (n := 1) (R := (codP [pI])) fun _ => (lps_cons l_r6Day_0 (by kernel_rfl) lo_r6Day_0 (lps_cons l_r6Day_1 (by kernel_rfl) lo_r6Day_1 lps_nil))

theorem es_r6Day_0 (y n m : Int) : sp_r6Day_0 (y, n, m) = (
  (F_r5Month ((2001 : Int), m)).bind fun x1 =>
    bif decide (x1 < n) then (F_r5Month ((2001 : Int), m)).bind fun x2 => some (Sum.inl (y, IntKind.i64.wrap (n - x2), IntKind.i64.wrap (m + (1 : Int)))) else some (Sum.inr (y, n, m))) := by kernel_rfl

theorem es_r6Day_1 (y : Int) (k m w d t : Int) (f c i : Int) : sp_r6Day_1 (y, (k, m, w, d, t), f, c, i) = (
  (F_r5Month (y, m)).bind fun x1 =>
    bif decide (i ≤ x1) then
      (F_r5Of (y, m, i)).bind fun x2 =>
        (F_r5Weekday x2).bind fun x3 =>
          bif decide (x3.tmod (7 : Int) = d) then
            bif decide (c < w) then some (Sum.inl (y, (k, m, w, d, t), x2, IntKind.i64.wrap (c + (1 : Int)), IntKind.i64.wrap (i + (1 : Int))))
            else some (Sum.inl (y, (k, m, w, d, t), f, c, IntKind.i64.wrap (i + (1 : Int))))
          else some (Sum.inl (y, (k, m, w, d, t), f, c, IntKind.i64.wrap (i + (1 : Int))))
    else some (Sum.inr f)) := by kernel_rfl

theorem e_r6Day (k m w d t : Int) (y : Int) : F_r6Day ((k, m, w, d, t), y) = (
  bif decide (k = (2 : Int)) then (F_r5Start y).bind fun x1 => some (IntKind.i64.wrap (x1 + d))
  else
    bif decide (k = (1 : Int)) then (w_r6Day_0 (y, d, (1 : Int))).bind fun x1 => (F_r5Of (x1.fst, x1.snd.snd, x1.snd.fst)).bind fun x2 => some x2
    else (w_r6Day_1 (y, (k, m, w, d, t), (0 : Int), (0 : Int), (1 : Int))).bind fun x1 => some x1) := by kernel_rfl


/-! ### horologe/horologeref18.Begin -/
noncomputable abbrev ct_r8Begin : List (FuncId × Bool × SpecT) := [(135, false, s_r6Day)]
theorem cs_r8Begin : AllSound Tryz.prog ct_r8Begin := ⟨so_r6Day, trivial⟩
noncomputable def F_r8Begin (x : ((List UInt8 × List UInt8 × Int × Int × (Int × Int × Int × Int × Int) × (Int × Int × Int × Int × Int)) × Int)) : Option (Int) := (evalF Tryz.prog (lookT ct_r8Begin) (keepT []) (loopsT []) false false Tryz.f87 (codP [pPlan, pI]) 1 (codP [pI]) x).run
noncomputable abbrev s_r8Begin : SpecT := specF (codP [pPlan, pI]) 1 (codP [pI]) F_r8Begin
theorem so_r8Begin : SoundT Tryz.prog 87 s_r8Begin := soundG (P := Tryz.prog) mixed (t := ct_r8Begin) cs_r8Begin (f := 87) (fn := Tryz.f87) Tryz.func87 (by kernel_rfl) (by kernel_rfl) (by kernel_rfl) (ls := []) (by kernel_rfl) (kp := keepT []) (lps := loopsT []) (bump := false) (ice := false) (A := (codP [pPlan, pI])) (n := 1) (R := (codP [pI])) fun _ => lps_nil

theorem e_r8Begin (p : List UInt8 × List UInt8 × Int × Int × (Int × Int × Int × Int × Int) × (Int × Int × Int × Int × Int)) (y : Int) : F_r8Begin (p, y) = (
  (F_r6Day (p.snd.snd.snd.snd.fst, y)).bind fun x1 => some (IntKind.i64.wrap (IntKind.i64.wrap (IntKind.i64.wrap (x1 * (86400 : Int)) + p.snd.snd.snd.snd.fst.snd.snd.snd.snd) - p.snd.snd.fst))) := by kernel_rfl


/-! ### horologe/horologeref18.End -/
noncomputable abbrev ct_r8End : List (FuncId × Bool × SpecT) := [(135, false, s_r6Day)]
theorem cs_r8End : AllSound Tryz.prog ct_r8End := ⟨so_r6Day, trivial⟩
noncomputable def F_r8End (x : ((List UInt8 × List UInt8 × Int × Int × (Int × Int × Int × Int × Int) × (Int × Int × Int × Int × Int)) × Int)) : Option (Int) := (evalF Tryz.prog (lookT ct_r8End) (keepT []) (loopsT []) false false Tryz.f88 (codP [pPlan, pI]) 1 (codP [pI]) x).run
noncomputable abbrev s_r8End : SpecT := specF (codP [pPlan, pI]) 1 (codP [pI]) F_r8End
theorem so_r8End : SoundT Tryz.prog 88 s_r8End := soundG (P := Tryz.prog) mixed (t := ct_r8End) cs_r8End (f := 88) (fn := Tryz.f88) Tryz.func88 (by kernel_rfl) (by kernel_rfl) (by kernel_rfl) (ls := []) (by kernel_rfl) (kp := keepT []) (lps := loopsT []) (bump := false) (ice := false) (A := (codP [pPlan, pI])) (n := 1) (R := (codP [pI])) fun _ => lps_nil

theorem e_r8End (p : List UInt8 × List UInt8 × Int × Int × (Int × Int × Int × Int × Int) × (Int × Int × Int × Int × Int)) (y : Int) : F_r8End (p, y) = (
  (F_r6Day (p.snd.snd.snd.snd.snd, y)).bind fun x1 => some (IntKind.i64.wrap (IntKind.i64.wrap (IntKind.i64.wrap (x1 * (86400 : Int)) + p.snd.snd.snd.snd.snd.snd.snd.snd.snd) - p.snd.snd.snd.fst))) := by kernel_rfl


/-! ### horologe/horologeref18.Year -/
noncomputable abbrev ct_r8Year : List (FuncId × Bool × SpecT) := [(84, false, s_r5First), (85, false, s_r5Last), (86, false, s_r5Date)]
theorem cs_r8Year : AllSound Tryz.prog ct_r8Year := ⟨so_r5First, so_r5Last, so_r5Date, trivial⟩
noncomputable def F_r8Year (x : (Int)) : Option (Int × Bool) := (evalF Tryz.prog (lookT ct_r8Year) (keepT []) (loopsT []) false false Tryz.f47 (codP [pI]) 2 (codP [pI, pB]) x).run
noncomputable abbrev s_r8Year : SpecT := specF (codP [pI]) 2 (codP [pI, pB]) F_r8Year
theorem so_r8Year : SoundT Tryz.prog 47 s_r8Year := soundG (P := Tryz.prog) mixed (t := ct_r8Year) cs_r8Year (f := 47) (fn := Tryz.f47) Tryz.func47 (by kernel_rfl) (by kernel_rfl) (by kernel_rfl) (ls := []) (by kernel_rfl) (kp := keepT []) (lps := loopsT []) (bump := false) (ice := false) (A := (codP [pI])) (n := 2) (R := (codP [pI, pB])) fun _ => lps_nil

theorem e_r8Year (t : Int) : F_r8Year t = (
  bif decide (t.tmod (86400 : Int) < (0 : Int)) then
    (F_r5First ()).bind fun x1 =>
      bif decide (IntKind.i64.wrap (IntKind.i64.wrap (t.tdiv (86400 : Int)) - (1 : Int)) < x1) then some ((0 : Int), false)
      else
        (F_r5Last ()).bind fun x2 =>
          bif decide (x2 < IntKind.i64.wrap (IntKind.i64.wrap (t.tdiv (86400 : Int)) - (1 : Int))) then some ((0 : Int), false)
          else (F_r5Date (IntKind.i64.wrap (IntKind.i64.wrap (t.tdiv (86400 : Int)) - (1 : Int)))).bind fun x3 => some (x3.fst, true)
  else
    (F_r5First ()).bind fun x1 =>
      bif decide (IntKind.i64.wrap (t.tdiv (86400 : Int)) < x1) then some ((0 : Int), false)
      else
        (F_r5Last ()).bind fun x2 =>
          bif decide (x2 < IntKind.i64.wrap (t.tdiv (86400 : Int))) then some ((0 : Int), false) else (F_r5Date (IntKind.i64.wrap (t.tdiv (86400 : Int)))).bind fun x3 => some (x3.fst, true)) := by kernel_rfl


/-! ### horologe/horologeref18.At -/
noncomputable abbrev ct_r8At : List (FuncId × Bool × SpecT) := [(47, false, s_r8Year), (87, false, s_r8Begin), (88, false, s_r8End)]
theorem cs_r8At : AllSound Tryz.prog ct_r8At := ⟨so_r8Year, so_r8Begin, so_r8End, trivial⟩
-- loop 0 (key 7) exit 0: [1, 2, 4, 5, 6, 8, 9, 10]
-- loop 0 (key 7) exit 3: [2, 4, 5, 8, 9]
abbrev kp_r8At : Keep := keepT [(7, 0, [(1, none), (2, none), (4, none), (5, none), (6, none), (8, none), (9, none), (10, none)]), (7, 3, [(2, none), (4, none), (5, none), (8, none), (9, none)])]
noncomputable abbrev b_r8At_0 : Code := loopAt Tryz.f49 0
noncomputable def sp_r8At_0 (x : (Int × (List UInt8 × List UInt8 × Int × Int × (Int × Int × Int × Int × Int) × (Int × Int × Int × Int × Int)) × (Int × Bool × List UInt8) × (Int × Bool × List UInt8) × Int × Int × Int × Int)) : Option ((Int × (List UInt8 × List UInt8 × Int × Int × (Int × Int × Int × Int × Int) × (Int × Int × Int × Int × Int)) × (Int × Bool × List UInt8) × (Int × Bool × List UInt8) × Int × Int × Int × Int) ⊕ ((List UInt8 × List UInt8 × Int × Int × (Int × Int × Int × Int × Int) × (Int × Int × Int × Int × Int)) × (Int × Bool × List UInt8) × (Int × Bool × List UInt8) × Int × Int)) := (stepL Tryz.prog (lookT ct_r8At) kp_r8At (loopsT []) 0 false b_r8At_0 (codP [pI, (.box cPlan), (.box cTyp), (.box cTyp), pI, pI, pI, pI]) (exO (.ext 0) (codP [(.box cPlan), (.box cTyp), (.box cTyp), pI, pI])) x).run
noncomputable def w_r8At_0 : (Int × (List UInt8 × List UInt8 × Int × Int × (Int × Int × Int × Int × Int) × (Int × Int × Int × Int × Int)) × (Int × Bool × List UInt8) × (Int × Bool × List UInt8) × Int × Int × Int × Int) → Option ((List UInt8 × List UInt8 × Int × Int × (Int × Int × Int × Int × Int) × (Int × Int × Int × Int × Int)) × (Int × Bool × List UInt8) × (Int × Bool × List UInt8) × Int × Int) := whileO sp_r8At_0
theorem ew_r8At_0 (x : (Int × (List UInt8 × List UInt8 × Int × Int × (Int × Int × Int × Int × Int) × (Int × Int × Int × Int × Int)) × (Int × Bool × List UInt8) × (Int × Bool × List UInt8) × Int × Int × Int × Int)) : w_r8At_0 x = (sp_r8At_0 x).bind (Sum.elim w_r8At_0 some) := whileO_eq _ _
noncomputable abbrev l_r8At_0 : LT := ltF (codP [pI, (.box cPlan), (.box cTyp), (.box cTyp), pI, pI, pI, pI]) (exO (.ext 0) (codP [(.box cPlan), (.box cTyp), (.box cTyp), pI, pI])) w_r8At_0
theorem lo_r8At_0 : LoopOk Tryz.prog Tryz.f49.ntmps kp_r8At 0 false b_r8At_0 l_r8At_0 := loopG mixed cs_r8At (lps := loopsT []) (by kernel_rfl) (ls := []) (by kernel_rfl) lps_nil
noncomputable def F_r8At (x : ((List UInt8 × List UInt8 × Int × Int × (Int × Int × Int × Int × Int) × (Int × Int × Int × Int × Int)) × Int)) : Option ((Int × Bool × List UInt8)) := (evalF Tryz.prog (lookT ct_r8At) (kp_r8At) (loopsT [(7, l_r8At_0)]) false false Tryz.f49 (codP [pPlan, pI]) 1 (codP [pTyp]) x).run
noncomputable abbrev s_r8At : SpecT := specF (codP [pPlan, pI]) 1 (codP [pTyp]) F_r8At
theorem so_r8At : SoundT Tryz.prog 49 s_r8At := soundG (P := Tryz.prog) mixed (t := ct_r8At) cs_r8At (f := 49) (fn := Tryz.f49) Tryz.func49 (by kernel_rfl) (by kernel_rfl) (by kernel_rfl) (ls := [b_r8At_0]) (by kernel_rfl) (kp := kp_r8At) (lps := loopsT [(7, l_r8At_0)]) (bump := false) (ice := false) (A := (codP [pPlan, pI])) (n := 1) (R := (codP [pTyp])) fun _ => (lps_cons l_r8At_0 (by kernel_rfl) lo_r8At_0 lps_nil)

theorem es_r8At_0 (t : Int) (p : List UInt8 × List UInt8 × Int × Int × (Int × Int × Int × Int × Int) × (Int × Int × Int × Int × Int)) (a b : Int × Bool × List UInt8) (y u v k : Int) : sp_r8At_0 (t, p, a, b, y, u, v, k) = (
  bif decide (k ≤ IntKind.i64.wrap (y + (2 : Int))) then
    (F_r8Begin (p, k)).bind fun x1 =>
      bif decide (x1 ≤ t) then
        bif decide (u < x1) then
          (F_r8End (p, k)).bind fun x2 =>
            bif decide (x2 ≤ t) then
              bif decide (v < x2) then some (Sum.inl (t, p, a, b, y, x1, x2, IntKind.i64.wrap (k + (1 : Int)))) else some (Sum.inl (t, p, a, b, y, x1, v, IntKind.i64.wrap (k + (1 : Int))))
            else some (Sum.inl (t, p, a, b, y, x1, v, IntKind.i64.wrap (k + (1 : Int))))
        else
          (F_r8End (p, k)).bind fun x2 =>
            bif decide (x2 ≤ t) then
              bif decide (v < x2) then some (Sum.inl (t, p, a, b, y, u, x2, IntKind.i64.wrap (k + (1 : Int)))) else some (Sum.inl (t, p, a, b, y, u, v, IntKind.i64.wrap (k + (1 : Int))))
            else some (Sum.inl (t, p, a, b, y, u, v, IntKind.i64.wrap (k + (1 : Int))))
      else
        (F_r8End (p, k)).bind fun x2 =>
          bif decide (x2 ≤ t) then
            bif decide (v < x2) then some (Sum.inl (t, p, a, b, y, u, x2, IntKind.i64.wrap (k + (1 : Int)))) else some (Sum.inl (t, p, a, b, y, u, v, IntKind.i64.wrap (k + (1 : Int))))
          else some (Sum.inl (t, p, a, b, y, u, v, IntKind.i64.wrap (k + (1 : Int))))
  else some (Sum.inr (p, a, b, u, v))) := by kernel_rfl

theorem e_r8At (p : List UInt8 × List UInt8 × Int × Int × (Int × Int × Int × Int × Int) × (Int × Int × Int × Int × Int)) (t : Int) : F_r8At (p, t) = (
  bif decide ((↑(List.length p.snd.fst) : Int) = (0 : Int)) then some (p.snd.snd.fst, false, p.fst)
  else
    (F_r8Year t).bind fun x1 =>
      (w_r8At_0 (t, p, ((0 : Int), false, []), (p.snd.snd.fst, false, p.fst), x1.fst, (-4611686018427387904 : Int), (-4611686018427387904 : Int), IntKind.i64.wrap (x1.fst - (2 : Int)))).bind fun x2 =>
        bif decide (x2.snd.snd.snd.snd ≤ x2.snd.snd.snd.fst) then some (x2.fst.snd.snd.snd.fst, true, x2.fst.snd.fst) else some x2.snd.snd.fst) := by kernel_rfl


/-! ### horologe/horologeref18.Next -/
noncomputable abbrev ct_r8Next : List (FuncId × Bool × SpecT) := [(47, false, s_r8Year), (87, false, s_r8Begin), (88, false, s_r8End)]
theorem cs_r8Next : AllSound Tryz.prog ct_r8Next := ⟨so_r8Year, so_r8Begin, so_r8End, trivial⟩
-- loop 0 (key 6) exit 0: [1, 2, 6, 8, 9]
-- loop 0 (key 6) exit 3: [8]
abbrev kp_r8Next : Keep := keepT [(6, 0, [(1, none), (2, none), (6, none), (8, none), (9, none)]), (6, 3, [(8, none)])]
noncomputable abbrev b_r8Next_0 : Code := loopAt Tryz.f48 0
noncomputable def sp_r8Next_0 (x : (Int × (List UInt8 × List UInt8 × Int × Int × (Int × Int × Int × Int × Int) × (Int × Int × Int × Int × Int)) × Int × Int × Int)) : Option ((Int × (List UInt8 × List UInt8 × Int × Int × (Int × Int × Int × Int × Int) × (Int × Int × Int × Int × Int)) × Int × Int × Int) ⊕ (Int)) := (stepL Tryz.prog (lookT ct_r8Next) kp_r8Next (loopsT []) 0 false b_r8Next_0 (codP [pI, (.box cPlan), pI, pI, pI]) (exO (.ext 0) (codP [pI])) x).run
noncomputable def w_r8Next_0 : (Int × (List UInt8 × List UInt8 × Int × Int × (Int × Int × Int × Int × Int) × (Int × Int × Int × Int × Int)) × Int × Int × Int) → Option (Int) := whileO sp_r8Next_0
theorem ew_r8Next_0 (x : (Int × (List UInt8 × List UInt8 × Int × Int × (Int × Int × Int × Int × Int) × (Int × Int × Int × Int × Int)) × Int × Int × Int)) : w_r8Next_0 x = (sp_r8Next_0 x).bind (Sum.elim w_r8Next_0 some) := whileO_eq _ _
noncomputable abbrev l_r8Next_0 : LT := ltF (codP [pI, (.box cPlan), pI, pI, pI]) (exO (.ext 0) (codP [pI])) w_r8Next_0
theorem lo_r8Next_0 : LoopOk Tryz.prog Tryz.f48.ntmps kp_r8Next 0 false b_r8Next_0 l_r8Next_0 := loopG mixed cs_r8Next (lps := loopsT []) (by kernel_rfl) (ls := []) (by kernel_rfl) lps_nil
noncomputable def F_r8Next (x : ((List UInt8 × List UInt8 × Int × Int × (Int × Int × Int × Int × Int) × (Int × Int × Int × Int × Int)) × Int)) : Option (Int × Bool) := (evalF Tryz.prog (lookT ct_r8Next) (kp_r8Next) (loopsT [(6, l_r8Next_0)]) false false Tryz.f48 (codP [pPlan, pI]) 2 (codP [pI, pB]) x).run
noncomputable abbrev s_r8Next : SpecT := specF (codP [pPlan, pI]) 2 (codP [pI, pB]) F_r8Next
theorem so_r8Next : SoundT Tryz.prog 48 s_r8Next := soundG (P := Tryz.prog) mixed (t := ct_r8Next) cs_r8Next (f := 48) (fn := Tryz.f48) Tryz.func48 (by kernel_rfl) (by kernel_rfl) (by kernel_rfl) (ls := [b_r8Next_0]) (by kernel_rfl) (kp := kp_r8Next) (lps := loopsT [(6, l_r8Next_0)]) (bump := false) (ice := false) (A := (codP [pPlan, pI])) (n := 2) (R := (codP [pI, pB])) fun _ => (lps_cons l_r8Next_0 (by kernel_rfl) lo_r8Next_0 lps_nil)

theorem es_r8Next_0 (t : Int) (p : List UInt8 × List UInt8 × Int × Int × (Int × Int × Int × Int × Int) × (Int × Int × Int × Int × Int)) (y u k : Int) : sp_r8Next_0 (t, p, y, u, k) = (
  bif decide (k ≤ IntKind.i64.wrap (y + (2 : Int))) then
    (F_r8Begin (p, k)).bind fun x1 =>
      bif decide (t < x1) then
        bif decide (x1 < u) then
          (F_r8End (p, k)).bind fun x2 =>
            bif decide (t < x2) then bif decide (x2 < x1) then some (Sum.inl (t, p, y, x2, IntKind.i64.wrap (k + (1 : Int)))) else some (Sum.inl (t, p, y, x1, IntKind.i64.wrap (k + (1 : Int))))
            else some (Sum.inl (t, p, y, x1, IntKind.i64.wrap (k + (1 : Int))))
        else
          (F_r8End (p, k)).bind fun x2 =>
            bif decide (t < x2) then bif decide (x2 < u) then some (Sum.inl (t, p, y, x2, IntKind.i64.wrap (k + (1 : Int)))) else some (Sum.inl (t, p, y, u, IntKind.i64.wrap (k + (1 : Int))))
            else some (Sum.inl (t, p, y, u, IntKind.i64.wrap (k + (1 : Int))))
      else
        (F_r8End (p, k)).bind fun x2 =>
          bif decide (t < x2) then bif decide (x2 < u) then some (Sum.inl (t, p, y, x2, IntKind.i64.wrap (k + (1 : Int)))) else some (Sum.inl (t, p, y, u, IntKind.i64.wrap (k + (1 : Int))))
          else some (Sum.inl (t, p, y, u, IntKind.i64.wrap (k + (1 : Int))))
  else some (Sum.inr u)) := by kernel_rfl

theorem e_r8Next (p : List UInt8 × List UInt8 × Int × Int × (Int × Int × Int × Int × Int) × (Int × Int × Int × Int × Int)) (t : Int) : F_r8Next (p, t) = (
  bif decide ((↑(List.length p.snd.fst) : Int) = (0 : Int)) then some ((0 : Int), false)
  else (F_r8Year t).bind fun x1 => (w_r8Next_0 (t, p, x1.fst, (4611686018427387904 : Int), IntKind.i64.wrap (x1.fst - (2 : Int)))).bind fun x2 => some (x2, true)) := by kernel_rfl


/-! ### horologe/horologelaw18.Document -/
noncomputable abbrev ct_law18Document : List (FuncId × Bool × SpecT) := []
theorem cs_law18Document : AllSound Tryz.prog ct_law18Document := trivial
noncomputable def F_law18Document (x : ((Int × Bool × List UInt8))) : Option ((Int × Bool × List UInt8)) := (evalF Tryz.prog (lookT ct_law18Document) (keepT []) (loopsT []) false false Tryz.f33 (codP [pTyp]) 1 (codP [pTyp]) x).run
noncomputable abbrev s_law18Document : SpecT := specF (codP [pTyp]) 1 (codP [pTyp]) F_law18Document
theorem so_law18Document : SoundT Tryz.prog 33 s_law18Document := soundG (P := Tryz.prog) mixed (t := ct_law18Document) cs_law18Document (f := 33) (fn := Tryz.f33) Tryz.func33 (by kernel_rfl) (by kernel_rfl) (by kernel_rfl) (ls := []) (by kernel_rfl) (kp := keepT []) (lps := loopsT []) (bump := false) (ice := false) (A := (codP [pTyp])) (n := 1) (R := (codP [pTyp])) fun _ => lps_nil

theorem e_law18Document (l : Int × Bool × List UInt8) : F_law18Document l = (
  some l) := by kernel_rfl


/-! ### horologe/horologelaw18.FooterTells -/
noncomputable abbrev ct_lawFooterTells : List (FuncId × Bool × SpecT) := [(43, false, s_law18alive), (44, false, s_law17LongA), (22, false, s_law17Document), (45, false, s_ftAt), (46, false, s_ftNext), (21, false, s_r7Check), (47, false, s_r8Year), (11, false, s_lawNum), (48, false, s_r8Next), (49, false, s_r8At), (33, false, s_law18Document)]
theorem cs_lawFooterTells : AllSound Tryz.prog ct_lawFooterTells := ⟨so_law18alive, so_law17LongA, so_law17Document, so_ftAt, so_ftNext, so_r7Check, so_r8Year, so_lawNum, so_r8Next, so_r8At, so_law18Document, trivial⟩
noncomputable def F_lawFooterTells (x : ((List UInt8 × List UInt8 × Int × Int × (Int × Int × Int × Int × Int) × (Int × Int × Int × Int × Int)) × Int)) : Option (Bool) := (evalF Tryz.prog (lookT ct_lawFooterTells) (keepT []) (loopsT []) false false Tryz.f7 (codP [pPlan, pI]) 1 (codP [pB]) x).run
noncomputable abbrev s_lawFooterTells : SpecT := specF (codP [pPlan, pI]) 1 (codP [pB]) F_lawFooterTells
theorem so_lawFooterTells : SoundT Tryz.prog 7 s_lawFooterTells := soundG (P := Tryz.prog) mixed (t := ct_lawFooterTells) cs_lawFooterTells (f := 7) (fn := Tryz.f7) Tryz.func7 (by kernel_rfl) (by kernel_rfl) (by kernel_rfl) (ls := []) (by kernel_rfl) (kp := keepT []) (lps := loopsT []) (bump := false) (ice := false) (A := (codP [pPlan, pI])) (n := 1) (R := (codP [pB])) fun _ => lps_nil

theorem e_lawFooterTells (p : List UInt8 × List UInt8 × Int × Int × (Int × Int × Int × Int × Int) × (Int × Int × Int × Int × Int)) (t : Int) : F_lawFooterTells (p, t) = (
  (F_law18alive ()).bind fun x1 =>
    bif !x1 then some false
    else
      (F_law17LongA p).bind fun x2 =>
        bif x2 then some true
        else
          (F_law17Document p).bind fun x3 =>
            (F_ftAt (p, t)).bind fun x4 =>
              (F_ftNext (p, t)).bind fun x5 =>
                (F_r7Check x3).bind fun x6 =>
                  (F_r8Year t).bind fun x7 =>
                    bif decide (x6 = (0 : Int)) then
                      bif !x7.snd then
                        bif decide (x4.fst.fst = (0 : Int)) && (x4.fst.snd.fst == false && (decide (x4.fst.snd.snd = []) && true)) then
                          bif decide (x5.fst = (0 : Int)) then
                            bif !x5.snd.fst then (F_lawNum x4.snd).bind fun x8 => bif decide (x8 = (13 : Int)) then (F_lawNum x5.snd.snd).bind fun x9 => some (decide (x9 = (13 : Int))) else some false
                            else some false
                          else some false
                        else some false
                      else
                        bif decide (x6 ≠ (0 : Int)) then
                          bif decide (x4.fst.fst = (0 : Int)) && (x4.fst.snd.fst == false && (decide (x4.fst.snd.snd = []) && true)) then
                            bif decide (x5.fst = (0 : Int)) then
                              bif !x5.snd.fst then (F_lawNum x4.snd).bind fun x8 => bif decide (x8 = x6) then (F_lawNum x5.snd.snd).bind fun x9 => some (decide (x9 = x6)) else some false else some false
                            else some false
                          else some false
                        else
                          (F_r8Next (x3, t)).bind fun x8 =>
                            bif decide (x4.snd = (0 : Int)) then
                              bif decide (x5.snd.snd = (0 : Int)) then
                                (F_law18Document x4.fst).bind fun x9 =>
                                  (F_r8At (x3, t)).bind fun x10 =>
                                    bif decide (x9.fst = x10.fst) && (x9.snd.fst == x10.snd.fst && (decide (x9.snd.snd = x10.snd.snd) && true)) then
                                      bif decide (x5.fst = x8.fst) then some (x5.snd.fst == x8.snd) else some false
                                    else some false
                              else some false
                            else some false
                    else
                      bif decide (x6 ≠ (0 : Int)) then
                        bif decide (x4.fst.fst = (0 : Int)) && (x4.fst.snd.fst == false && (decide (x4.fst.snd.snd = []) && true)) then
                          bif decide (x5.fst = (0 : Int)) then
                            bif !x5.snd.fst then (F_lawNum x4.snd).bind fun x8 => bif decide (x8 = x6) then (F_lawNum x5.snd.snd).bind fun x9 => some (decide (x9 = x6)) else some false else some false
                          else some false
                        else some false
                      else
                        (F_r8Next (x3, t)).bind fun x8 =>
                          bif decide (x4.snd = (0 : Int)) then
                            bif decide (x5.snd.snd = (0 : Int)) then
                              (F_law18Document x4.fst).bind fun x9 =>
                                (F_r8At (x3, t)).bind fun x10 =>
                                  bif decide (x9.fst = x10.fst) && (x9.snd.fst == x10.snd.fst && (decide (x9.snd.snd = x10.snd.snd) && true)) then
                                    bif decide (x5.fst = x8.fst) then some (x5.snd.fst == x8.snd) else some false
                                  else some false
                            else some false
                          else some false) := by kernel_rfl

end Go.Sm
/- Zones: all parts but the plan; the first usual type; the zone of a plan. No condition. -/
set_option linter.unusedVariables false
namespace Go.Sm
open Go.Proofs
/-! ### (horologe/zone.Zone).ranged$1 -/
noncomputable abbrev ct_zStrange : List (FuncId × Bool × SpecT) := []
theorem cs_zStrange : AllSound Tryz.prog ct_zStrange := trivial
noncomputable def F_zStrange (x : (Int × (List Int × List Int × List (Int × Bool × List UInt8) × List (Int × Int) × Bool × (List UInt8 × List UInt8 × Int × Int × (Int × Int × Int × Int × Int) × (Int × Int × Int × Int × Int))))) : Option (Bool × (List Int × List Int × List (Int × Bool × List UInt8) × List (Int × Int) × Bool × (List UInt8 × List UInt8 × Int × Int × (Int × Int × Int × Int × Int) × (Int × Int × Int × Int × Int)))) := (evalF Tryz.prog (lookT ct_zStrange) (keepT []) (loopsT []) false false Tryz.f136 (codP [pI, (.boxw [.p cZone])]) 1 (codP [pB, (.memw [.p cZone])]) x).run
noncomputable abbrev s_zStrange : SpecT := specF (codP [pI, (.boxw [.p cZone])]) 1 (codP [pB, (.memw [.p cZone])]) F_zStrange
theorem so_zStrange : SoundT Tryz.prog 136 s_zStrange := soundG (P := Tryz.prog) mixed (t := ct_zStrange) cs_zStrange (f := 136) (fn := Tryz.f136) Tryz.func136 (by kernel_rfl) (by kernel_rfl) (by kernel_rfl) (ls := []) (by kernel_rfl) (kp := keepT []) (lps := loopsT []) (bump := false) (ice := false) (A := (codP [pI, (.boxw [.p cZone])])) (n := 1) (R := (codP [pB, (.memw [.p cZone])])) fun _ => lps_nil

theorem e_zStrange (k : Int) (z : List Int × List Int × List (Int × Bool × List UInt8) × List (Int × Int) × Bool × (List UInt8 × List UInt8 × Int × Int × (Int × Int × Int × Int × Int) × (Int × Int × Int × Int × Int))) : F_zStrange (k, z) = (
  bif decide (k < (0 : Int)) then some (true, z) else some (decide ((↑(List.length z.snd.snd.fst) : Int) ≤ k), z)) := by kernel_rfl

/-! ### (horologe/zone.Zone).ranged$2 -/
noncomputable abbrev ct_zFar : List (FuncId × Bool × SpecT) := []
theorem cs_zFar : AllSound Tryz.prog ct_zFar := trivial
noncomputable def F_zFar (x : ((Int × Bool × List UInt8))) : Option (Bool) := (evalF Tryz.prog (lookT ct_zFar) (keepT []) (loopsT []) false false Tryz.f137 (codP [pTyp]) 1 (codP [pB]) x).run
noncomputable abbrev s_zFar : SpecT := specF (codP [pTyp]) 1 (codP [pB]) F_zFar
theorem so_zFar : SoundT Tryz.prog 137 s_zFar := soundG (P := Tryz.prog) mixed (t := ct_zFar) cs_zFar (f := 137) (fn := Tryz.f137) Tryz.func137 (by kernel_rfl) (by kernel_rfl) (by kernel_rfl) (ls := []) (by kernel_rfl) (kp := keepT []) (lps := loopsT []) (bump := false) (ice := false) (A := (codP [pTyp])) (n := 1) (R := (codP [pB])) fun _ => lps_nil

theorem e_zFar (o : Int) (m : Bool) (s : List UInt8) : F_zFar (o, m, s) = (
  bif decide (o < (-89999 : Int)) then some true else some (decide ((89999 : Int) < o))) := by kernel_rfl

/-! ### (horologe/zone.Zone).ranged$3 -/
noncomputable abbrev ct_zEarly : List (FuncId × Bool × SpecT) := []
theorem cs_zEarly : AllSound Tryz.prog ct_zEarly := trivial
noncomputable def F_zEarly (x : ((Int × Int))) : Option (Bool) := (evalF Tryz.prog (lookT ct_zEarly) (keepT []) (loopsT []) false false Tryz.f138 (codP [pCor]) 1 (codP [pB]) x).run
noncomputable abbrev s_zEarly : SpecT := specF (codP [pCor]) 1 (codP [pB]) F_zEarly
theorem so_zEarly : SoundT Tryz.prog 138 s_zEarly := soundG (P := Tryz.prog) mixed (t := ct_zEarly) cs_zEarly (f := 138) (fn := Tryz.f138) Tryz.func138 (by kernel_rfl) (by kernel_rfl) (by kernel_rfl) (ls := []) (by kernel_rfl) (kp := keepT []) (lps := loopsT []) (bump := false) (ice := false) (A := (codP [pCor])) (n := 1) (R := (codP [pB])) fun _ => lps_nil

theorem e_zEarly (a t : Int) : F_zEarly (a, t) = (
  some (decide (a < (0 : Int)))) := by kernel_rfl

/-! ### (horologe/zone.Zone).named$1 -/
noncomputable abbrev ct_zUnnamed : List (FuncId × Bool × SpecT) := [(94, false, s_pxName)]
theorem cs_zUnnamed : AllSound Tryz.prog ct_zUnnamed := ⟨so_pxName, trivial⟩
noncomputable def F_zUnnamed (x : ((Int × Bool × List UInt8))) : Option (Bool) := (evalF Tryz.prog (lookT ct_zUnnamed) (keepT []) (loopsT []) false false Tryz.f142 (codP [pTyp]) 1 (codP [pB]) x).run
noncomputable abbrev s_zUnnamed : SpecT := specF (codP [pTyp]) 1 (codP [pB]) F_zUnnamed
theorem so_zUnnamed : SoundT Tryz.prog 142 s_zUnnamed := soundG (P := Tryz.prog) mixed (t := ct_zUnnamed) cs_zUnnamed (f := 142) (fn := Tryz.f142) Tryz.func142 (by kernel_rfl) (by kernel_rfl) (by kernel_rfl) (ls := []) (by kernel_rfl) (kp := keepT []) (lps := loopsT []) (bump := false) (ice := false) (A := (codP [pTyp])) (n := 1) (R := (codP [pB])) fun _ => lps_nil

theorem e_zUnnamed (o : Int) (m : Bool) (s : List UInt8) : F_zUnnamed (o, m, s) = (
  (F_pxName s).bind fun x1 => some !x1) := by kernel_rfl

/-! ### horologe/zone.First$1 -/
noncomputable abbrev ct_zUsual : List (FuncId × Bool × SpecT) := []
theorem cs_zUsual : AllSound Tryz.prog ct_zUsual := trivial
noncomputable def F_zUsual (x : ((Int × Bool × List UInt8))) : Option (Bool) := (evalF Tryz.prog (lookT ct_zUsual) (keepT []) (loopsT []) false false Tryz.f57 (codP [pTyp]) 1 (codP [pB]) x).run
noncomputable abbrev s_zUsual : SpecT := specF (codP [pTyp]) 1 (codP [pB]) F_zUsual
theorem so_zUsual : SoundT Tryz.prog 57 s_zUsual := soundG (P := Tryz.prog) mixed (t := ct_zUsual) cs_zUsual (f := 57) (fn := Tryz.f57) Tryz.func57 (by kernel_rfl) (by kernel_rfl) (by kernel_rfl) (ls := []) (by kernel_rfl) (kp := keepT []) (lps := loopsT []) (bump := false) (ice := false) (A := (codP [pTyp])) (n := 1) (R := (codP [pB])) fun _ => lps_nil

theorem e_zUsual (o : Int) (m : Bool) (s : List UInt8) : F_zUsual (o, m, s) = (
  some !m) := by kernel_rfl


/-! ### slices.IndexFunc[[]int,int] -/
noncomputable abbrev ct_ixStrange : List (FuncId × Bool × SpecT) := [(136, false, s_zStrange)]
theorem cs_ixStrange : AllSound Tryz.prog ct_ixStrange := ⟨so_zStrange, trivial⟩
-- loop 0 (key 2) exit 0: [0, 1, 7, 8]
-- loop 0 (key 2) exit 2: [4]
-- loop 0 (key 2) exit 3: []
abbrev kp_ixStrange : Keep := keepT [(2, 0, [(0, none), (1, none), (7, none), (8, none)]), (2, 2, [(4, none)]), (2, 3, [])]
noncomputable abbrev b_ixStrange_0 : Code := loopAt Tryz.f179 0
noncomputable def sp_ixStrange_0 (x : ((List Int) × (List Int × List Int × List (Int × Bool × List UInt8) × List (Int × Int) × Bool × (List UInt8 × List UInt8 × Int × Int × (Int × Int × Int × Int × Int) × (Int × Int × Int × Int × Int))) × Int × Int)) : Option (((List Int) × (List Int × List Int × List (Int × Bool × List UInt8) × List (Int × Int) × Bool × (List UInt8 × List UInt8 × Int × Int × (Int × Int × Int × Int × Int) × (Int × Int × Int × Int × Int))) × Int × Int) ⊕ ((Int × (List Int × List Int × List (Int × Bool × List UInt8) × List (Int × Int) × Bool × (List UInt8 × List UInt8 × Int × Int × (Int × Int × Int × Int × Int) × (Int × Int × Int × Int × Int)))) ⊕ ((List Int × List Int × List (Int × Bool × List UInt8) × List (Int × Int) × Bool × (List UInt8 × List UInt8 × Int × Int × (Int × Int × Int × Int × Int) × (Int × Int × Int × Int × Int)))))) := (stepL Tryz.prog (lookT ct_ixStrange) kp_ixStrange (loopsT []) 1 false b_ixStrange_0 (codP [pL, (.fnb 136 [.p cZone]), pI, pI]) (exS (exO .ret (codP [pI, (.memw [.p cZone])])) (exO (.ext 0) (codP [(.memw [.p cZone])]))) x).run
noncomputable def w_ixStrange_0 : ((List Int) × (List Int × List Int × List (Int × Bool × List UInt8) × List (Int × Int) × Bool × (List UInt8 × List UInt8 × Int × Int × (Int × Int × Int × Int × Int) × (Int × Int × Int × Int × Int))) × Int × Int) → Option ((Int × (List Int × List Int × List (Int × Bool × List UInt8) × List (Int × Int) × Bool × (List UInt8 × List UInt8 × Int × Int × (Int × Int × Int × Int × Int) × (Int × Int × Int × Int × Int)))) ⊕ ((List Int × List Int × List (Int × Bool × List UInt8) × List (Int × Int) × Bool × (List UInt8 × List UInt8 × Int × Int × (Int × Int × Int × Int × Int) × (Int × Int × Int × Int × Int))))) := whileO sp_ixStrange_0
theorem ew_ixStrange_0 (x : ((List Int) × (List Int × List Int × List (Int × Bool × List UInt8) × List (Int × Int) × Bool × (List UInt8 × List UInt8 × Int × Int × (Int × Int × Int × Int × Int) × (Int × Int × Int × Int × Int))) × Int × Int)) : w_ixStrange_0 x = (sp_ixStrange_0 x).bind (Sum.elim w_ixStrange_0 some) := whileO_eq _ _
noncomputable abbrev l_ixStrange_0 : LT := ltF (codP [pL, (.fnb 136 [.p cZone]), pI, pI]) (exS (exO .ret (codP [pI, (.memw [.p cZone])])) (exO (.ext 0) (codP [(.memw [.p cZone])]))) w_ixStrange_0
theorem lo_ixStrange_0 : LoopOk Tryz.prog Tryz.f179.ntmps kp_ixStrange 1 false b_ixStrange_0 l_ixStrange_0 := loopG mixed cs_ixStrange (lps := loopsT []) (by kernel_rfl) (ls := []) (by kernel_rfl) lps_nil
noncomputable def F_ixStrange (x : ((List Int) × (List Int × List Int × List (Int × Bool × List UInt8) × List (Int × Int) × Bool × (List UInt8 × List UInt8 × Int × Int × (Int × Int × Int × Int × Int) × (Int × Int × Int × Int × Int))))) : Option (Int × (List Int × List Int × List (Int × Bool × List UInt8) × List (Int × Int) × Bool × (List UInt8 × List UInt8 × Int × Int × (Int × Int × Int × Int × Int) × (Int × Int × Int × Int × Int)))) := (evalF Tryz.prog (lookT ct_ixStrange) (kp_ixStrange) (loopsT [(2, l_ixStrange_0)]) false false Tryz.f179 (codP [pL, (.fnb 136 [.p cZone])]) 1 (codP [pI, (.memw [.p cZone])]) x).run
noncomputable abbrev s_ixStrange : SpecT := specF (codP [pL, (.fnb 136 [.p cZone])]) 1 (codP [pI, (.memw [.p cZone])]) F_ixStrange
theorem so_ixStrange : SoundT Tryz.prog 179 s_ixStrange := soundG (P := Tryz.prog) mixed (t := ct_ixStrange) cs_ixStrange (f := 179) (fn := Tryz.f179) Tryz.func179 (by kernel_rfl) (by kernel_rfl) (by kernel_rfl) (ls := [b_ixStrange_0]) (by kernel_rfl) (kp := kp_ixStrange) (lps := loopsT [(2, l_ixStrange_0)]) (bump := false) (ice := false) (A := (codP [pL, (.fnb 136 [.p cZone])])) (n := 1) (R := (codP [pI, (.memw [.p cZone])])) fun _ => (lps_cons l_ixStrange_0 (by kernel_rfl) lo_ixStrange_0 lps_nil)

theorem es_ixStrange_0 (l : List Int) (z : List Int × List Int × List (Int × Bool × List UInt8) × List (Int × Int) × Bool × (List UInt8 × List UInt8 × Int × Int × (Int × Int × Int × Int × Int) × (Int × Int × Int × Int × Int))) (n i : Int) : sp_ixStrange_0 (l, z, n, i) = (
  bif decide (i < n) then
    (getI l i).bind fun x1 => (F_zStrange (x1, z)).bind fun x2 => bif x2.fst then some (Sum.inr (Sum.inl (i, x2.snd))) else some (Sum.inl (l, x2.snd, n, IntKind.i64.wrap (i + (1 : Int))))
  else some (Sum.inr (Sum.inr z))) := by kernel_rfl

theorem e_ixStrange (l : List Int) (z : List Int × List Int × List (Int × Bool × List UInt8) × List (Int × Int) × Bool × (List UInt8 × List UInt8 × Int × Int × (Int × Int × Int × Int × Int) × (Int × Int × Int × Int × Int))) : F_ixStrange (l, z) = (
  (w_ixStrange_0 (l, z, (↑l.length : Int), (0 : Int))).bind fun x1 => Sum.elim (fun x2 => some x2) (fun x2 => some ((-1 : Int), x2)) x1) := by kernel_rfl

/-! ### slices.ContainsFunc[[]int,int] -/
noncomputable abbrev ct_cnStrange : List (FuncId × Bool × SpecT) := [(179, false, s_ixStrange)]
theorem cs_cnStrange : AllSound Tryz.prog ct_cnStrange := ⟨so_ixStrange, trivial⟩
noncomputable def F_cnStrange (x : ((List Int) × (List Int × List Int × List (Int × Bool × List UInt8) × List (Int × Int) × Bool × (List UInt8 × List UInt8 × Int × Int × (Int × Int × Int × Int × Int) × (Int × Int × Int × Int × Int))))) : Option (Bool × (List Int × List Int × List (Int × Bool × List UInt8) × List (Int × Int) × Bool × (List UInt8 × List UInt8 × Int × Int × (Int × Int × Int × Int × Int) × (Int × Int × Int × Int × Int)))) := (evalF Tryz.prog (lookT ct_cnStrange) (keepT []) (loopsT []) false false Tryz.f139 (codP [pL, (.fnb 136 [.p cZone])]) 1 (codP [pB, (.memw [.p cZone])]) x).run
noncomputable abbrev s_cnStrange : SpecT := specF (codP [pL, (.fnb 136 [.p cZone])]) 1 (codP [pB, (.memw [.p cZone])]) F_cnStrange
theorem so_cnStrange : SoundT Tryz.prog 139 s_cnStrange := soundG (P := Tryz.prog) mixed (t := ct_cnStrange) cs_cnStrange (f := 139) (fn := Tryz.f139) Tryz.func139 (by kernel_rfl) (by kernel_rfl) (by kernel_rfl) (ls := []) (by kernel_rfl) (kp := keepT []) (lps := loopsT []) (bump := false) (ice := false) (A := (codP [pL, (.fnb 136 [.p cZone])])) (n := 1) (R := (codP [pB, (.memw [.p cZone])])) fun _ => lps_nil

theorem e_cnStrange (l : List Int) (z : List Int × List Int × List (Int × Bool × List UInt8) × List (Int × Int) × Bool × (List UInt8 × List UInt8 × Int × Int × (Int × Int × Int × Int × Int) × (Int × Int × Int × Int × Int))) : F_cnStrange (l, z) = (
  (F_ixStrange (l, z)).bind fun x1 => some (decide ((0 : Int) ≤ x1.fst), x1.snd)) := by kernel_rfl


/-! ### slices.IndexFunc[[]horologe/zone.Type,horologe/zone.Type] -/
noncomputable abbrev ct_ixFar : List (FuncId × Bool × SpecT) := [(137, false, s_zFar)]
theorem cs_ixFar : AllSound Tryz.prog ct_ixFar := ⟨so_zFar, trivial⟩
-- loop 0 (key 2) exit 0: [0, 1, 7, 8]
-- loop 0 (key 2) exit 2: [4]
-- loop 0 (key 2) exit 3: []
abbrev kp_ixFar : Keep := keepT [(2, 0, [(0, none), (1, none), (7, none), (8, none)]), (2, 2, [(4, none)]), (2, 3, [])]
noncomputable abbrev b_ixFar_0 : Code := loopAt Tryz.f56 0
noncomputable def sp_ixFar_0 (x : ((List (Int × Bool × List UInt8)) × Unit × Int × Int)) : Option (((List (Int × Bool × List UInt8)) × Unit × Int × Int) ⊕ ((Int) ⊕ Unit)) := (stepL Tryz.prog (lookT ct_ixFar) kp_ixFar (loopsT []) 0 false b_ixFar_0 (codP [(.pure (.lst cTyp)), (.fn0 137), pI, pI]) (exS (exO .ret (codP [pI])) (exO (.ext 0) (codP []))) x).run
noncomputable def w_ixFar_0 : ((List (Int × Bool × List UInt8)) × Unit × Int × Int) → Option ((Int) ⊕ Unit) := whileO sp_ixFar_0
theorem ew_ixFar_0 (x : ((List (Int × Bool × List UInt8)) × Unit × Int × Int)) : w_ixFar_0 x = (sp_ixFar_0 x).bind (Sum.elim w_ixFar_0 some) := whileO_eq _ _
noncomputable abbrev l_ixFar_0 : LT := ltF (codP [(.pure (.lst cTyp)), (.fn0 137), pI, pI]) (exS (exO .ret (codP [pI])) (exO (.ext 0) (codP []))) w_ixFar_0
theorem lo_ixFar_0 : LoopOk Tryz.prog Tryz.f56.ntmps kp_ixFar 0 false b_ixFar_0 l_ixFar_0 := loopG mixed cs_ixFar (lps := loopsT []) (by kernel_rfl) (ls := []) (by kernel_rfl) lps_nil
noncomputable def F_ixFar (x : ((List (Int × Bool × List UInt8)) × Unit)) : Option (Int) := (evalF Tryz.prog (lookT ct_ixFar) (kp_ixFar) (loopsT [(2, l_ixFar_0)]) false false Tryz.f56 (codP [(.pure (.lst cTyp)), (.fn0 137)]) 1 (codP [pI]) x).run
noncomputable abbrev s_ixFar : SpecT := specF (codP [(.pure (.lst cTyp)), (.fn0 137)]) 1 (codP [pI]) F_ixFar
theorem so_ixFar : SoundT Tryz.prog 56 s_ixFar := soundG (P := Tryz.prog) mixed (t := ct_ixFar) cs_ixFar (f := 56) (fn := Tryz.f56) Tryz.func56 (by kernel_rfl) (by kernel_rfl) (by kernel_rfl) (ls := [b_ixFar_0]) (by kernel_rfl) (kp := kp_ixFar) (lps := loopsT [(2, l_ixFar_0)]) (bump := false) (ice := false) (A := (codP [(.pure (.lst cTyp)), (.fn0 137)])) (n := 1) (R := (codP [pI])) fun _ => (lps_cons l_ixFar_0 (by kernel_rfl) lo_ixFar_0 lps_nil)

theorem es_ixFar_0 (l : List (Int × Bool × List UInt8)) (n i : Int) : sp_ixFar_0 (l, (), n, i) = (
  bif decide (i < n) then (getI l i).bind fun x1 => (F_zFar x1).bind fun x2 => bif x2 then some (Sum.inr (Sum.inl i)) else some (Sum.inl (l, (), n, IntKind.i64.wrap (i + (1 : Int))))
  else some (Sum.inr (Sum.inr ()))) := by kernel_rfl

theorem e_ixFar (l : List (Int × Bool × List UInt8)) : F_ixFar (l, ()) = (
  (w_ixFar_0 (l, (), (↑l.length : Int), (0 : Int))).bind fun x1 => Sum.elim (fun x2 => some x2) (fun x2 => some (-1 : Int)) x1) := by kernel_rfl

/-! ### slices.ContainsFunc[[]horologe/zone.Type,horologe/zone.Type] -/
noncomputable abbrev ct_cnFar : List (FuncId × Bool × SpecT) := [(56, false, s_ixFar)]
theorem cs_cnFar : AllSound Tryz.prog ct_cnFar := ⟨so_ixFar, trivial⟩
noncomputable def F_cnFar (x : ((List (Int × Bool × List UInt8)) × Unit)) : Option (Bool) := (evalF Tryz.prog (lookT ct_cnFar) (keepT []) (loopsT []) false false Tryz.f140 (codP [(.pure (.lst cTyp)), (.fn0 137)]) 1 (codP [pB]) x).run
noncomputable abbrev s_cnFar : SpecT := specF (codP [(.pure (.lst cTyp)), (.fn0 137)]) 1 (codP [pB]) F_cnFar
theorem so_cnFar : SoundT Tryz.prog 140 s_cnFar := soundG (P := Tryz.prog) mixed (t := ct_cnFar) cs_cnFar (f := 140) (fn := Tryz.f140) Tryz.func140 (by kernel_rfl) (by kernel_rfl) (by kernel_rfl) (ls := []) (by kernel_rfl) (kp := keepT []) (lps := loopsT []) (bump := false) (ice := false) (A := (codP [(.pure (.lst cTyp)), (.fn0 137)])) (n := 1) (R := (codP [pB])) fun _ => lps_nil

theorem e_cnFar (l : List (Int × Bool × List UInt8)) : F_cnFar (l, ()) = (
  (F_ixFar (l, ())).bind fun x1 => some (decide ((0 : Int) ≤ x1))) := by kernel_rfl


/-! ### slices.IndexFunc[[]horologe/zone.Correction,horologe/zone.Correction] -/
noncomputable abbrev ct_ixEarly : List (FuncId × Bool × SpecT) := [(138, false, s_zEarly)]
theorem cs_ixEarly : AllSound Tryz.prog ct_ixEarly := ⟨so_zEarly, trivial⟩
-- loop 0 (key 2) exit 0: [0, 1, 7, 8]
-- loop 0 (key 2) exit 2: [4]
-- loop 0 (key 2) exit 3: []
abbrev kp_ixEarly : Keep := keepT [(2, 0, [(0, none), (1, none), (7, none), (8, none)]), (2, 2, [(4, none)]), (2, 3, [])]
noncomputable abbrev b_ixEarly_0 : Code := loopAt Tryz.f180 0
noncomputable def sp_ixEarly_0 (x : ((List (Int × Int)) × Unit × Int × Int)) : Option (((List (Int × Int)) × Unit × Int × Int) ⊕ ((Int) ⊕ Unit)) := (stepL Tryz.prog (lookT ct_ixEarly) kp_ixEarly (loopsT []) 0 false b_ixEarly_0 (codP [(.pure (.lst cCor)), (.fn0 138), pI, pI]) (exS (exO .ret (codP [pI])) (exO (.ext 0) (codP []))) x).run
noncomputable def w_ixEarly_0 : ((List (Int × Int)) × Unit × Int × Int) → Option ((Int) ⊕ Unit) := whileO sp_ixEarly_0
theorem ew_ixEarly_0 (x : ((List (Int × Int)) × Unit × Int × Int)) : w_ixEarly_0 x = (sp_ixEarly_0 x).bind (Sum.elim w_ixEarly_0 some) := whileO_eq _ _
noncomputable abbrev l_ixEarly_0 : LT := ltF (codP [(.pure (.lst cCor)), (.fn0 138), pI, pI]) (exS (exO .ret (codP [pI])) (exO (.ext 0) (codP []))) w_ixEarly_0
theorem lo_ixEarly_0 : LoopOk Tryz.prog Tryz.f180.ntmps kp_ixEarly 0 false b_ixEarly_0 l_ixEarly_0 := loopG mixed cs_ixEarly (lps := loopsT []) (by kernel_rfl) (ls := []) (by kernel_rfl) lps_nil
noncomputable def F_ixEarly (x : ((List (Int × Int)) × Unit)) : Option (Int) := (evalF Tryz.prog (lookT ct_ixEarly) (kp_ixEarly) (loopsT [(2, l_ixEarly_0)]) false false Tryz.f180 (codP [(.pure (.lst cCor)), (.fn0 138)]) 1 (codP [pI]) x).run
noncomputable abbrev s_ixEarly : SpecT := specF (codP [(.pure (.lst cCor)), (.fn0 138)]) 1 (codP [pI]) F_ixEarly
theorem so_ixEarly : SoundT Tryz.prog 180 s_ixEarly := soundG (P := Tryz.prog) mixed (t := ct_ixEarly) cs_ixEarly (f := 180) (fn := Tryz.f180) Tryz.func180 (by kernel_rfl) (by kernel_rfl) (by kernel_rfl) (ls := [b_ixEarly_0]) (by kernel_rfl) (kp := kp_ixEarly) (lps := loopsT [(2, l_ixEarly_0)]) (bump := false) (ice := false) (A := (codP [(.pure (.lst cCor)), (.fn0 138)])) (n := 1) (R := (codP [pI])) fun _ => (lps_cons l_ixEarly_0 (by kernel_rfl) lo_ixEarly_0 lps_nil)

theorem es_ixEarly_0 (l : List (Int × Int)) (n i : Int) : sp_ixEarly_0 (l, (), n, i) = (
  bif decide (i < n) then (getI l i).bind fun x1 => (F_zEarly x1).bind fun x2 => bif x2 then some (Sum.inr (Sum.inl i)) else some (Sum.inl (l, (), n, IntKind.i64.wrap (i + (1 : Int))))
  else some (Sum.inr (Sum.inr ()))) := by kernel_rfl

theorem e_ixEarly (l : List (Int × Int)) : F_ixEarly (l, ()) = (
  (w_ixEarly_0 (l, (), (↑l.length : Int), (0 : Int))).bind fun x1 => Sum.elim (fun x2 => some x2) (fun x2 => some (-1 : Int)) x1) := by kernel_rfl

/-! ### slices.ContainsFunc[[]horologe/zone.Correction,horologe/zone.Correction] -/
noncomputable abbrev ct_cnEarly : List (FuncId × Bool × SpecT) := [(180, false, s_ixEarly)]
theorem cs_cnEarly : AllSound Tryz.prog ct_cnEarly := ⟨so_ixEarly, trivial⟩
noncomputable def F_cnEarly (x : ((List (Int × Int)) × Unit)) : Option (Bool) := (evalF Tryz.prog (lookT ct_cnEarly) (keepT []) (loopsT []) false false Tryz.f141 (codP [(.pure (.lst cCor)), (.fn0 138)]) 1 (codP [pB]) x).run
noncomputable abbrev s_cnEarly : SpecT := specF (codP [(.pure (.lst cCor)), (.fn0 138)]) 1 (codP [pB]) F_cnEarly
theorem so_cnEarly : SoundT Tryz.prog 141 s_cnEarly := soundG (P := Tryz.prog) mixed (t := ct_cnEarly) cs_cnEarly (f := 141) (fn := Tryz.f141) Tryz.func141 (by kernel_rfl) (by kernel_rfl) (by kernel_rfl) (ls := []) (by kernel_rfl) (kp := keepT []) (lps := loopsT []) (bump := false) (ice := false) (A := (codP [(.pure (.lst cCor)), (.fn0 138)])) (n := 1) (R := (codP [pB])) fun _ => lps_nil

theorem e_cnEarly (l : List (Int × Int)) : F_cnEarly (l, ()) = (
  (F_ixEarly (l, ())).bind fun x1 => some (decide ((0 : Int) ≤ x1))) := by kernel_rfl


/-! ### slices.IndexFunc[[]horologe/zone.Type,horologe/zone.Type] -/
noncomputable abbrev ct_ixUnnamed : List (FuncId × Bool × SpecT) := [(142, false, s_zUnnamed)]
theorem cs_ixUnnamed : AllSound Tryz.prog ct_ixUnnamed := ⟨so_zUnnamed, trivial⟩
-- loop 0 (key 2) exit 0: [0, 1, 7, 8]
-- loop 0 (key 2) exit 2: [4]
-- loop 0 (key 2) exit 3: []
abbrev kp_ixUnnamed : Keep := keepT [(2, 0, [(0, none), (1, none), (7, none), (8, none)]), (2, 2, [(4, none)]), (2, 3, [])]
noncomputable abbrev b_ixUnnamed_0 : Code := loopAt Tryz.f56 0
noncomputable def sp_ixUnnamed_0 (x : ((List (Int × Bool × List UInt8)) × Unit × Int × Int)) : Option (((List (Int × Bool × List UInt8)) × Unit × Int × Int) ⊕ ((Int) ⊕ Unit)) := (stepL Tryz.prog (lookT ct_ixUnnamed) kp_ixUnnamed (loopsT []) 0 false b_ixUnnamed_0 (codP [(.pure (.lst cTyp)), (.fn0 142), pI, pI]) (exS (exO .ret (codP [pI])) (exO (.ext 0) (codP []))) x).run
noncomputable def w_ixUnnamed_0 : ((List (Int × Bool × List UInt8)) × Unit × Int × Int) → Option ((Int) ⊕ Unit) := whileO sp_ixUnnamed_0
theorem ew_ixUnnamed_0 (x : ((List (Int × Bool × List UInt8)) × Unit × Int × Int)) : w_ixUnnamed_0 x = (sp_ixUnnamed_0 x).bind (Sum.elim w_ixUnnamed_0 some) := whileO_eq _ _
noncomputable abbrev l_ixUnnamed_0 : LT := ltF (codP [(.pure (.lst cTyp)), (.fn0 142), pI, pI]) (exS (exO .ret (codP [pI])) (exO (.ext 0) (codP []))) w_ixUnnamed_0
theorem lo_ixUnnamed_0 : LoopOk Tryz.prog Tryz.f56.ntmps kp_ixUnnamed 0 false b_ixUnnamed_0 l_ixUnnamed_0 := loopG mixed cs_ixUnnamed (lps := loopsT []) (by kernel_rfl) (ls := []) (by kernel_rfl) lps_nil
noncomputable def F_ixUnnamed (x : ((List (Int × Bool × List UInt8)) × Unit)) : Option (Int) := (evalF Tryz.prog (lookT ct_ixUnnamed) (kp_ixUnnamed) (loopsT [(2, l_ixUnnamed_0)]) false false Tryz.f56 (codP [(.pure (.lst cTyp)), (.fn0 142)]) 1 (codP [pI]) x).run
noncomputable abbrev s_ixUnnamed : SpecT := specF (codP [(.pure (.lst cTyp)), (.fn0 142)]) 1 (codP [pI]) F_ixUnnamed
theorem so_ixUnnamed : SoundT Tryz.prog 56 s_ixUnnamed := soundG (P := Tryz.prog) mixed (t := ct_ixUnnamed) cs_ixUnnamed (f := 56) (fn := Tryz.f56) Tryz.func56 (by kernel_rfl) (by kernel_rfl) (by kernel_rfl) (ls := [b_ixUnnamed_0]) (by kernel_rfl) (kp := kp_ixUnnamed) (lps := loopsT [(2, l_ixUnnamed_0)]) (bump := false) (ice := false) (A := (codP [(.pure (.lst cTyp)), (.fn0 142)])) (n := 1) (R := (codP [pI])) fun _ => (lps_cons l_ixUnnamed_0 (by kernel_rfl) lo_ixUnnamed_0 lps_nil)

theorem es_ixUnnamed_0 (l : List (Int × Bool × List UInt8)) (n i : Int) : sp_ixUnnamed_0 (l, (), n, i) = (
  bif decide (i < n) then (getI l i).bind fun x1 => (F_zUnnamed x1).bind fun x2 => bif x2 then some (Sum.inr (Sum.inl i)) else some (Sum.inl (l, (), n, IntKind.i64.wrap (i + (1 : Int))))
  else some (Sum.inr (Sum.inr ()))) := by kernel_rfl

theorem e_ixUnnamed (l : List (Int × Bool × List UInt8)) : F_ixUnnamed (l, ()) = (
  (w_ixUnnamed_0 (l, (), (↑l.length : Int), (0 : Int))).bind fun x1 => Sum.elim (fun x2 => some x2) (fun x2 => some (-1 : Int)) x1) := by kernel_rfl

/-! ### slices.ContainsFunc[[]horologe/zone.Type,horologe/zone.Type] -/
noncomputable abbrev ct_cnUnnamed : List (FuncId × Bool × SpecT) := [(56, false, s_ixUnnamed)]
theorem cs_cnUnnamed : AllSound Tryz.prog ct_cnUnnamed := ⟨so_ixUnnamed, trivial⟩
noncomputable def F_cnUnnamed (x : ((List (Int × Bool × List UInt8)) × Unit)) : Option (Bool) := (evalF Tryz.prog (lookT ct_cnUnnamed) (keepT []) (loopsT []) false false Tryz.f140 (codP [(.pure (.lst cTyp)), (.fn0 142)]) 1 (codP [pB]) x).run
noncomputable abbrev s_cnUnnamed : SpecT := specF (codP [(.pure (.lst cTyp)), (.fn0 142)]) 1 (codP [pB]) F_cnUnnamed
theorem so_cnUnnamed : SoundT Tryz.prog 140 s_cnUnnamed := soundG (P := Tryz.prog) mixed (t := ct_cnUnnamed) cs_cnUnnamed (f := 140) (fn := Tryz.f140) Tryz.func140 (by kernel_rfl) (by kernel_rfl) (by kernel_rfl) (ls := []) (by kernel_rfl) (kp := keepT []) (lps := loopsT []) (bump := false) (ice := false) (A := (codP [(.pure (.lst cTyp)), (.fn0 142)])) (n := 1) (R := (codP [pB])) fun _ => lps_nil

theorem e_cnUnnamed (l : List (Int × Bool × List UInt8)) : F_cnUnnamed (l, ()) = (
  (F_ixUnnamed (l, ())).bind fun x1 => some (decide ((0 : Int) ≤ x1))) := by kernel_rfl


/-! ### slices.IndexFunc[[]horologe/zone.Type,horologe/zone.Type] -/
noncomputable abbrev ct_ixUsual : List (FuncId × Bool × SpecT) := [(57, false, s_zUsual)]
theorem cs_ixUsual : AllSound Tryz.prog ct_ixUsual := ⟨so_zUsual, trivial⟩
-- loop 0 (key 2) exit 0: [0, 1, 7, 8]
-- loop 0 (key 2) exit 2: [4]
-- loop 0 (key 2) exit 3: []
abbrev kp_ixUsual : Keep := keepT [(2, 0, [(0, none), (1, none), (7, none), (8, none)]), (2, 2, [(4, none)]), (2, 3, [])]
noncomputable abbrev b_ixUsual_0 : Code := loopAt Tryz.f56 0
noncomputable def sp_ixUsual_0 (x : ((List (Int × Bool × List UInt8)) × Unit × Int × Int)) : Option (((List (Int × Bool × List UInt8)) × Unit × Int × Int) ⊕ ((Int) ⊕ Unit)) := (stepL Tryz.prog (lookT ct_ixUsual) kp_ixUsual (loopsT []) 0 false b_ixUsual_0 (codP [(.pure (.lst cTyp)), (.fn0 57), pI, pI]) (exS (exO .ret (codP [pI])) (exO (.ext 0) (codP []))) x).run
noncomputable def w_ixUsual_0 : ((List (Int × Bool × List UInt8)) × Unit × Int × Int) → Option ((Int) ⊕ Unit) := whileO sp_ixUsual_0
theorem ew_ixUsual_0 (x : ((List (Int × Bool × List UInt8)) × Unit × Int × Int)) : w_ixUsual_0 x = (sp_ixUsual_0 x).bind (Sum.elim w_ixUsual_0 some) := whileO_eq _ _
noncomputable abbrev l_ixUsual_0 : LT := ltF (codP [(.pure (.lst cTyp)), (.fn0 57), pI, pI]) (exS (exO .ret (codP [pI])) (exO (.ext 0) (codP []))) w_ixUsual_0
theorem lo_ixUsual_0 : LoopOk Tryz.prog Tryz.f56.ntmps kp_ixUsual 0 false b_ixUsual_0 l_ixUsual_0 := loopG mixed cs_ixUsual (lps := loopsT []) (by kernel_rfl) (ls := []) (by kernel_rfl) lps_nil
noncomputable def F_ixUsual (x : ((List (Int × Bool × List UInt8)) × Unit)) : Option (Int) := (evalF Tryz.prog (lookT ct_ixUsual) (kp_ixUsual) (loopsT [(2, l_ixUsual_0)]) false false Tryz.f56 (codP [(.pure (.lst cTyp)), (.fn0 57)]) 1 (codP [pI]) x).run
noncomputable abbrev s_ixUsual : SpecT := specF (codP [(.pure (.lst cTyp)), (.fn0 57)]) 1 (codP [pI]) F_ixUsual
theorem so_ixUsual : SoundT Tryz.prog 56 s_ixUsual := soundG (P := Tryz.prog) mixed (t := ct_ixUsual) cs_ixUsual (f := 56) (fn := Tryz.f56) Tryz.func56 (by kernel_rfl) (by kernel_rfl) (by kernel_rfl) (ls := [b_ixUsual_0]) (by kernel_rfl) (kp := kp_ixUsual) (lps := loopsT [(2, l_ixUsual_0)]) (bump := false) (ice := false) (A := (codP [(.pure (.lst cTyp)), (.fn0 57)])) (n := 1) (R := (codP [pI])) fun _ => (lps_cons l_ixUsual_0 (by kernel_rfl) lo_ixUsual_0 lps_nil)

theorem es_ixUsual_0 (l : List (Int × Bool × List UInt8)) (n i : Int) : sp_ixUsual_0 (l, (), n, i) = (
  bif decide (i < n) then (getI l i).bind fun x1 => (F_zUsual x1).bind fun x2 => bif x2 then some (Sum.inr (Sum.inl i)) else some (Sum.inl (l, (), n, IntKind.i64.wrap (i + (1 : Int))))
  else some (Sum.inr (Sum.inr ()))) := by kernel_rfl

theorem e_ixUsual (l : List (Int × Bool × List UInt8)) : F_ixUsual (l, ()) = (
  (w_ixUsual_0 (l, (), (↑l.length : Int), (0 : Int))).bind fun x1 => Sum.elim (fun x2 => some x2) (fun x2 => some (-1 : Int)) x1) := by kernel_rfl


/-! ### slices.Index[[]string,string] -/
noncomputable abbrev ct_ixStr : List (FuncId × Bool × SpecT) := []
theorem cs_ixStr : AllSound Tryz.prog ct_ixStr := trivial
-- loop 0 (key 2) exit 0: [0, 1, 7, 8]
-- loop 0 (key 2) exit 2: [4]
-- loop 0 (key 2) exit 3: []
abbrev kp_ixStr : Keep := keepT [(2, 0, [(0, none), (1, none), (7, none), (8, none)]), (2, 2, [(4, none)]), (2, 3, [])]
noncomputable abbrev b_ixStr_0 : Code := loopAt Tryz.f100 0
noncomputable def sp_ixStr_0 (x : ((List (List UInt8)) × (List UInt8) × Int × Int)) : Option (((List (List UInt8)) × (List UInt8) × Int × Int) ⊕ ((Int) ⊕ Unit)) := (stepL Tryz.prog (lookT ct_ixStr) kp_ixStr (loopsT []) 0 false b_ixStr_0 (codP [(.pure (.lst .str)), pS, pI, pI]) (exS (exO .ret (codP [pI])) (exO (.ext 0) (codP []))) x).run
noncomputable def w_ixStr_0 : ((List (List UInt8)) × (List UInt8) × Int × Int) → Option ((Int) ⊕ Unit) := whileO sp_ixStr_0
theorem ew_ixStr_0 (x : ((List (List UInt8)) × (List UInt8) × Int × Int)) : w_ixStr_0 x = (sp_ixStr_0 x).bind (Sum.elim w_ixStr_0 some) := whileO_eq _ _
noncomputable abbrev l_ixStr_0 : LT := ltF (codP [(.pure (.lst .str)), pS, pI, pI]) (exS (exO .ret (codP [pI])) (exO (.ext 0) (codP []))) w_ixStr_0
theorem lo_ixStr_0 : LoopOk Tryz.prog Tryz.f100.ntmps kp_ixStr 0 false b_ixStr_0 l_ixStr_0 := loopG mixed cs_ixStr (lps := loopsT []) (by kernel_rfl) (ls := []) (by kernel_rfl) lps_nil
noncomputable def F_ixStr (x : ((List (List UInt8)) × (List UInt8))) : Option (Int) := (evalF Tryz.prog (lookT ct_ixStr) (kp_ixStr) (loopsT [(2, l_ixStr_0)]) false false Tryz.f100 (codP [(.pure (.lst .str)), pS]) 1 (codP [pI]) x).run
noncomputable abbrev s_ixStr : SpecT := specF (codP [(.pure (.lst .str)), pS]) 1 (codP [pI]) F_ixStr
theorem so_ixStr : SoundT Tryz.prog 100 s_ixStr := soundG (P := Tryz.prog) mixed (t := ct_ixStr) cs_ixStr (f := 100) (fn := Tryz.f100) Tryz.func100 (by kernel_rfl) (by kernel_rfl) (by kernel_rfl) (ls := [b_ixStr_0]) (by kernel_rfl) (kp := kp_ixStr) (lps := loopsT [(2, l_ixStr_0)]) (bump := false) (ice := false) (A := (codP [(.pure (.lst .str)), pS])) (n := 1) (R := (codP [pI])) fun _ => (lps_cons l_ixStr_0 (by kernel_rfl) lo_ixStr_0 lps_nil)

theorem es_ixStr_0 (l : List (List UInt8)) (s : List UInt8) (n i : Int) : sp_ixStr_0 (l, s, n, i) = (
  bif decide (i < n) then (getI l i).bind fun x1 => bif decide (s = x1) then some (Sum.inr (Sum.inl i)) else some (Sum.inl (l, s, n, IntKind.i64.wrap (i + (1 : Int)))) else some (Sum.inr (Sum.inr ()))) := by kernel_rfl

theorem e_ixStr (l : List (List UInt8)) (s : List UInt8) : F_ixStr (l, s) = (
  (w_ixStr_0 (l, s, (↑l.length : Int), (0 : Int))).bind fun x1 => Sum.elim (fun x2 => some x2) (fun x2 => some (-1 : Int)) x1) := by kernel_rfl

/-! ### slices.Contains[[]string,string] -/
noncomputable abbrev ct_cnStr : List (FuncId × Bool × SpecT) := [(100, false, s_ixStr)]
theorem cs_cnStr : AllSound Tryz.prog ct_cnStr := ⟨so_ixStr, trivial⟩
noncomputable def F_cnStr (x : ((List (List UInt8)) × (List UInt8))) : Option (Bool) := (evalF Tryz.prog (lookT ct_cnStr) (keepT []) (loopsT []) false false Tryz.f55 (codP [(.pure (.lst .str)), pS]) 1 (codP [pB]) x).run
noncomputable abbrev s_cnStr : SpecT := specF (codP [(.pure (.lst .str)), pS]) 1 (codP [pB]) F_cnStr
theorem so_cnStr : SoundT Tryz.prog 55 s_cnStr := soundG (P := Tryz.prog) mixed (t := ct_cnStr) cs_cnStr (f := 55) (fn := Tryz.f55) Tryz.func55 (by kernel_rfl) (by kernel_rfl) (by kernel_rfl) (ls := []) (by kernel_rfl) (kp := keepT []) (lps := loopsT []) (bump := false) (ice := false) (A := (codP [(.pure (.lst .str)), pS])) (n := 1) (R := (codP [pB])) fun _ => lps_nil

theorem e_cnStr (l : List (List UInt8)) (s : List UInt8) : F_cnStr (l, s) = (
  (F_ixStr (l, s)).bind fun x1 => some (decide ((0 : Int) ≤ x1))) := by kernel_rfl


/-! ### (horologe/zone.Zone).long -/
noncomputable abbrev ct_zLong : List (FuncId × Bool × SpecT) := []
theorem cs_zLong : AllSound Tryz.prog ct_zLong := trivial
noncomputable def F_zLong (x : ((List Int × List Int × List (Int × Bool × List UInt8) × List (Int × Int) × Bool × (List UInt8 × List UInt8 × Int × Int × (Int × Int × Int × Int × Int) × (Int × Int × Int × Int × Int))))) : Option (Bool) := (evalF Tryz.prog (lookT ct_zLong) (keepT []) (loopsT []) false false Tryz.f89 (codP [pZone]) 1 (codP [pB]) x).run
noncomputable abbrev s_zLong : SpecT := specF (codP [pZone]) 1 (codP [pB]) F_zLong
theorem so_zLong : SoundT Tryz.prog 89 s_zLong := soundG (P := Tryz.prog) mixed (t := ct_zLong) cs_zLong (f := 89) (fn := Tryz.f89) Tryz.func89 (by kernel_rfl) (by kernel_rfl) (by kernel_rfl) (ls := []) (by kernel_rfl) (kp := keepT []) (lps := loopsT []) (bump := false) (ice := false) (A := (codP [pZone])) (n := 1) (R := (codP [pB])) fun _ => lps_nil

theorem e_zLong (z : List Int × List Int × List (Int × Bool × List UInt8) × List (Int × Int) × Bool × (List UInt8 × List UInt8 × Int × Int × (Int × Int × Int × Int × Int) × (Int × Int × Int × Int × Int))) : F_zLong z = (
  bif decide ((256 : Int) < (↑(List.length z.snd.snd.fst) : Int)) then some true
  else bif decide ((2000 : Int) < (↑(List.length z.fst) : Int)) then some true else some (decide ((100 : Int) < (↑(List.length z.snd.snd.snd.fst) : Int)))) := by kernel_rfl

/-! ### (horologe/zone.Zone).ranged -/
noncomputable abbrev ct_zRanged : List (FuncId × Bool × SpecT) := [(139, false, s_cnStrange), (140, false, s_cnFar), (141, false, s_cnEarly)]
theorem cs_zRanged : AllSound Tryz.prog ct_zRanged := ⟨so_cnStrange, so_cnFar, so_cnEarly, trivial⟩
noncomputable def F_zRanged (x : ((List Int × List Int × List (Int × Bool × List UInt8) × List (Int × Int) × Bool × (List UInt8 × List UInt8 × Int × Int × (Int × Int × Int × Int × Int) × (Int × Int × Int × Int × Int))))) : Option (Bool) := (evalF Tryz.prog (lookT ct_zRanged) (keepT []) (loopsT []) false false Tryz.f90 (codP [pZone]) 1 (codP [pB]) x).run
noncomputable abbrev s_zRanged : SpecT := specF (codP [pZone]) 1 (codP [pB]) F_zRanged
theorem so_zRanged : SoundT Tryz.prog 90 s_zRanged := soundG (P := Tryz.prog) mixed (t := ct_zRanged) cs_zRanged (f := 90) (fn := Tryz.f90) Tryz.func90 (by kernel_rfl) (by kernel_rfl) (by kernel_rfl) (ls := []) (by kernel_rfl) (kp := keepT []) (lps := loopsT []) (bump := false) (ice := false) (A := (codP [pZone])) (n := 1) (R := (codP [pB])) fun _ => lps_nil

theorem e_zRanged (z : List Int × List Int × List (Int × Bool × List UInt8) × List (Int × Int) × Bool × (List UInt8 × List UInt8 × Int × Int × (Int × Int × Int × Int × Int) × (Int × Int × Int × Int × Int))) : F_zRanged z = (
  (F_cnStrange (z.snd.fst, z)).bind fun x1 =>
    bif !x1.fst then (F_cnFar (x1.snd.snd.snd.fst, ())).bind fun x2 => bif !x2 then (F_cnEarly (x1.snd.snd.snd.snd.fst, ())).bind fun x3 => some !x3 else some false else some false) := by kernel_rfl

/-! ### (horologe/zone.Zone).named -/
noncomputable abbrev ct_zNamed : List (FuncId × Bool × SpecT) := [(140, false, s_cnUnnamed)]
theorem cs_zNamed : AllSound Tryz.prog ct_zNamed := ⟨so_cnUnnamed, trivial⟩
noncomputable def F_zNamed (x : ((List Int × List Int × List (Int × Bool × List UInt8) × List (Int × Int) × Bool × (List UInt8 × List UInt8 × Int × Int × (Int × Int × Int × Int × Int) × (Int × Int × Int × Int × Int))))) : Option (Bool) := (evalF Tryz.prog (lookT ct_zNamed) (keepT []) (loopsT []) false false Tryz.f91 (codP [pZone]) 1 (codP [pB]) x).run
noncomputable abbrev s_zNamed : SpecT := specF (codP [pZone]) 1 (codP [pB]) F_zNamed
theorem so_zNamed : SoundT Tryz.prog 91 s_zNamed := soundG (P := Tryz.prog) mixed (t := ct_zNamed) cs_zNamed (f := 91) (fn := Tryz.f91) Tryz.func91 (by kernel_rfl) (by kernel_rfl) (by kernel_rfl) (ls := []) (by kernel_rfl) (kp := keepT []) (lps := loopsT []) (bump := false) (ice := false) (A := (codP [pZone])) (n := 1) (R := (codP [pB])) fun _ => lps_nil

theorem e_zNamed (z : List Int × List Int × List (Int × Bool × List UInt8) × List (Int × Int) × Bool × (List UInt8 × List UInt8 × Int × Int × (Int × Int × Int × Int × Int) × (Int × Int × Int × Int × Int))) : F_zNamed z = (
  (F_cnUnnamed (z.snd.snd.fst, ())).bind fun x1 => some !x1) := by kernel_rfl


/-! ### horologe/zone.Names -/
noncomputable abbrev ct_zNames : List (FuncId × Bool × SpecT) := [(55, true, s_cnStr)]
theorem cs_zNames : AllSound Tryz.prog ct_zNames := ⟨so_cnStr, trivial⟩
-- loop 0 (key 3) exit 0: [3, 7, 8, 9]
-- loop 0 (key 3) exit 3: [3]
abbrev kp_zNames : Keep := keepT [(3, 0, [(3, some .str), (7, none), (8, none), (9, none)]), (3, 3, [(3, some .str)])]
noncomputable abbrev b_zNames_0 : Code := loopAt Tryz.f14 0
noncomputable def sp_zNames_0 (x : ((List (List UInt8)) × (List (Int × Bool × List UInt8)) × Int × Int)) : Option (((List (List UInt8)) × (List (Int × Bool × List UInt8)) × Int × Int) ⊕ ((List (List UInt8)))) := (stepL Tryz.prog (lookT ct_zNames) kp_zNames (loopsT []) 0 false b_zNames_0 (codP [(.own .str), (.pure (.lst cTyp)), pI, pI]) (exO (.ext 0) (codP [(.own .str)])) x).run
noncomputable def w_zNames_0 : ((List (List UInt8)) × (List (Int × Bool × List UInt8)) × Int × Int) → Option ((List (List UInt8))) := whileO sp_zNames_0
theorem ew_zNames_0 (x : ((List (List UInt8)) × (List (Int × Bool × List UInt8)) × Int × Int)) : w_zNames_0 x = (sp_zNames_0 x).bind (Sum.elim w_zNames_0 some) := whileO_eq _ _
noncomputable abbrev l_zNames_0 : LT := ltF (codP [(.own .str), (.pure (.lst cTyp)), pI, pI]) (exO (.ext 0) (codP [(.own .str)])) w_zNames_0
theorem lo_zNames_0 : LoopOk Tryz.prog Tryz.f14.ntmps kp_zNames 0 false b_zNames_0 l_zNames_0 := loopG mixed cs_zNames (lps := loopsT []) (by kernel_rfl) (ls := []) (by kernel_rfl) lps_nil
noncomputable def F_zNames (x : ((List Int × List Int × List (Int × Bool × List UInt8) × List (Int × Int) × Bool × (List UInt8 × List UInt8 × Int × Int × (Int × Int × Int × Int × Int) × (Int × Int × Int × Int × Int))))) : Option ((List (List UInt8))) := (evalF Tryz.prog (lookT ct_zNames) (kp_zNames) (loopsT [(3, l_zNames_0)]) false true Tryz.f14 (codP [pZone]) 1 (codP [(.pure (.lst .str))]) x).run
noncomputable abbrev s_zNames : SpecT := specF (codP [pZone]) 1 (codP [(.pure (.lst .str))]) F_zNames
theorem so_zNames : SoundT Tryz.prog 14 s_zNames := soundG (P := Tryz.prog) mixed (t := ct_zNames) cs_zNames (f := 14) (fn := Tryz.f14) Tryz.func14 (by kernel_rfl) (by kernel_rfl) (by kernel_rfl) (ls := [b_zNames_0]) (by kernel_rfl) (kp := kp_zNames) (lps := loopsT [(3, l_zNames_0)]) (bump := false) (ice := true) (A := (codP [pZone])) (n := 1) (R := (codP [(.pure (.lst .str))])) fun _ => (lps_cons l_zNames_0 (by kernel_rfl) lo_zNames_0 lps_nil)

theorem es_zNames_0 (o : List (List UInt8)) (l : List (Int × Bool × List UInt8)) (n i : Int) : sp_zNames_0 (o, l, n, i) = (
  bif decide (i < n) then
    (getI l i).bind fun x1 =>
      (F_cnStr (o, x1.snd.snd)).bind fun x2 =>
        bif !x2 then bif roomB o.length [x1.snd.snd].length (16 : Nat) then some (Sum.inl (o ++ [x1.snd.snd], l, n, IntKind.i64.wrap (i + (1 : Int)))) else none
        else some (Sum.inl (o, l, n, IntKind.i64.wrap (i + (1 : Int))))
  else some (Sum.inr o)) := by kernel_rfl

theorem e_zNames (z : List Int × List Int × List (Int × Bool × List UInt8) × List (Int × Int) × Bool × (List UInt8 × List UInt8 × Int × Int × (Int × Int × Int × Int × Int) × (Int × Int × Int × Int × Int))) : F_zNames z = (
  (w_zNames_0 ([], z.snd.snd.fst, (↑(List.length z.snd.snd.fst) : Int), (0 : Int))).bind fun x1 => some x1) := by kernel_rfl


/-! ### (horologe/zone.Zone).wide -/
noncomputable abbrev ct_zWide : List (FuncId × Bool × SpecT) := [(14, false, s_zNames)]
theorem cs_zWide : AllSound Tryz.prog ct_zWide := ⟨so_zNames, trivial⟩
-- loop 0 (key 3) exit 0: [3, 7, 8, 9]
-- loop 0 (key 3) exit 3: [3]
abbrev kp_zWide : Keep := keepT [(3, 0, [(3, none), (7, none), (8, none), (9, none)]), (3, 3, [(3, none)])]
noncomputable abbrev b_zWide_0 : Code := loopAt Tryz.f92 0
noncomputable def sp_zWide_0 (x : (Int × (List (List UInt8)) × Int × Int)) : Option ((Int × (List (List UInt8)) × Int × Int) ⊕ (Int)) := (stepL Tryz.prog (lookT ct_zWide) kp_zWide (loopsT []) 0 false b_zWide_0 (codP [pI, (.pure (.lst .str)), pI, pI]) (exO (.ext 0) (codP [pI])) x).run
noncomputable def w_zWide_0 : (Int × (List (List UInt8)) × Int × Int) → Option (Int) := whileO sp_zWide_0
theorem ew_zWide_0 (x : (Int × (List (List UInt8)) × Int × Int)) : w_zWide_0 x = (sp_zWide_0 x).bind (Sum.elim w_zWide_0 some) := whileO_eq _ _
noncomputable abbrev l_zWide_0 : LT := ltF (codP [pI, (.pure (.lst .str)), pI, pI]) (exO (.ext 0) (codP [pI])) w_zWide_0
theorem lo_zWide_0 : LoopOk Tryz.prog Tryz.f92.ntmps kp_zWide 0 false b_zWide_0 l_zWide_0 := loopG mixed cs_zWide (lps := loopsT []) (by kernel_rfl) (ls := []) (by kernel_rfl) lps_nil
noncomputable def F_zWide (x : ((List Int × List Int × List (Int × Bool × List UInt8) × List (Int × Int) × Bool × (List UInt8 × List UInt8 × Int × Int × (Int × Int × Int × Int × Int) × (Int × Int × Int × Int × Int))))) : Option (Int) := (evalF Tryz.prog (lookT ct_zWide) (kp_zWide) (loopsT [(3, l_zWide_0)]) false false Tryz.f92 (codP [pZone]) 1 (codP [pI]) x).run
noncomputable abbrev s_zWide : SpecT := specF (codP [pZone]) 1 (codP [pI]) F_zWide
theorem so_zWide : SoundT Tryz.prog 92 s_zWide := soundG (P := Tryz.prog) mixed (t := ct_zWide) cs_zWide (f := 92) (fn := Tryz.f92) Tryz.func92 (by kernel_rfl) (by kernel_rfl) (by kernel_rfl) (ls := [b_zWide_0]) (by kernel_rfl) (kp := kp_zWide) (lps := loopsT [(3, l_zWide_0)]) (bump := false) (ice := false) (A := (codP [pZone])) (n := 1) (R := (codP [pI])) fun _ => (lps_cons l_zWide_0 (by kernel_rfl) lo_zWide_0 lps_nil)

theorem es_zWide_0 (w : Int) (l : List (List UInt8)) (n i : Int) : sp_zWide_0 (w, l, n, i) = (
  bif decide (i < n) then (getI l i).bind fun x1 => some (Sum.inl (IntKind.i64.wrap (w + IntKind.i64.wrap ((↑x1.length : Int) + (1 : Int))), l, n, IntKind.i64.wrap (i + (1 : Int))))
  else some (Sum.inr w)) := by kernel_rfl

theorem e_zWide (z : List Int × List Int × List (Int × Bool × List UInt8) × List (Int × Int) × Bool × (List UInt8 × List UInt8 × Int × Int × (Int × Int × Int × Int × Int) × (Int × Int × Int × Int × Int))) : F_zWide z = (
  (F_zNames z).bind fun x1 => (w_zWide_0 ((0 : Int), x1, (↑x1.length : Int), (0 : Int))).bind fun x2 => some x2) := by kernel_rfl


/-! ### horologe/zone.one -/
noncomputable abbrev ct_zOne : List (FuncId × Bool × SpecT) := []
theorem cs_zOne : AllSound Tryz.prog ct_zOne := trivial
noncomputable def F_zOne (x : (Int)) : Option (Bool) := (evalF Tryz.prog (lookT ct_zOne) (keepT []) (loopsT []) false false Tryz.f143 (codP [pI]) 1 (codP [pB]) x).run
noncomputable abbrev s_zOne : SpecT := specF (codP [pI]) 1 (codP [pB]) F_zOne
theorem so_zOne : SoundT Tryz.prog 143 s_zOne := soundG (P := Tryz.prog) mixed (t := ct_zOne) cs_zOne (f := 143) (fn := Tryz.f143) Tryz.func143 (by kernel_rfl) (by kernel_rfl) (by kernel_rfl) (ls := []) (by kernel_rfl) (kp := keepT []) (lps := loopsT []) (bump := false) (ice := false) (A := (codP [pI])) (n := 1) (R := (codP [pB])) fun _ => lps_nil

theorem e_zOne (n : Int) : F_zOne n = (
  bif decide (n = (1 : Int)) then some true else some (decide (n = (-1 : Int)))) := by kernel_rfl


/-! ### (horologe/zone.Zone).ordered -/
noncomputable abbrev ct_zOrdered : List (FuncId × Bool × SpecT) := [(143, false, s_zOne)]
theorem cs_zOrdered : AllSound Tryz.prog ct_zOrdered := ⟨so_zOne, trivial⟩
-- loop 0 (key 2) exit 0: [1, 3]
-- loop 0 (key 2) exit 2: [2]
-- loop 0 (key 2) exit 3: [1]
-- loop 1 (key 8) exit 0: [4, 27, 28, 29]
-- loop 1 (key 8) exit 2: [2]
-- loop 1 (key 8) exit 5: []
abbrev kp_zOrdered : Keep := keepT [(2, 0, [(1, none), (3, none)]), (2, 2, [(2, none)]), (2, 3, [(1, none)]), (8, 0, [(4, none), (27, none), (28, none), (29, none)]), (8, 2, [(2, none)]), (8, 5, [])]
noncomputable abbrev b_zOrdered_0 : Code := loopAt Tryz.f93 0
noncomputable abbrev b_zOrdered_1 : Code := loopAt Tryz.f93 1
noncomputable def sp_zOrdered_1 (x : ((Int × Int) × (List (Int × Int)) × Int × Int)) : Option (((Int × Int) × (List (Int × Int)) × Int × Int) ⊕ ((Bool) ⊕ Unit)) := (stepL Tryz.prog (lookT ct_zOrdered) kp_zOrdered (loopsT []) 0 false b_zOrdered_1 (codP [(.box cCor), (.pure (.lst cCor)), pI, pI]) (exS (exO .ret (codP [pB])) (exO (.ext 2) (codP []))) x).run
noncomputable def w_zOrdered_1 : ((Int × Int) × (List (Int × Int)) × Int × Int) → Option ((Bool) ⊕ Unit) := whileO sp_zOrdered_1
theorem ew_zOrdered_1 (x : ((Int × Int) × (List (Int × Int)) × Int × Int)) : w_zOrdered_1 x = (sp_zOrdered_1 x).bind (Sum.elim w_zOrdered_1 some) := whileO_eq _ _
noncomputable abbrev l_zOrdered_1 : LT := ltF (codP [(.box cCor), (.pure (.lst cCor)), pI, pI]) (exS (exO .ret (codP [pB])) (exO (.ext 2) (codP []))) w_zOrdered_1
theorem lo_zOrdered_1 : LoopOk Tryz.prog Tryz.f93.ntmps kp_zOrdered 0 false b_zOrdered_1 l_zOrdered_1 := loopG mixed cs_zOrdered (lps := loopsT []) (by kernel_rfl) (ls := []) (by kernel_rfl) lps_nil
noncomputable def sp_zOrdered_0 (x : ((List Int × List Int × List (Int × Bool × List UInt8) × List (Int × Int) × Bool × (List UInt8 × List UInt8 × Int × Int × (Int × Int × Int × Int × Int) × (Int × Int × Int × Int × Int))) × Int)) : Option (((List Int × List Int × List (Int × Bool × List UInt8) × List (Int × Int) × Bool × (List UInt8 × List UInt8 × Int × Int × (Int × Int × Int × Int × Int) × (Int × Int × Int × Int × Int))) × Int) ⊕ ((Bool) ⊕ ((List Int × List Int × List (Int × Bool × List UInt8) × List (Int × Int) × Bool × (List UInt8 × List UInt8 × Int × Int × (Int × Int × Int × Int × Int) × (Int × Int × Int × Int × Int)))))) := (stepL Tryz.prog (lookT ct_zOrdered) kp_zOrdered (loopsT []) 0 false b_zOrdered_0 (codP [(.boxw [.p cZone]), pI]) (exS (exO .ret (codP [pB])) (exO (.ext 0) (codP [(.boxw [.p cZone])]))) x).run
noncomputable def w_zOrdered_0 : ((List Int × List Int × List (Int × Bool × List UInt8) × List (Int × Int) × Bool × (List UInt8 × List UInt8 × Int × Int × (Int × Int × Int × Int × Int) × (Int × Int × Int × Int × Int))) × Int) → Option ((Bool) ⊕ ((List Int × List Int × List (Int × Bool × List UInt8) × List (Int × Int) × Bool × (List UInt8 × List UInt8 × Int × Int × (Int × Int × Int × Int × Int) × (Int × Int × Int × Int × Int))))) := whileO sp_zOrdered_0
theorem ew_zOrdered_0 (x : ((List Int × List Int × List (Int × Bool × List UInt8) × List (Int × Int) × Bool × (List UInt8 × List UInt8 × Int × Int × (Int × Int × Int × Int × Int) × (Int × Int × Int × Int × Int))) × Int)) : w_zOrdered_0 x = (sp_zOrdered_0 x).bind (Sum.elim w_zOrdered_0 some) := whileO_eq _ _
noncomputable abbrev l_zOrdered_0 : LT := ltF (codP [(.boxw [.p cZone]), pI]) (exS (exO .ret (codP [pB])) (exO (.ext 0) (codP [(.boxw [.p cZone])]))) w_zOrdered_0
theorem lo_zOrdered_0 : LoopOk Tryz.prog Tryz.f93.ntmps kp_zOrdered 0 false b_zOrdered_0 l_zOrdered_0 := loopG mixed cs_zOrdered (lps := loopsT []) (by kernel_rfl) (ls := []) (by kernel_rfl) lps_nil
noncomputable def F_zOrdered (x : ((List Int × List Int × List (Int × Bool × List UInt8) × List (Int × Int) × Bool × (List UInt8 × List UInt8 × Int × Int × (Int × Int × Int × Int × Int) × (Int × Int × Int × Int × Int))))) : Option (Bool) := (evalF Tryz.prog (lookT ct_zOrdered) (kp_zOrdered) (loopsT [(2, l_zOrdered_0), (8, l_zOrdered_1)]) false false Tryz.f93 (codP [pZone]) 1 (codP [pB]) x).run
noncomputable abbrev s_zOrdered : SpecT := specF (codP [pZone]) 1 (codP [pB]) F_zOrdered
theorem so_zOrdered : SoundT Tryz.prog 93 s_zOrdered := soundG (P := Tryz.prog) mixed (t := ct_zOrdered) cs_zOrdered (f := 93) (fn := Tryz.f93) Tryz.func93 (by kernel_rfl) (by kernel_rfl) (by kernel_rfl) (ls := [b_zOrdered_0, b_zOrdered_1]) (by kernel_rfl) (kp := kp_zOrdered) (lps := loopsT [(2, l_zOrdered_0), (8, l_zOrdered_1)]) (bump := false) (ice := false) (A := (codP [pZone])) (n := 1) (R := (codP [pB])) fun _ => (lps_cons l_zOrdered_0 (by kernel_rfl) lo_zOrdered_0 (lps_cons l_zOrdered_1 (by kernel_rfl) lo_zOrdered_1 lps_nil))

theorem es_zOrdered_0 (z : List Int × List Int × List (Int × Bool × List UInt8) × List (Int × Int) × Bool × (List UInt8 × List UInt8 × Int × Int × (Int × Int × Int × Int × Int) × (Int × Int × Int × Int × Int))) (i : Int) : sp_zOrdered_0 (z, i) = (
  bif decide (i < (↑(List.length z.fst) : Int)) then
    (getI z.fst i).bind fun x1 =>
      (getI z.fst (IntKind.i64.wrap (i - (1 : Int)))).bind fun x2 => bif decide (x1 ≤ x2) then some (Sum.inr (Sum.inl false)) else some (Sum.inl (z, IntKind.i64.wrap (i + (1 : Int))))
  else some (Sum.inr (Sum.inr z))) := by kernel_rfl

theorem es_zOrdered_1 (a t : Int) (l : List (Int × Int)) (n i : Int) : sp_zOrdered_1 ((a, t), l, n, i) = (
  bif decide (i < n) then
    (getI l i).bind fun x1 =>
      bif decide ((0 : Int) < i) then
        bif decide (x1.fst ≤ a) then some (Sum.inr (Sum.inl false))
        else
          bif decide (x1.snd < (-100 : Int)) then some (Sum.inr (Sum.inl false))
          else
            bif decide ((100 : Int) < x1.snd) then some (Sum.inr (Sum.inl false))
            else (F_zOne (IntKind.i64.wrap (x1.snd - t))).bind fun x2 => bif !x2 then some (Sum.inr (Sum.inl false)) else some (Sum.inl (x1, l, n, IntKind.i64.wrap (i + (1 : Int))))
      else
        bif decide (x1.snd < (-100 : Int)) then some (Sum.inr (Sum.inl false))
        else
          bif decide ((100 : Int) < x1.snd) then some (Sum.inr (Sum.inl false))
          else (F_zOne (IntKind.i64.wrap (x1.snd - t))).bind fun x2 => bif !x2 then some (Sum.inr (Sum.inl false)) else some (Sum.inl (x1, l, n, IntKind.i64.wrap (i + (1 : Int))))
  else some (Sum.inr (Sum.inr ()))) := by kernel_rfl

theorem e_zOrdered (z : List Int × List Int × List (Int × Bool × List UInt8) × List (Int × Int) × Bool × (List UInt8 × List UInt8 × Int × Int × (Int × Int × Int × Int × Int) × (Int × Int × Int × Int × Int))) : F_zOrdered z = (
  (w_zOrdered_0 (z, (1 : Int))).bind fun x1 =>
    Sum.elim (fun x2 => some x2)
      (fun x2 => (w_zOrdered_1 (((0 : Int), (0 : Int)), x2.snd.snd.snd.fst, (↑(List.length x2.snd.snd.snd.fst) : Int), (0 : Int))).bind fun x3 => Sum.elim (fun x4 => some x4) (fun x4 => some true) x3)
      x1) := by kernel_rfl


/-! ### (horologe/zone.Zone).parts -/
noncomputable abbrev ct_zParts : List (FuncId × Bool × SpecT) := [(89, false, s_zLong), (90, false, s_zRanged), (91, false, s_zNamed), (92, false, s_zWide), (93, false, s_zOrdered)]
theorem cs_zParts : AllSound Tryz.prog ct_zParts := ⟨so_zLong, so_zRanged, so_zNamed, so_zWide, so_zOrdered, trivial⟩
noncomputable def F_zParts (x : ((List Int × List Int × List (Int × Bool × List UInt8) × List (Int × Int) × Bool × (List UInt8 × List UInt8 × Int × Int × (Int × Int × Int × Int × Int) × (Int × Int × Int × Int × Int))))) : Option (Int) := (evalF Tryz.prog (lookT ct_zParts) (keepT []) (loopsT []) false false Tryz.f50 (codP [pZone]) 1 (codP [pE]) x).run
noncomputable abbrev s_zParts : SpecT := specF (codP [pZone]) 1 (codP [pE]) F_zParts
theorem so_zParts : SoundT Tryz.prog 50 s_zParts := soundG (P := Tryz.prog) mixed (t := ct_zParts) cs_zParts (f := 50) (fn := Tryz.f50) Tryz.func50 (by kernel_rfl) (by kernel_rfl) (by kernel_rfl) (ls := []) (by kernel_rfl) (kp := keepT []) (lps := loopsT []) (bump := false) (ice := false) (A := (codP [pZone])) (n := 1) (R := (codP [pE])) fun _ => lps_nil

theorem e_zParts (z : List Int × List Int × List (Int × Bool × List UInt8) × List (Int × Int) × Bool × (List UInt8 × List UInt8 × Int × Int × (Int × Int × Int × Int × Int) × (Int × Int × Int × Int × Int))) : F_zParts z = (
  bif decide ((↑(List.length z.snd.snd.fst) : Int) = (0 : Int)) then some (8 : Int)
  else
    (F_zLong z).bind fun x1 =>
      bif x1 then some (3 : Int)
      else
        bif decide ((↑(List.length z.snd.fst) : Int) ≠ (↑(List.length z.fst) : Int)) then some (2 : Int)
        else
          (F_zRanged z).bind fun x2 =>
            bif !x2 then some (1 : Int)
            else
              (F_zNamed z).bind fun x3 =>
                bif !x3 then some (2 : Int)
                else (F_zWide z).bind fun x4 => bif decide ((256 : Int) < x4) then some (3 : Int) else (F_zOrdered z).bind fun x5 => bif !x5 then some (6 : Int) else some (0 : Int)) := by kernel_rfl

/-! ### horologe/zone.First -/
noncomputable abbrev ct_zFirst : List (FuncId × Bool × SpecT) := [(56, false, s_ixUsual)]
theorem cs_zFirst : AllSound Tryz.prog ct_zFirst := ⟨so_ixUsual, trivial⟩
noncomputable def F_zFirst (x : ((List Int × List Int × List (Int × Bool × List UInt8) × List (Int × Int) × Bool × (List UInt8 × List UInt8 × Int × Int × (Int × Int × Int × Int × Int) × (Int × Int × Int × Int × Int))))) : Option ((Int × Bool × List UInt8) × Int) := (evalF Tryz.prog (lookT ct_zFirst) (keepT []) (loopsT []) false false Tryz.f16 (codP [pZone]) 2 (codP [pTyp, pE]) x).run
noncomputable abbrev s_zFirst : SpecT := specF (codP [pZone]) 2 (codP [pTyp, pE]) F_zFirst
theorem so_zFirst : SoundT Tryz.prog 16 s_zFirst := soundG (P := Tryz.prog) mixed (t := ct_zFirst) cs_zFirst (f := 16) (fn := Tryz.f16) Tryz.func16 (by kernel_rfl) (by kernel_rfl) (by kernel_rfl) (ls := []) (by kernel_rfl) (kp := keepT []) (lps := loopsT []) (bump := false) (ice := false) (A := (codP [pZone])) (n := 2) (R := (codP [pTyp, pE])) fun _ => lps_nil

theorem e_zFirst (z : List Int × List Int × List (Int × Bool × List UInt8) × List (Int × Int) × Bool × (List UInt8 × List UInt8 × Int × Int × (Int × Int × Int × Int × Int) × (Int × Int × Int × Int × Int))) : F_zFirst z = (
  bif decide ((↑(List.length z.snd.snd.fst) : Int) = (0 : Int)) then some (((0 : Int), false, []), (8 : Int))
  else (F_ixUsual (z.snd.snd.fst, ())).bind fun x1 => (getI z.snd.snd.fst (max x1 (0 : Int))).bind fun x2 => some (x2, (0 : Int))) := by kernel_rfl

/-! ### horologe/zone.Of -/
noncomputable abbrev ct_zOf : List (FuncId × Bool × SpecT) := [(51, false, s_pxCheck)]
theorem cs_zOf : AllSound Tryz.prog ct_zOf := ⟨so_pxCheck, trivial⟩
noncomputable def F_zOf (x : ((List UInt8 × List UInt8 × Int × Int × (Int × Int × Int × Int × Int) × (Int × Int × Int × Int × Int)))) : Option ((List Int × List Int × List (Int × Bool × List UInt8) × List (Int × Int) × Bool × (List UInt8 × List UInt8 × Int × Int × (Int × Int × Int × Int × Int) × (Int × Int × Int × Int × Int))) × Int) := (evalF Tryz.prog (lookT ct_zOf) (keepT []) (loopsT []) false true Tryz.f20 (codP [pPlan]) 2 (codP [pZone, pE]) x).run
noncomputable abbrev s_zOf : SpecT := specF (codP [pPlan]) 2 (codP [pZone, pE]) F_zOf
theorem so_zOf : SoundT Tryz.prog 20 s_zOf := soundG (P := Tryz.prog) mixed (t := ct_zOf) cs_zOf (f := 20) (fn := Tryz.f20) Tryz.func20 (by kernel_rfl) (by kernel_rfl) (by kernel_rfl) (ls := []) (by kernel_rfl) (kp := keepT []) (lps := loopsT []) (bump := false) (ice := true) (A := (codP [pPlan])) (n := 2) (R := (codP [pZone, pE])) fun _ => lps_nil

theorem e_zOf (p : List UInt8 × List UInt8 × Int × Int × (Int × Int × Int × Int × Int) × (Int × Int × Int × Int × Int)) : F_zOf p = (
  (F_pxCheck p).bind fun x1 =>
    bif decide (x1 ≠ (0 : Int)) then
      some (([], [], [], [], false, [], [], (0 : Int), (0 : Int), ((0 : Int), (0 : Int), (0 : Int), (0 : Int), (0 : Int)), (0 : Int), (0 : Int), (0 : Int), (0 : Int), (0 : Int)), x1)
    else some (([], [], [(p.snd.snd.fst, false, p.fst)], [], true, p), (0 : Int))) := by kernel_rfl


end Go.Sm
/- The reference of zones. No condition. -/
set_option linter.unusedVariables false
namespace Go.Sm
open Go.Proofs
/-! ### horologe/horologeref19.Names -/
noncomputable abbrev ct_r9Names : List (FuncId × Bool × SpecT) := []
theorem cs_r9Names : AllSound Tryz.prog ct_r9Names := trivial
-- loop 0 (key 3) exit 0: [1, 3, 4]
-- loop 0 (key 3) exit 3: [3]
-- loop 1 (key 7) exit 0: [1, 3, 4, 5, 6]
-- loop 1 (key 7) exit 5: [1, 3, 4, 5]
abbrev kp_r9Names : Keep := keepT [(3, 0, [(1, none), (3, some .str), (4, none)]), (3, 3, [(3, some .str)]), (7, 0, [(1, none), (3, some .str), (4, none), (5, none), (6, none)]), (7, 5, [(1, none), (3, some .str), (4, none), (5, none)])]
noncomputable abbrev b_r9Names_0 : Code := loopAt Tryz.f15 0
noncomputable abbrev b_r9Names_1 : Code := loopAt Tryz.f15 1
noncomputable def sp_r9Names_1 (x : ((List Int × List Int × List (Int × Bool × List UInt8) × List (Int × Int) × Bool × (List UInt8 × List UInt8 × Int × Int × (Int × Int × Int × Int × Int) × (Int × Int × Int × Int × Int))) × (List (List UInt8)) × Int × Bool × Int)) : Option (((List Int × List Int × List (Int × Bool × List UInt8) × List (Int × Int) × Bool × (List UInt8 × List UInt8 × Int × Int × (Int × Int × Int × Int × Int) × (Int × Int × Int × Int × Int))) × (List (List UInt8)) × Int × Bool × Int) ⊕ ((List Int × List Int × List (Int × Bool × List UInt8) × List (Int × Int) × Bool × (List UInt8 × List UInt8 × Int × Int × (Int × Int × Int × Int × Int) × (Int × Int × Int × Int × Int))) × (List (List UInt8)) × Int × Bool)) := (stepL Tryz.prog (lookT ct_r9Names) kp_r9Names (loopsT []) 0 false b_r9Names_1 (codP [(.boxw [.p cZone]), (.own .str), pI, pB, pI]) (exO (.ext 2) (codP [(.boxw [.p cZone]), (.own .str), pI, pB])) x).run
noncomputable def w_r9Names_1 : ((List Int × List Int × List (Int × Bool × List UInt8) × List (Int × Int) × Bool × (List UInt8 × List UInt8 × Int × Int × (Int × Int × Int × Int × Int) × (Int × Int × Int × Int × Int))) × (List (List UInt8)) × Int × Bool × Int) → Option ((List Int × List Int × List (Int × Bool × List UInt8) × List (Int × Int) × Bool × (List UInt8 × List UInt8 × Int × Int × (Int × Int × Int × Int × Int) × (Int × Int × Int × Int × Int))) × (List (List UInt8)) × Int × Bool) := whileO sp_r9Names_1
theorem ew_r9Names_1 (x : ((List Int × List Int × List (Int × Bool × List UInt8) × List (Int × Int) × Bool × (List UInt8 × List UInt8 × Int × Int × (Int × Int × Int × Int × Int) × (Int × Int × Int × Int × Int))) × (List (List UInt8)) × Int × Bool × Int)) : w_r9Names_1 x = (sp_r9Names_1 x).bind (Sum.elim w_r9Names_1 some) := whileO_eq _ _
noncomputable abbrev l_r9Names_1 : LT := ltF (codP [(.boxw [.p cZone]), (.own .str), pI, pB, pI]) (exO (.ext 2) (codP [(.boxw [.p cZone]), (.own .str), pI, pB])) w_r9Names_1
theorem lo_r9Names_1 : LoopOk Tryz.prog Tryz.f15.ntmps kp_r9Names 0 false b_r9Names_1 l_r9Names_1 := loopG mixed cs_r9Names (lps := loopsT []) (by kernel_rfl) (ls := []) (by kernel_rfl) lps_nil
noncomputable def sp_r9Names_0 (x : ((List Int × List Int × List (Int × Bool × List UInt8) × List (Int × Int) × Bool × (List UInt8 × List UInt8 × Int × Int × (Int × Int × Int × Int × Int) × (Int × Int × Int × Int × Int))) × (List (List UInt8)) × Int)) : Option (((List Int × List Int × List (Int × Bool × List UInt8) × List (Int × Int) × Bool × (List UInt8 × List UInt8 × Int × Int × (Int × Int × Int × Int × Int) × (Int × Int × Int × Int × Int))) × (List (List UInt8)) × Int) ⊕ ((List (List UInt8)))) := (stepL Tryz.prog (lookT ct_r9Names) kp_r9Names (loopsT [(7, l_r9Names_1)]) 0 false b_r9Names_0 (codP [(.boxw [.p cZone]), (.own .str), pI]) (exO (.ext 0) (codP [(.own .str)])) x).run
noncomputable def w_r9Names_0 : ((List Int × List Int × List (Int × Bool × List UInt8) × List (Int × Int) × Bool × (List UInt8 × List UInt8 × Int × Int × (Int × Int × Int × Int × Int) × (Int × Int × Int × Int × Int))) × (List (List UInt8)) × Int) → Option ((List (List UInt8))) := whileO sp_r9Names_0
theorem ew_r9Names_0 (x : ((List Int × List Int × List (Int × Bool × List UInt8) × List (Int × Int) × Bool × (List UInt8 × List UInt8 × Int × Int × (Int × Int × Int × Int × Int) × (Int × Int × Int × Int × Int))) × (List (List UInt8)) × Int)) : w_r9Names_0 x = (sp_r9Names_0 x).bind (Sum.elim w_r9Names_0 some) := whileO_eq _ _
noncomputable abbrev l_r9Names_0 : LT := ltF (codP [(.boxw [.p cZone]), (.own .str), pI]) (exO (.ext 0) (codP [(.own .str)])) w_r9Names_0
theorem lo_r9Names_0 : LoopOk Tryz.prog Tryz.f15.ntmps kp_r9Names 0 false b_r9Names_0 l_r9Names_0 := loopG mixed cs_r9Names (lps := loopsT [(7, l_r9Names_1)]) (by kernel_rfl) (ls := [b_r9Names_1]) (by kernel_rfl) (lps_cons l_r9Names_1 (by kernel_rfl) lo_r9Names_1 lps_nil)
noncomputable def F_r9Names (x : ((List Int × List Int × List (Int × Bool × List UInt8) × List (Int × Int) × Bool × (List UInt8 × List UInt8 × Int × Int × (Int × Int × Int × Int × Int) × (Int × Int × Int × Int × Int))))) : Option ((List (List UInt8))) := (evalF Tryz.prog (lookT ct_r9Names) (kp_r9Names) (loopsT [(3, l_r9Names_0), (7, l_r9Names_1)]) false true Tryz.f15 (codP [pZone]) 1 (codP [(.pure (.lst .str))]) x).run
noncomputable abbrev s_r9Names : SpecT := specF (codP [pZone]) 1 (codP [(.pure (.lst .str))]) F_r9Names
theorem so_r9Names : SoundT Tryz.prog 15 s_r9Names := soundG (P := Tryz.prog) mixed (t := ct_r9Names) cs_r9Names (f := 15) (fn := Tryz.f15) Tryz.func15 (by kernel_rfl) (by kernel_rfl) (by kernel_rfl) (ls := [b_r9Names_0, b_r9Names_1]) (by kernel_rfl) (kp := kp_r9Names) (lps := loopsT [(3, l_r9Names_0), (7, l_r9Names_1)]) (bump := false) (ice := true) (A := (codP [pZone])) (n := 1) (R := (codP [(.pure (.lst .str))])) fun _ => (lps_cons l_r9Names_0 (by kernel_rfl) lo_r9Names_0 (lps_cons l_r9Names_1 (by kernel_rfl) lo_r9Names_1 lps_nil))

theorem es_r9Names_0 (z : List Int × List Int × List (Int × Bool × List UInt8) × List (Int × Int) × Bool × (List UInt8 × List UInt8 × Int × Int × (Int × Int × Int × Int × Int) × (Int × Int × Int × Int × Int))) (o : List (List UInt8)) (i : Int) : sp_r9Names_0 (z, o, i) = (
  bif decide (i < (↑(List.length z.snd.snd.fst) : Int)) then
    (w_r9Names_1 (z, o, i, false, (0 : Int))).bind fun x1 =>
      bif !x1.snd.snd.snd then
        (getI x1.fst.snd.snd.fst x1.snd.snd.fst).bind fun x2 =>
          bif roomB (List.length x1.snd.fst) [x2.snd.snd].length (16 : Nat) then some (Sum.inl (x1.fst, x1.snd.fst ++ [x2.snd.snd], IntKind.i64.wrap (x1.snd.snd.fst + (1 : Int)))) else none
      else some (Sum.inl (x1.fst, x1.snd.fst, IntKind.i64.wrap (x1.snd.snd.fst + (1 : Int))))
  else some (Sum.inr o)) := by kernel_rfl

theorem es_r9Names_1 (z : List Int × List Int × List (Int × Bool × List UInt8) × List (Int × Int) × Bool × (List UInt8 × List UInt8 × Int × Int × (Int × Int × Int × Int × Int) × (Int × Int × Int × Int × Int))) (o : List (List UInt8)) (i : Int) (b : Bool) (k : Int) : sp_r9Names_1 (z, o, i, b, k) = (
  bif decide (k < (↑o.length : Int)) then
    bif b then some (Sum.inl (z, o, i, true, IntKind.i64.wrap (k + (1 : Int))))
    else
      bif decide ((0 : Int) ≤ k ∧ k < (↑o.length : Int)) then
        o[k.toNat]?.bind fun x1 => (getI z.snd.snd.fst i).bind fun x2 => some (Sum.inl (z, o, i, decide (x1 = x2.snd.snd), IntKind.i64.wrap (k + (1 : Int))))
      else none
  else some (Sum.inr (z, o, i, b))) := by kernel_rfl

theorem e_r9Names (z : List Int × List Int × List (Int × Bool × List UInt8) × List (Int × Int) × Bool × (List UInt8 × List UInt8 × Int × Int × (Int × Int × Int × Int × Int) × (Int × Int × Int × Int × Int))) : F_r9Names z = (
  (w_r9Names_0 (z, [], (0 : Int))).bind fun x1 => some x1) := by kernel_rfl


/-! ### horologe/horologeref19.next -/
noncomputable abbrev ct_r9next : List (FuncId × Bool × SpecT) := []
theorem cs_r9next : AllSound Tryz.prog ct_r9next := trivial
noncomputable def F_r9next (x : (Int × Int)) : Option (Bool) := (evalF Tryz.prog (lookT ct_r9next) (keepT []) (loopsT []) false false Tryz.f54 (codP [pI, pI]) 1 (codP [pB]) x).run
noncomputable abbrev s_r9next : SpecT := specF (codP [pI, pI]) 1 (codP [pB]) F_r9next
theorem so_r9next : SoundT Tryz.prog 54 s_r9next := soundG (P := Tryz.prog) mixed (t := ct_r9next) cs_r9next (f := 54) (fn := Tryz.f54) Tryz.func54 (by kernel_rfl) (by kernel_rfl) (by kernel_rfl) (ls := []) (by kernel_rfl) (kp := keepT []) (lps := loopsT []) (bump := false) (ice := false) (A := (codP [pI, pI])) (n := 1) (R := (codP [pB])) fun _ => lps_nil

theorem e_r9next (a b : Int) : F_r9next (a, b) = (
  bif decide (b < (-1000 : Int)) then some false
  else bif decide ((1000 : Int) < b) then some false else bif decide (b = IntKind.i64.wrap (a + (1 : Int))) then some true else some (decide (b = IntKind.i64.wrap (a - (1 : Int))))) := by kernel_rfl


/-! ### horologe/horologeref19.Check -/
noncomputable abbrev ct_r9Check : List (FuncId × Bool × SpecT) := [(53, false, s_r7Name), (15, false, s_r9Names), (54, false, s_r9next), (21, false, s_r7Check), (47, false, s_r8Year), (49, false, s_r8At)]
theorem cs_r9Check : AllSound Tryz.prog ct_r9Check := ⟨so_r7Name, so_r9Names, so_r9next, so_r7Check, so_r8Year, so_r8At, trivial⟩
-- loop 0 (key 8) exit 0: [1, 3]
-- loop 0 (key 8) exit 2: [2]
-- loop 0 (key 8) exit 3: [1]
-- loop 1 (key 13) exit 0: [1, 4]
-- loop 1 (key 13) exit 2: [2]
-- loop 1 (key 13) exit 5: [1]
-- loop 2 (key 18) exit 0: [1, 5]
-- loop 2 (key 18) exit 2: [2]
-- loop 2 (key 18) exit 7: [1]
-- loop 3 (key 23) exit 0: [1, 6]
-- loop 3 (key 23) exit 2: [2]
-- loop 3 (key 23) exit 9: [1]
-- loop 4 (key 30) exit 0: [1, 7, 8, 9]
-- loop 4 (key 30) exit 11: [1, 7]
-- loop 5 (key 36) exit 0: [1, 10]
-- loop 5 (key 36) exit 2: [2]
-- loop 5 (key 36) exit 13: [1]
-- loop 6 (key 42) exit 0: [1, 11, 12]
-- loop 6 (key 42) exit 2: [2]
-- loop 6 (key 42) exit 15: [1]
abbrev kp_r9Check : Keep := keepT [(8, 0, [(1, none), (3, none)]), (8, 2, [(2, none)]), (8, 3, [(1, none)]), (13, 0, [(1, none), (4, none)]), (13, 2, [(2, none)]), (13, 5, [(1, none)]), (18, 0, [(1, none), (5, none)]), (18, 2, [(2, none)]), (18, 7, [(1, none)]), (23, 0, [(1, none), (6, none)]), (23, 2, [(2, none)]), (23, 9, [(1, none)]), (30, 0, [(1, none), (7, none), (8, none), (9, none)]), (30, 11, [(1, none), (7, none)]), (36, 0, [(1, none), (10, none)]), (36, 2, [(2, none)]), (36, 13, [(1, none)]), (42, 0, [(1, none), (11, none), (12, none)]), (42, 2, [(2, none)]), (42, 15, [(1, none)])]
noncomputable abbrev b_r9Check_0 : Code := loopAt Tryz.f13 0
noncomputable abbrev b_r9Check_1 : Code := loopAt Tryz.f13 1
noncomputable abbrev b_r9Check_2 : Code := loopAt Tryz.f13 2
noncomputable abbrev b_r9Check_3 : Code := loopAt Tryz.f13 3
noncomputable abbrev b_r9Check_4 : Code := loopAt Tryz.f13 4
noncomputable abbrev b_r9Check_5 : Code := loopAt Tryz.f13 5
noncomputable abbrev b_r9Check_6 : Code := loopAt Tryz.f13 6
noncomputable def sp_r9Check_6 (x : ((List Int × List Int × List (Int × Bool × List UInt8) × List (Int × Int) × Bool × (List UInt8 × List UInt8 × Int × Int × (Int × Int × Int × Int × Int) × (Int × Int × Int × Int × Int))) × Int × Int)) : Option (((List Int × List Int × List (Int × Bool × List UInt8) × List (Int × Int) × Bool × (List UInt8 × List UInt8 × Int × Int × (Int × Int × Int × Int × Int) × (Int × Int × Int × Int × Int))) × Int × Int) ⊕ ((Int) ⊕ ((List Int × List Int × List (Int × Bool × List UInt8) × List (Int × Int) × Bool × (List UInt8 × List UInt8 × Int × Int × (Int × Int × Int × Int × Int) × (Int × Int × Int × Int × Int)))))) := (stepL Tryz.prog (lookT ct_r9Check) kp_r9Check (loopsT []) 0 false b_r9Check_6 (codP [(.boxw [.p cZone]), pI, pI]) (exS (exO .ret (codP [pI])) (exO (.ext 12) (codP [(.boxw [.p cZone])]))) x).run
noncomputable def w_r9Check_6 : ((List Int × List Int × List (Int × Bool × List UInt8) × List (Int × Int) × Bool × (List UInt8 × List UInt8 × Int × Int × (Int × Int × Int × Int × Int) × (Int × Int × Int × Int × Int))) × Int × Int) → Option ((Int) ⊕ ((List Int × List Int × List (Int × Bool × List UInt8) × List (Int × Int) × Bool × (List UInt8 × List UInt8 × Int × Int × (Int × Int × Int × Int × Int) × (Int × Int × Int × Int × Int))))) := whileO sp_r9Check_6
theorem ew_r9Check_6 (x : ((List Int × List Int × List (Int × Bool × List UInt8) × List (Int × Int) × Bool × (List UInt8 × List UInt8 × Int × Int × (Int × Int × Int × Int × Int) × (Int × Int × Int × Int × Int))) × Int × Int)) : w_r9Check_6 x = (sp_r9Check_6 x).bind (Sum.elim w_r9Check_6 some) := whileO_eq _ _
noncomputable abbrev l_r9Check_6 : LT := ltF (codP [(.boxw [.p cZone]), pI, pI]) (exS (exO .ret (codP [pI])) (exO (.ext 12) (codP [(.boxw [.p cZone])]))) w_r9Check_6
theorem lo_r9Check_6 : LoopOk Tryz.prog Tryz.f13.ntmps kp_r9Check 0 false b_r9Check_6 l_r9Check_6 := loopG mixed cs_r9Check (lps := loopsT []) (by kernel_rfl) (ls := []) (by kernel_rfl) lps_nil
noncomputable def sp_r9Check_5 (x : ((List Int × List Int × List (Int × Bool × List UInt8) × List (Int × Int) × Bool × (List UInt8 × List UInt8 × Int × Int × (Int × Int × Int × Int × Int) × (Int × Int × Int × Int × Int))) × Int)) : Option (((List Int × List Int × List (Int × Bool × List UInt8) × List (Int × Int) × Bool × (List UInt8 × List UInt8 × Int × Int × (Int × Int × Int × Int × Int) × (Int × Int × Int × Int × Int))) × Int) ⊕ ((Int) ⊕ ((List Int × List Int × List (Int × Bool × List UInt8) × List (Int × Int) × Bool × (List UInt8 × List UInt8 × Int × Int × (Int × Int × Int × Int × Int) × (Int × Int × Int × Int × Int)))))) := (stepL Tryz.prog (lookT ct_r9Check) kp_r9Check (loopsT []) 0 false b_r9Check_5 (codP [(.boxw [.p cZone]), pI]) (exS (exO .ret (codP [pI])) (exO (.ext 10) (codP [(.boxw [.p cZone])]))) x).run
noncomputable def w_r9Check_5 : ((List Int × List Int × List (Int × Bool × List UInt8) × List (Int × Int) × Bool × (List UInt8 × List UInt8 × Int × Int × (Int × Int × Int × Int × Int) × (Int × Int × Int × Int × Int))) × Int) → Option ((Int) ⊕ ((List Int × List Int × List (Int × Bool × List UInt8) × List (Int × Int) × Bool × (List UInt8 × List UInt8 × Int × Int × (Int × Int × Int × Int × Int) × (Int × Int × Int × Int × Int))))) := whileO sp_r9Check_5
theorem ew_r9Check_5 (x : ((List Int × List Int × List (Int × Bool × List UInt8) × List (Int × Int) × Bool × (List UInt8 × List UInt8 × Int × Int × (Int × Int × Int × Int × Int) × (Int × Int × Int × Int × Int))) × Int)) : w_r9Check_5 x = (sp_r9Check_5 x).bind (Sum.elim w_r9Check_5 some) := whileO_eq _ _
noncomputable abbrev l_r9Check_5 : LT := ltF (codP [(.boxw [.p cZone]), pI]) (exS (exO .ret (codP [pI])) (exO (.ext 10) (codP [(.boxw [.p cZone])]))) w_r9Check_5
theorem lo_r9Check_5 : LoopOk Tryz.prog Tryz.f13.ntmps kp_r9Check 0 false b_r9Check_5 l_r9Check_5 := loopG mixed cs_r9Check (lps := loopsT []) (by kernel_rfl) (ls := []) (by kernel_rfl) lps_nil
noncomputable def sp_r9Check_4 (x : ((List Int × List Int × List (Int × Bool × List UInt8) × List (Int × Int) × Bool × (List UInt8 × List UInt8 × Int × Int × (Int × Int × Int × Int × Int) × (Int × Int × Int × Int × Int))) × Int × (List (List UInt8)) × Int)) : Option (((List Int × List Int × List (Int × Bool × List UInt8) × List (Int × Int) × Bool × (List UInt8 × List UInt8 × Int × Int × (Int × Int × Int × Int × Int) × (Int × Int × Int × Int × Int))) × Int × (List (List UInt8)) × Int) ⊕ ((List Int × List Int × List (Int × Bool × List UInt8) × List (Int × Int) × Bool × (List UInt8 × List UInt8 × Int × Int × (Int × Int × Int × Int × Int) × (Int × Int × Int × Int × Int))) × Int)) := (stepL Tryz.prog (lookT ct_r9Check) kp_r9Check (loopsT []) 0 false b_r9Check_4 (codP [(.boxw [.p cZone]), pI, (.pure (.lst .str)), pI]) (exO (.ext 8) (codP [(.boxw [.p cZone]), pI])) x).run
noncomputable def w_r9Check_4 : ((List Int × List Int × List (Int × Bool × List UInt8) × List (Int × Int) × Bool × (List UInt8 × List UInt8 × Int × Int × (Int × Int × Int × Int × Int) × (Int × Int × Int × Int × Int))) × Int × (List (List UInt8)) × Int) → Option ((List Int × List Int × List (Int × Bool × List UInt8) × List (Int × Int) × Bool × (List UInt8 × List UInt8 × Int × Int × (Int × Int × Int × Int × Int) × (Int × Int × Int × Int × Int))) × Int) := whileO sp_r9Check_4
theorem ew_r9Check_4 (x : ((List Int × List Int × List (Int × Bool × List UInt8) × List (Int × Int) × Bool × (List UInt8 × List UInt8 × Int × Int × (Int × Int × Int × Int × Int) × (Int × Int × Int × Int × Int))) × Int × (List (List UInt8)) × Int)) : w_r9Check_4 x = (sp_r9Check_4 x).bind (Sum.elim w_r9Check_4 some) := whileO_eq _ _
noncomputable abbrev l_r9Check_4 : LT := ltF (codP [(.boxw [.p cZone]), pI, (.pure (.lst .str)), pI]) (exO (.ext 8) (codP [(.boxw [.p cZone]), pI])) w_r9Check_4
theorem lo_r9Check_4 : LoopOk Tryz.prog Tryz.f13.ntmps kp_r9Check 0 false b_r9Check_4 l_r9Check_4 := loopG mixed cs_r9Check (lps := loopsT []) (by kernel_rfl) (ls := []) (by kernel_rfl) lps_nil
noncomputable def sp_r9Check_3 (x : ((List Int × List Int × List (Int × Bool × List UInt8) × List (Int × Int) × Bool × (List UInt8 × List UInt8 × Int × Int × (Int × Int × Int × Int × Int) × (Int × Int × Int × Int × Int))) × Int)) : Option (((List Int × List Int × List (Int × Bool × List UInt8) × List (Int × Int) × Bool × (List UInt8 × List UInt8 × Int × Int × (Int × Int × Int × Int × Int) × (Int × Int × Int × Int × Int))) × Int) ⊕ ((Int) ⊕ ((List Int × List Int × List (Int × Bool × List UInt8) × List (Int × Int) × Bool × (List UInt8 × List UInt8 × Int × Int × (Int × Int × Int × Int × Int) × (Int × Int × Int × Int × Int)))))) := (stepL Tryz.prog (lookT ct_r9Check) kp_r9Check (loopsT []) 0 false b_r9Check_3 (codP [(.boxw [.p cZone]), pI]) (exS (exO .ret (codP [pI])) (exO (.ext 6) (codP [(.boxw [.p cZone])]))) x).run
noncomputable def w_r9Check_3 : ((List Int × List Int × List (Int × Bool × List UInt8) × List (Int × Int) × Bool × (List UInt8 × List UInt8 × Int × Int × (Int × Int × Int × Int × Int) × (Int × Int × Int × Int × Int))) × Int) → Option ((Int) ⊕ ((List Int × List Int × List (Int × Bool × List UInt8) × List (Int × Int) × Bool × (List UInt8 × List UInt8 × Int × Int × (Int × Int × Int × Int × Int) × (Int × Int × Int × Int × Int))))) := whileO sp_r9Check_3
theorem ew_r9Check_3 (x : ((List Int × List Int × List (Int × Bool × List UInt8) × List (Int × Int) × Bool × (List UInt8 × List UInt8 × Int × Int × (Int × Int × Int × Int × Int) × (Int × Int × Int × Int × Int))) × Int)) : w_r9Check_3 x = (sp_r9Check_3 x).bind (Sum.elim w_r9Check_3 some) := whileO_eq _ _
noncomputable abbrev l_r9Check_3 : LT := ltF (codP [(.boxw [.p cZone]), pI]) (exS (exO .ret (codP [pI])) (exO (.ext 6) (codP [(.boxw [.p cZone])]))) w_r9Check_3
theorem lo_r9Check_3 : LoopOk Tryz.prog Tryz.f13.ntmps kp_r9Check 0 false b_r9Check_3 l_r9Check_3 := loopG mixed cs_r9Check (lps := loopsT []) (by kernel_rfl) (ls := []) (by kernel_rfl) lps_nil
noncomputable def sp_r9Check_2 (x : ((List Int × List Int × List (Int × Bool × List UInt8) × List (Int × Int) × Bool × (List UInt8 × List UInt8 × Int × Int × (Int × Int × Int × Int × Int) × (Int × Int × Int × Int × Int))) × Int)) : Option (((List Int × List Int × List (Int × Bool × List UInt8) × List (Int × Int) × Bool × (List UInt8 × List UInt8 × Int × Int × (Int × Int × Int × Int × Int) × (Int × Int × Int × Int × Int))) × Int) ⊕ ((Int) ⊕ ((List Int × List Int × List (Int × Bool × List UInt8) × List (Int × Int) × Bool × (List UInt8 × List UInt8 × Int × Int × (Int × Int × Int × Int × Int) × (Int × Int × Int × Int × Int)))))) := (stepL Tryz.prog (lookT ct_r9Check) kp_r9Check (loopsT []) 0 false b_r9Check_2 (codP [(.boxw [.p cZone]), pI]) (exS (exO .ret (codP [pI])) (exO (.ext 4) (codP [(.boxw [.p cZone])]))) x).run
noncomputable def w_r9Check_2 : ((List Int × List Int × List (Int × Bool × List UInt8) × List (Int × Int) × Bool × (List UInt8 × List UInt8 × Int × Int × (Int × Int × Int × Int × Int) × (Int × Int × Int × Int × Int))) × Int) → Option ((Int) ⊕ ((List Int × List Int × List (Int × Bool × List UInt8) × List (Int × Int) × Bool × (List UInt8 × List UInt8 × Int × Int × (Int × Int × Int × Int × Int) × (Int × Int × Int × Int × Int))))) := whileO sp_r9Check_2
theorem ew_r9Check_2 (x : ((List Int × List Int × List (Int × Bool × List UInt8) × List (Int × Int) × Bool × (List UInt8 × List UInt8 × Int × Int × (Int × Int × Int × Int × Int) × (Int × Int × Int × Int × Int))) × Int)) : w_r9Check_2 x = (sp_r9Check_2 x).bind (Sum.elim w_r9Check_2 some) := whileO_eq _ _
noncomputable abbrev l_r9Check_2 : LT := ltF (codP [(.boxw [.p cZone]), pI]) (exS (exO .ret (codP [pI])) (exO (.ext 4) (codP [(.boxw [.p cZone])]))) w_r9Check_2
theorem lo_r9Check_2 : LoopOk Tryz.prog Tryz.f13.ntmps kp_r9Check 0 false b_r9Check_2 l_r9Check_2 := loopG mixed cs_r9Check (lps := loopsT []) (by kernel_rfl) (ls := []) (by kernel_rfl) lps_nil
noncomputable def sp_r9Check_1 (x : ((List Int × List Int × List (Int × Bool × List UInt8) × List (Int × Int) × Bool × (List UInt8 × List UInt8 × Int × Int × (Int × Int × Int × Int × Int) × (Int × Int × Int × Int × Int))) × Int)) : Option (((List Int × List Int × List (Int × Bool × List UInt8) × List (Int × Int) × Bool × (List UInt8 × List UInt8 × Int × Int × (Int × Int × Int × Int × Int) × (Int × Int × Int × Int × Int))) × Int) ⊕ ((Int) ⊕ ((List Int × List Int × List (Int × Bool × List UInt8) × List (Int × Int) × Bool × (List UInt8 × List UInt8 × Int × Int × (Int × Int × Int × Int × Int) × (Int × Int × Int × Int × Int)))))) := (stepL Tryz.prog (lookT ct_r9Check) kp_r9Check (loopsT []) 0 false b_r9Check_1 (codP [(.boxw [.p cZone]), pI]) (exS (exO .ret (codP [pI])) (exO (.ext 2) (codP [(.boxw [.p cZone])]))) x).run
noncomputable def w_r9Check_1 : ((List Int × List Int × List (Int × Bool × List UInt8) × List (Int × Int) × Bool × (List UInt8 × List UInt8 × Int × Int × (Int × Int × Int × Int × Int) × (Int × Int × Int × Int × Int))) × Int) → Option ((Int) ⊕ ((List Int × List Int × List (Int × Bool × List UInt8) × List (Int × Int) × Bool × (List UInt8 × List UInt8 × Int × Int × (Int × Int × Int × Int × Int) × (Int × Int × Int × Int × Int))))) := whileO sp_r9Check_1
theorem ew_r9Check_1 (x : ((List Int × List Int × List (Int × Bool × List UInt8) × List (Int × Int) × Bool × (List UInt8 × List UInt8 × Int × Int × (Int × Int × Int × Int × Int) × (Int × Int × Int × Int × Int))) × Int)) : w_r9Check_1 x = (sp_r9Check_1 x).bind (Sum.elim w_r9Check_1 some) := whileO_eq _ _
noncomputable abbrev l_r9Check_1 : LT := ltF (codP [(.boxw [.p cZone]), pI]) (exS (exO .ret (codP [pI])) (exO (.ext 2) (codP [(.boxw [.p cZone])]))) w_r9Check_1
theorem lo_r9Check_1 : LoopOk Tryz.prog Tryz.f13.ntmps kp_r9Check 0 false b_r9Check_1 l_r9Check_1 := loopG mixed cs_r9Check (lps := loopsT []) (by kernel_rfl) (ls := []) (by kernel_rfl) lps_nil
noncomputable def sp_r9Check_0 (x : ((List Int × List Int × List (Int × Bool × List UInt8) × List (Int × Int) × Bool × (List UInt8 × List UInt8 × Int × Int × (Int × Int × Int × Int × Int) × (Int × Int × Int × Int × Int))) × Int)) : Option (((List Int × List Int × List (Int × Bool × List UInt8) × List (Int × Int) × Bool × (List UInt8 × List UInt8 × Int × Int × (Int × Int × Int × Int × Int) × (Int × Int × Int × Int × Int))) × Int) ⊕ ((Int) ⊕ ((List Int × List Int × List (Int × Bool × List UInt8) × List (Int × Int) × Bool × (List UInt8 × List UInt8 × Int × Int × (Int × Int × Int × Int × Int) × (Int × Int × Int × Int × Int)))))) := (stepL Tryz.prog (lookT ct_r9Check) kp_r9Check (loopsT []) 0 false b_r9Check_0 (codP [(.boxw [.p cZone]), pI]) (exS (exO .ret (codP [pI])) (exO (.ext 0) (codP [(.boxw [.p cZone])]))) x).run
noncomputable def w_r9Check_0 : ((List Int × List Int × List (Int × Bool × List UInt8) × List (Int × Int) × Bool × (List UInt8 × List UInt8 × Int × Int × (Int × Int × Int × Int × Int) × (Int × Int × Int × Int × Int))) × Int) → Option ((Int) ⊕ ((List Int × List Int × List (Int × Bool × List UInt8) × List (Int × Int) × Bool × (List UInt8 × List UInt8 × Int × Int × (Int × Int × Int × Int × Int) × (Int × Int × Int × Int × Int))))) := whileO sp_r9Check_0
theorem ew_r9Check_0 (x : ((List Int × List Int × List (Int × Bool × List UInt8) × List (Int × Int) × Bool × (List UInt8 × List UInt8 × Int × Int × (Int × Int × Int × Int × Int) × (Int × Int × Int × Int × Int))) × Int)) : w_r9Check_0 x = (sp_r9Check_0 x).bind (Sum.elim w_r9Check_0 some) := whileO_eq _ _
noncomputable abbrev l_r9Check_0 : LT := ltF (codP [(.boxw [.p cZone]), pI]) (exS (exO .ret (codP [pI])) (exO (.ext 0) (codP [(.boxw [.p cZone])]))) w_r9Check_0
theorem lo_r9Check_0 : LoopOk Tryz.prog Tryz.f13.ntmps kp_r9Check 0 false b_r9Check_0 l_r9Check_0 := loopG mixed cs_r9Check (lps := loopsT []) (by kernel_rfl) (ls := []) (by kernel_rfl) lps_nil
noncomputable def F_r9Check (x : ((List Int × List Int × List (Int × Bool × List UInt8) × List (Int × Int) × Bool × (List UInt8 × List UInt8 × Int × Int × (Int × Int × Int × Int × Int) × (Int × Int × Int × Int × Int))))) : Option (Int) := (evalF Tryz.prog (lookT ct_r9Check) (kp_r9Check) (loopsT [(8, l_r9Check_0), (13, l_r9Check_1), (18, l_r9Check_2), (23, l_r9Check_3), (30, l_r9Check_4), (36, l_r9Check_5), (42, l_r9Check_6)]) false false Tryz.f13 (codP [pZone]) 1 (codP [pI]) x).run
noncomputable abbrev s_r9Check : SpecT := specF (codP [pZone]) 1 (codP [pI]) F_r9Check
theorem so_r9Check : SoundT Tryz.prog 13 s_r9Check := soundG (P := Tryz.prog) mixed (t := ct_r9Check) cs_r9Check (f := 13) (fn := Tryz.f13) Tryz.func13 (by kernel_rfl) (by kernel_rfl) (by kernel_rfl) (ls := [b_r9Check_0, b_r9Check_1, b_r9Check_2, b_r9Check_3, b_r9Check_4, b_r9Check_5, b_r9Check_6]) (by kernel_rfl) (kp := kp_r9Check) (lps := loopsT [(8, l_r9Check_0), (13, l_r9Check_1), (18, l_r9Check_2), (23, l_r9Check_3), (30, l_r9Check_4), (36, l_r9Check_5), (42, l_r9Check_6)]) (bump := false) (ice := false) (A := (codP [pZone])) (n := 1) (R := (codP [pI])) fun _ => (lps_cons l_r9Check_0 (by kernel_rfl) lo_r9Check_0 (lps_cons l_r9Check_1 (by kernel_rfl) lo_r9Check_1 (lps_cons l_r9Check_2 (by kernel_rfl) lo_r9Check_2 (lps_cons l_r9Check_3 (by kernel_rfl) lo_r9Check_3 (lps_cons l_r9Check_4 (by kernel_rfl) lo_r9Check_4 (lps_cons l_r9Check_5 (by kernel_rfl) lo_r9Check_5 (lps_cons l_r9Check_6 (by kernel_rfl) lo_r9Check_6 lps_nil)))))))

theorem es_r9Check_0 (z : List Int × List Int × List (Int × Bool × List UInt8) × List (Int × Int) × Bool × (List UInt8 × List UInt8 × Int × Int × (Int × Int × Int × Int × Int) × (Int × Int × Int × Int × Int))) (i : Int) : sp_r9Check_0 (z, i) = (
  bif decide (i < (↑(List.length z.snd.fst) : Int)) then
    (getI z.snd.fst i).bind fun x1 =>
      bif decide (x1 < (0 : Int)) then some (Sum.inr (Sum.inl (1 : Int)))
      else (getI z.snd.fst i).bind fun x2 => bif decide ((↑(List.length z.snd.snd.fst) : Int) ≤ x2) then some (Sum.inr (Sum.inl (1 : Int))) else some (Sum.inl (z, IntKind.i64.wrap (i + (1 : Int))))
  else some (Sum.inr (Sum.inr z))) := by kernel_rfl

theorem es_r9Check_1 (z : List Int × List Int × List (Int × Bool × List UInt8) × List (Int × Int) × Bool × (List UInt8 × List UInt8 × Int × Int × (Int × Int × Int × Int × Int) × (Int × Int × Int × Int × Int))) (i : Int) : sp_r9Check_1 (z, i) = (
  bif decide (i < (↑(List.length z.snd.snd.fst) : Int)) then
    (getI z.snd.snd.fst i).bind fun x1 =>
      bif decide (x1.fst < (-89999 : Int)) then some (Sum.inr (Sum.inl (1 : Int)))
      else (getI z.snd.snd.fst i).bind fun x2 => bif decide ((89999 : Int) < x2.fst) then some (Sum.inr (Sum.inl (1 : Int))) else some (Sum.inl (z, IntKind.i64.wrap (i + (1 : Int))))
  else some (Sum.inr (Sum.inr z))) := by kernel_rfl

theorem es_r9Check_2 (z : List Int × List Int × List (Int × Bool × List UInt8) × List (Int × Int) × Bool × (List UInt8 × List UInt8 × Int × Int × (Int × Int × Int × Int × Int) × (Int × Int × Int × Int × Int))) (i : Int) : sp_r9Check_2 (z, i) = (
  bif decide (i < (↑(List.length z.snd.snd.snd.fst) : Int)) then
    (getI z.snd.snd.snd.fst i).bind fun x1 => bif decide (x1.fst < (0 : Int)) then some (Sum.inr (Sum.inl (1 : Int))) else some (Sum.inl (z, IntKind.i64.wrap (i + (1 : Int))))
  else some (Sum.inr (Sum.inr z))) := by kernel_rfl

theorem es_r9Check_3 (z : List Int × List Int × List (Int × Bool × List UInt8) × List (Int × Int) × Bool × (List UInt8 × List UInt8 × Int × Int × (Int × Int × Int × Int × Int) × (Int × Int × Int × Int × Int))) (i : Int) : sp_r9Check_3 (z, i) = (
  bif decide (i < (↑(List.length z.snd.snd.fst) : Int)) then
    (getI z.snd.snd.fst i).bind fun x1 => (F_r7Name x1.snd.snd).bind fun x2 => bif !x2 then some (Sum.inr (Sum.inl (2 : Int))) else some (Sum.inl (z, IntKind.i64.wrap (i + (1 : Int))))
  else some (Sum.inr (Sum.inr z))) := by kernel_rfl

theorem es_r9Check_4 (z : List Int × List Int × List (Int × Bool × List UInt8) × List (Int × Int) × Bool × (List UInt8 × List UInt8 × Int × Int × (Int × Int × Int × Int × Int) × (Int × Int × Int × Int × Int))) (n : Int) (l : List (List UInt8)) (i : Int) : sp_r9Check_4 (z, n, l, i) = (
  bif decide (i < (↑l.length : Int)) then (getI l i).bind fun x1 => some (Sum.inl (z, IntKind.i64.wrap (IntKind.i64.wrap (n + (↑x1.length : Int)) + (1 : Int)), l, IntKind.i64.wrap (i + (1 : Int))))
  else some (Sum.inr (z, n))) := by kernel_rfl

theorem es_r9Check_5 (z : List Int × List Int × List (Int × Bool × List UInt8) × List (Int × Int) × Bool × (List UInt8 × List UInt8 × Int × Int × (Int × Int × Int × Int × Int) × (Int × Int × Int × Int × Int))) (i : Int) : sp_r9Check_5 (z, i) = (
  bif decide (i < (↑(List.length z.fst) : Int)) then
    (getI z.fst i).bind fun x1 =>
      (getI z.fst (IntKind.i64.wrap (i - (1 : Int)))).bind fun x2 => bif decide (x1 ≤ x2) then some (Sum.inr (Sum.inl (6 : Int))) else some (Sum.inl (z, IntKind.i64.wrap (i + (1 : Int))))
  else some (Sum.inr (Sum.inr z))) := by kernel_rfl

theorem es_r9Check_6 (z : List Int × List Int × List (Int × Bool × List UInt8) × List (Int × Int) × Bool × (List UInt8 × List UInt8 × Int × Int × (Int × Int × Int × Int × Int) × (Int × Int × Int × Int × Int))) (t i : Int) : sp_r9Check_6 (z, t, i) = (
  bif decide (i < (↑(List.length z.snd.snd.snd.fst) : Int)) then
    bif decide ((0 : Int) < i) then
      (getI z.snd.snd.snd.fst i).bind fun x1 =>
        (getI z.snd.snd.snd.fst (IntKind.i64.wrap (i - (1 : Int)))).bind fun x2 =>
          bif decide (x1.fst ≤ x2.fst) then some (Sum.inr (Sum.inl (6 : Int)))
          else
            (getI z.snd.snd.snd.fst i).bind fun x3 =>
              (F_r9next (t, x3.snd)).bind fun x4 =>
                bif !x4 then some (Sum.inr (Sum.inl (6 : Int))) else (getI z.snd.snd.snd.fst i).bind fun x5 => some (Sum.inl (z, x5.snd, IntKind.i64.wrap (i + (1 : Int))))
    else
      (getI z.snd.snd.snd.fst i).bind fun x1 =>
        (F_r9next (t, x1.snd)).bind fun x2 => bif !x2 then some (Sum.inr (Sum.inl (6 : Int))) else (getI z.snd.snd.snd.fst i).bind fun x3 => some (Sum.inl (z, x3.snd, IntKind.i64.wrap (i + (1 : Int))))
  else some (Sum.inr (Sum.inr z))) := by kernel_rfl

theorem e_r9Check (z : List Int × List Int × List (Int × Bool × List UInt8) × List (Int × Int) × Bool × (List UInt8 × List UInt8 × Int × Int × (Int × Int × Int × Int × Int) × (Int × Int × Int × Int × Int))) : F_r9Check z = (
  bif decide ((↑(List.length z.snd.snd.fst) : Int) = (0 : Int)) then some (8 : Int)
  else
    bif decide ((256 : Int) < (↑(List.length z.snd.snd.fst) : Int)) then some (3 : Int)
    else
      bif decide ((2000 : Int) < (↑(List.length z.fst) : Int)) then some (3 : Int)
      else
        bif decide ((100 : Int) < (↑(List.length z.snd.snd.snd.fst) : Int)) then some (3 : Int)
        else
          bif decide ((↑(List.length z.snd.fst) : Int) ≠ (↑(List.length z.fst) : Int)) then some (2 : Int)
          else
            (w_r9Check_0 (z, (0 : Int))).bind fun x1 =>
              Sum.elim (fun x2 => some x2)
                (fun x2 =>
                  (w_r9Check_1 (x2, (0 : Int))).bind fun x3 =>
                    Sum.elim (fun x4 => some x4)
                      (fun x4 =>
                        (w_r9Check_2 (x4, (0 : Int))).bind fun x5 =>
                          Sum.elim (fun x6 => some x6)
                            (fun x6 =>
                              (w_r9Check_3 (x6, (0 : Int))).bind fun x7 =>
                                Sum.elim (fun x8 => some x8)
                                  (fun x8 =>
                                    (F_r9Names x8).bind fun x9 =>
                                      (w_r9Check_4 (x8, (0 : Int), x9, (0 : Int))).bind fun x10 =>
                                        bif decide ((256 : Int) < x10.snd) then some (3 : Int)
                                        else
                                          (w_r9Check_5 (x10.fst, (1 : Int))).bind fun x11 =>
                                            Sum.elim (fun x12 => some x12)
                                              (fun x12 =>
                                                (w_r9Check_6 (x12, (0 : Int), (0 : Int))).bind fun x13 =>
                                                  Sum.elim (fun x14 => some x14)
                                                    (fun x14 =>
                                                      bif !x14.snd.snd.snd.snd.fst then
                                                        bif
                                                            !(decide (x14.snd.snd.snd.snd.snd.fst = []) &&
                                                                (decide (x14.snd.snd.snd.snd.snd.snd.fst = []) &&
                                                                  (decide (x14.snd.snd.snd.snd.snd.snd.snd.fst = (0 : Int)) &&
                                                                    (decide (x14.snd.snd.snd.snd.snd.snd.snd.snd.fst = (0 : Int)) &&
                                                                      (decide (x14.snd.snd.snd.snd.snd.snd.snd.snd.snd.fst.fst = (0 : Int)) &&
                                                                          (decide (x14.snd.snd.snd.snd.snd.snd.snd.snd.snd.fst.snd.fst = (0 : Int)) &&
                                                                            (decide (x14.snd.snd.snd.snd.snd.snd.snd.snd.snd.fst.snd.snd.fst = (0 : Int)) &&
                                                                              (decide (x14.snd.snd.snd.snd.snd.snd.snd.snd.snd.fst.snd.snd.snd.fst = (0 : Int)) &&
                                                                                (decide (x14.snd.snd.snd.snd.snd.snd.snd.snd.snd.fst.snd.snd.snd.snd = (0 : Int)) && true)))) &&
                                                                        (decide (x14.snd.snd.snd.snd.snd.snd.snd.snd.snd.snd.fst = (0 : Int)) &&
                                                                            (decide (x14.snd.snd.snd.snd.snd.snd.snd.snd.snd.snd.snd.fst = (0 : Int)) &&
                                                                              (decide (x14.snd.snd.snd.snd.snd.snd.snd.snd.snd.snd.snd.snd.fst = (0 : Int)) &&
                                                                                (decide (x14.snd.snd.snd.snd.snd.snd.snd.snd.snd.snd.snd.snd.snd.fst = (0 : Int)) &&
                                                                                  (decide (x14.snd.snd.snd.snd.snd.snd.snd.snd.snd.snd.snd.snd.snd.snd = (0 : Int)) && true)))) &&
                                                                          true)))))) then
                                                          some (2 : Int)
                                                        else some (0 : Int)
                                                      else
                                                        (F_r7Check x14.snd.snd.snd.snd.snd).bind fun x15 =>
                                                          bif decide (x15 ≠ (0 : Int)) then some x15
                                                          else
                                                            bif decide ((↑(List.length x14.fst) : Int) = (0 : Int)) then some (0 : Int)
                                                            else
                                                              (getI x14.fst (IntKind.i64.wrap ((↑(List.length x14.fst) : Int) - (1 : Int)))).bind fun x16 =>
                                                                (F_r8Year x16).bind fun x17 =>
                                                                  bif !x17.snd then some (13 : Int)
                                                                  else
                                                                    (getI x14.fst (IntKind.i64.wrap ((↑(List.length x14.fst) : Int) - (1 : Int)))).bind fun x18 =>
                                                                      (F_r8At (x14.snd.snd.snd.snd.snd, x18)).bind fun x19 =>
                                                                        (getI x14.snd.fst (IntKind.i64.wrap ((↑(List.length x14.fst) : Int) - (1 : Int)))).bind fun x20 =>
                                                                          (getI x14.snd.snd.fst x20).bind fun x21 =>
                                                                            bif decide (x19.fst ≠ x21.fst) then some (10 : Int)
                                                                            else
                                                                              bif !x19.snd.fst == x21.snd.fst then some (10 : Int)
                                                                              else bif decide (x19.snd.snd ≠ x21.snd.snd) then some (10 : Int) else some (0 : Int))
                                                    x13)
                                              x11)
                                  x7)
                            x5)
                      x3)
                x1) := by kernel_rfl


/-! ### horologe/horologeref19.First -/
noncomputable abbrev ct_r9First : List (FuncId × Bool × SpecT) := []
theorem cs_r9First : AllSound Tryz.prog ct_r9First := trivial
-- loop 0 (key 2) exit 0: [1, 2, 3]
-- loop 0 (key 2) exit 2: [2]
-- loop 0 (key 2) exit 3: [1, 2]
abbrev kp_r9First : Keep := keepT [(2, 0, [(1, none), (2, none), (3, none)]), (2, 2, [(2, none)]), (2, 3, [(1, none), (2, none)])]
noncomputable abbrev b_r9First_0 : Code := loopAt Tryz.f19 0
noncomputable def sp_r9First_0 (x : ((List Int × List Int × List (Int × Bool × List UInt8) × List (Int × Int) × Bool × (List UInt8 × List UInt8 × Int × Int × (Int × Int × Int × Int × Int) × (Int × Int × Int × Int × Int))) × (Int × Bool × List UInt8) × Int)) : Option (((List Int × List Int × List (Int × Bool × List UInt8) × List (Int × Int) × Bool × (List UInt8 × List UInt8 × Int × Int × (Int × Int × Int × Int × Int) × (Int × Int × Int × Int × Int))) × (Int × Bool × List UInt8) × Int) ⊕ (((Int × Bool × List UInt8)) ⊕ ((List Int × List Int × List (Int × Bool × List UInt8) × List (Int × Int) × Bool × (List UInt8 × List UInt8 × Int × Int × (Int × Int × Int × Int × Int) × (Int × Int × Int × Int × Int))) × (Int × Bool × List UInt8)))) := (stepL Tryz.prog (lookT ct_r9First) kp_r9First (loopsT []) 0 false b_r9First_0 (codP [(.boxw [.p cZone]), (.box cTyp), pI]) (exS (exO .ret (codP [(.box cTyp)])) (exO (.ext 0) (codP [(.boxw [.p cZone]), (.box cTyp)]))) x).run
noncomputable def w_r9First_0 : ((List Int × List Int × List (Int × Bool × List UInt8) × List (Int × Int) × Bool × (List UInt8 × List UInt8 × Int × Int × (Int × Int × Int × Int × Int) × (Int × Int × Int × Int × Int))) × (Int × Bool × List UInt8) × Int) → Option (((Int × Bool × List UInt8)) ⊕ ((List Int × List Int × List (Int × Bool × List UInt8) × List (Int × Int) × Bool × (List UInt8 × List UInt8 × Int × Int × (Int × Int × Int × Int × Int) × (Int × Int × Int × Int × Int))) × (Int × Bool × List UInt8))) := whileO sp_r9First_0
theorem ew_r9First_0 (x : ((List Int × List Int × List (Int × Bool × List UInt8) × List (Int × Int) × Bool × (List UInt8 × List UInt8 × Int × Int × (Int × Int × Int × Int × Int) × (Int × Int × Int × Int × Int))) × (Int × Bool × List UInt8) × Int)) : w_r9First_0 x = (sp_r9First_0 x).bind (Sum.elim w_r9First_0 some) := whileO_eq _ _
noncomputable abbrev l_r9First_0 : LT := ltF (codP [(.boxw [.p cZone]), (.box cTyp), pI]) (exS (exO .ret (codP [(.box cTyp)])) (exO (.ext 0) (codP [(.boxw [.p cZone]), (.box cTyp)]))) w_r9First_0
theorem lo_r9First_0 : LoopOk Tryz.prog Tryz.f19.ntmps kp_r9First 0 false b_r9First_0 l_r9First_0 := loopG mixed cs_r9First (lps := loopsT []) (by kernel_rfl) (ls := []) (by kernel_rfl) lps_nil
noncomputable def F_r9First (x : ((List Int × List Int × List (Int × Bool × List UInt8) × List (Int × Int) × Bool × (List UInt8 × List UInt8 × Int × Int × (Int × Int × Int × Int × Int) × (Int × Int × Int × Int × Int))))) : Option ((Int × Bool × List UInt8)) := (evalF Tryz.prog (lookT ct_r9First) (kp_r9First) (loopsT [(2, l_r9First_0)]) false false Tryz.f19 (codP [pZone]) 1 (codP [pTyp]) x).run
noncomputable abbrev s_r9First : SpecT := specF (codP [pZone]) 1 (codP [pTyp]) F_r9First
theorem so_r9First : SoundT Tryz.prog 19 s_r9First := soundG (P := Tryz.prog) mixed (t := ct_r9First) cs_r9First (f := 19) (fn := Tryz.f19) Tryz.func19 (by kernel_rfl) (by kernel_rfl) (by kernel_rfl) (ls := [b_r9First_0]) (by kernel_rfl) (kp := kp_r9First) (lps := loopsT [(2, l_r9First_0)]) (bump := false) (ice := false) (A := (codP [pZone])) (n := 1) (R := (codP [pTyp])) fun _ => (lps_cons l_r9First_0 (by kernel_rfl) lo_r9First_0 lps_nil)

theorem es_r9First_0 (z : List Int × List Int × List (Int × Bool × List UInt8) × List (Int × Int) × Bool × (List UInt8 × List UInt8 × Int × Int × (Int × Int × Int × Int × Int) × (Int × Int × Int × Int × Int))) (t : Int × Bool × List UInt8) (i : Int) : sp_r9First_0 (z, t, i) = (
  bif decide (i < (↑(List.length z.snd.snd.fst) : Int)) then
    (getI z.snd.snd.fst i).bind fun x1 => bif !x1.snd.fst then (getI z.snd.snd.fst i).bind fun x2 => some (Sum.inr (Sum.inl x2)) else some (Sum.inl (z, t, IntKind.i64.wrap (i + (1 : Int))))
  else some (Sum.inr (Sum.inr (z, t)))) := by kernel_rfl

theorem e_r9First (z : List Int × List Int × List (Int × Bool × List UInt8) × List (Int × Int) × Bool × (List UInt8 × List UInt8 × Int × Int × (Int × Int × Int × Int × Int) × (Int × Int × Int × Int × Int))) : F_r9First z = (
  (w_r9First_0 (z, ((0 : Int), false, []), (0 : Int))).bind fun x1 => Sum.elim (fun x2 => some x2) (fun x2 => (getI x2.fst.snd.snd.fst (0 : Int)).bind fun x3 => some x3) x1) := by kernel_rfl


/-! ### horologe/horologenum.Is -/
noncomputable abbrev ct_lawIs : List (FuncId × Bool × SpecT) := [(11, false, s_lawNum)]
theorem cs_lawIs : AllSound Tryz.prog ct_lawIs := ⟨so_lawNum, trivial⟩
noncomputable def F_lawIs (x : (Int × Int)) : Option (Bool) := (evalF Tryz.prog (lookT ct_lawIs) (keepT []) (loopsT []) false false Tryz.f17 (codP [pE, pI]) 1 (codP [pB]) x).run
noncomputable abbrev s_lawIs : SpecT := specF (codP [pE, pI]) 1 (codP [pB]) F_lawIs
theorem so_lawIs : SoundT Tryz.prog 17 s_lawIs := soundG (P := Tryz.prog) mixed (t := ct_lawIs) cs_lawIs (f := 17) (fn := Tryz.f17) Tryz.func17 (by kernel_rfl) (by kernel_rfl) (by kernel_rfl) (ls := []) (by kernel_rfl) (kp := keepT []) (lps := loopsT []) (bump := false) (ice := false) (A := (codP [pE, pI])) (n := 1) (R := (codP [pB])) fun _ => lps_nil

theorem e_lawIs (e n : Int) : F_lawIs (e, n) = (
  (F_lawNum e).bind fun x1 => some (decide (x1 = n))) := by kernel_rfl


end Go.Sm
/- Plain Lean: texts that are read from the left (figures, scan). No program in sight but by its equations. -/
set_option linter.unusedVariables false
set_option linter.unusedSimpArgs false
namespace Go.Sm
open Go.Proofs

theorem wrap_i64 {x : Int} (h1 : -9223372036854775808 ≤ x) (h2 : x ≤ 9223372036854775807) : IntKind.i64.wrap x = x := by
  simp [IntKind.wrap, IntKind.bits, IntKind.signed]
  omega
theorem wrap_u64 {x : Int} (h1 : 0 ≤ x) (h2 : x ≤ 18446744073709551615) : IntKind.u64.wrap x = x := by
  simp [IntKind.wrap, IntKind.bits, IntKind.signed]
  omega
theorem getI_nat {α : Type} (l : List α) (i : Nat) : getI l (i : Int) = l[i]? := by
  unfold getI
  simp
theorem subI_nat {α : Type} (l : List α) {a b : Nat} (h : a ≤ b) (h2 : b ≤ l.length) : subI l (a : Int) (b : Int) = some ((l.take b).drop a) := by
  unfold subI
  rw [decide_eq_true (by omega)]
  simp
theorem cond_dec {α : Type} (p : Prop) [Decidable p] (a b : α) : (bif decide p then a else b) = if p then a else b := by
  by_cases h : p <;> simp [h]
abbrev small (s : List UInt8) : Prop := s.length ≤ 1000000000000

/-! ### figures -/
def isFig (b : UInt8) : Bool := decide (48 ≤ b) && decide (b ≤ 57)
theorem figIs (b : UInt8) : F_figIs b = some (isFig b) := by
  rw [e_figIs]
  unfold isFig
  cases decide (48 ≤ b) <;> rfl
theorem figRun_loop (s : List UInt8) (m : Int) (hs : small s) : ∀ (k n : Nat), (s.take m.toNat).length - n = k → n ≤ (s.take m.toNat).length →
    w_figRun_0 (s, m, (n : Int)) = some (((n + (((s.take m.toNat).drop n).takeWhile isFig).length : Nat) : Int)) := by
  intro k
  induction k with
  | zero =>
    intro n hk hn
    rw [ew_figRun_0, es_figRun_0, cond_dec, if_neg (by simp at hk hn; omega), List.drop_eq_nil_of_le (by omega)]
    rfl
  | succ k ih =>
    intro n hk hn
    have hlt : n < (s.take m.toNat).length := by omega
    have hlt2 : n < s.length := by simp at hlt; omega
    have hlt3 : n < m.toNat := by simp at hlt; omega
    rw [ew_figRun_0, es_figRun_0, cond_dec, if_pos (by simp at hlt; omega), getI_nat, List.getElem?_eq_getElem hlt2]
    simp only [Option.bind_some, figIs]
    rw [List.drop_eq_getElem_cons hlt, List.takeWhile_cons]
    have hg : (s.take m.toNat)[n] = s[n] := by simp
    rw [hg]
    unfold small at hs
    cases isFig s[n] with
    | true =>
      have hw : IntKind.i64.wrap ((n : Int) + 1) = ((n + 1 : Nat) : Int) := by rw [wrap_i64 (by omega) (by omega)]; simp
      rw [hw]
      have := ih (n + 1) (by omega) (by omega)
      simp only [cond_true, Option.bind_some, Sum.elim_inl, this, if_true, List.length_cons]
      congr 2
      omega
    | false => simp
/-- How many figures stand ahead. -/
def figs (m : Int) (s : List UInt8) : Nat := ((s.take m.toNat).takeWhile isFig).length
theorem figRun (s : List UInt8) (m : Int) (hs : small s) : F_figRun (s, m) = some (figs m s : Int) := by
  have h := figRun_loop s m hs _ 0 rfl (by omega)
  rw [Nat.zero_add, List.drop_zero, Int.natCast_zero] at h
  rw [e_figRun, h]
  rfl
def dig (b : UInt8) : Nat := b.toNat - 48
def decFrom (n : Nat) (s : List UInt8) : Nat := s.foldl (fun n b => n * 10 + dig b) n
theorem decFrom_cons (n : Nat) (b : UInt8) (s : List UInt8) : decFrom n (b :: s) = decFrom (n * 10 + dig b) s := by
  unfold decFrom
  rw [List.foldl_cons]
theorem decFrom_le (s : List UInt8) : ∀ n : Nat, n ≤ decFrom n s := by
  induction s with
  | nil => intro n; exact Nat.le_refl n
  | cons b s ih =>
    intro n
    have h := ih (n * 10 + dig b)
    rw [← decFrom_cons] at h
    omega
theorem isFig_iff {b : UInt8} : isFig b = true ↔ 48 ≤ b.toNat ∧ b.toNat ≤ 57 := by
  unfold isFig
  rw [Bool.and_eq_true, decide_eq_true_eq, decide_eq_true_eq, UInt8.le_iff_toNat_le, UInt8.le_iff_toNat_le]
  rfl
theorem figVal_loop (s : List UInt8) (hs : small s) (hf : s.all isFig = true) (lim : Nat) (hl : 9 ≤ lim) (hl2 : lim ≤ 18446744073709551615) : ∀ (k i n : Nat), s.length - i = k → i ≤ s.length → n ≤ lim →
    w_figValue_0 (s, (lim : Int), (n : Int), (s.length : Int), (i : Int)) = some (if decFrom n (s.drop i) ≤ lim then .inr ((decFrom n (s.drop i) : Nat) : Int) else .inl (0, 5)) := by
  intro k
  unfold small at hs
  induction k with
  | zero =>
    intro i n hk hi hn
    rw [ew_figValue_0, es_figValue_0, cond_dec, if_neg (by omega), List.drop_eq_nil_of_le (by omega)]
    simp [decFrom, hn]
  | succ k ih =>
    intro i n hk hi hn
    have hlt : i < s.length := by omega
    rw [ew_figValue_0, es_figValue_0, cond_dec, if_pos (by omega), getI_nat, List.getElem?_eq_getElem hlt, List.drop_eq_getElem_cons hlt, decFrom_cons]
    have hfi := isFig_iff.1 (List.all_eq_true.1 hf _ (List.getElem_mem hlt))
    generalize s[i] = b at hfi
    have hd : (b - (48 : UInt8)).toNat = dig b := by
      unfold dig
      rw [UInt8.toNat_sub_of_le _ _ (by rw [UInt8.le_iff_toNat_le]; exact hfi.1)]
      rfl
    have hdb : dig b ≤ 9 := by unfold dig; omega
    simp only [Option.bind_some, hd]
    rw [wrap_u64 (x := (lim : Int) - (dig b : Int)) (by omega) (by omega)]
    have hq : ((lim : Int) - (dig b : Int)).tdiv 10 = (((lim - dig b) / 10 : Nat) : Int) := by
      rw [show ((lim : Int) - (dig b : Int)) = ((lim - dig b : Nat) : Int) by omega]
      rfl
    rw [hq, wrap_u64 (by omega) (by omega), cond_dec]
    by_cases hc : n * 10 + dig b ≤ lim
    · rw [if_neg (by omega), wrap_u64 (x := (n : Int) * 10) (by omega) (by omega), wrap_u64 (by omega) (by omega), wrap_i64 (by omega) (by omega)]
      have := ih (i + 1) (n * 10 + dig b) (by omega) (by omega) hc
      simp only [Option.bind_some, Sum.elim_inl]
      rw [show ((n : Int) * 10 + (dig b : Int)) = ((n * 10 + dig b : Nat) : Int) by omega, show ((i : Int) + 1) = ((i + 1 : Nat) : Int) by omega, this]
    · have := decFrom_le (s.drop (i + 1)) (n * 10 + dig b)
      rw [if_pos (by omega), if_neg (by omega)]
      rfl
theorem figVal (s : List UInt8) (hs : small s) (hf : s.all isFig = true) (lim : Nat) (hl : 9 ≤ lim) (hl2 : lim ≤ 18446744073709551615) :
    F_figValue (s, (lim : Int)) = some (if decFrom 0 s ≤ lim then (((decFrom 0 s : Nat) : Int), 0) else (0, 5)) := by
  have h := figVal_loop s hs hf lim hl hl2 _ 0 0 rfl (by omega) (by omega)
  rw [List.drop_zero, Int.natCast_zero] at h
  rw [e_figValue, h]
  by_cases hc : decFrom 0 s ≤ lim
  · simp [hc]
  · simp [hc]
end Go.Sm
/- Plain Lean: the scanner as its rest and its error. -/
set_option linter.unusedVariables false
set_option linter.unusedSimpArgs false
namespace Go.Sm
open Go.Proofs

theorem indexByte_eq (l : List UInt8) (c : UInt8) : Lib.indexByte l c = if l.contains c then ((l.takeWhile (· != c)).length : Int) else -1 := by
  induction l with
  | nil => rfl
  | cons b l ih =>
    rw [Lib.indexByte, ih]
    by_cases hb : b = c
    · subst hb; simp
    · have h1 : (b == c) = false := by simpa using hb
      have h2 : (c == b) = false := by simpa using fun h => hb h.symm
      rw [h1, List.contains_cons, h2, Bool.false_or]
      cases hc : l.contains c with
      | true =>
        have h3 : ((((l.takeWhile (· != c)).length : Nat) : Int) == -1) = false := by simp
        simp only [Bool.false_eq_true, if_false, if_true, h3]
        rw [List.takeWhile_cons, show (b != c) = true by simpa using hb]
        simp
      | false => simp
theorem decFrom_lt (s : List UInt8) (hf : s.all isFig = true) : ∀ n : Nat, decFrom n s + 1 ≤ (n + 1) * 10 ^ s.length := by
  induction s with
  | nil => intro n; simp [decFrom]
  | cons b s ih =>
    intro n
    rw [List.all_cons, Bool.and_eq_true] at hf
    have h1 := isFig_iff.1 hf.1
    have h2 := ih hf.2 (n * 10 + dig b)
    rw [decFrom_cons, List.length_cons, Nat.pow_succ, Nat.mul_comm (10 ^ s.length) 10, ← Nat.mul_assoc]
    have hd : dig b ≤ 9 := by unfold dig; omega
    exact Nat.le_trans h2 (Nat.mul_le_mul_right _ (by omega))
theorem figs_le (m : Int) (s : List UInt8) : figs m s ≤ s.length ∧ figs m s ≤ m.toNat := by
  unfold figs
  have h := (List.takeWhile_prefix (p := isFig) (l := s.take m.toNat)).length_le
  simp at h
  omega
theorem figs_take (m : Int) (s : List UInt8) : s.take (figs m s) = (s.take m.toNat).takeWhile isFig := by
  have h : (s.take m.toNat).takeWhile isFig <+: s := (List.takeWhile_prefix _).trans (List.take_prefix _ _)
  exact (List.prefix_iff_eq_take.1 h).symm
theorem takeWhile_all (p : UInt8 → Bool) : ∀ s : List UInt8, (s.takeWhile p).all p = true
  | [] => rfl
  | b :: s => by
    rw [List.takeWhile_cons]
    cases hb : p b with
    | true => simp [hb, takeWhile_all p s]
    | false => simp
/-- What some figures say. -/
def figNum (m : Int) (s : List UInt8) : Nat := decFrom 0 (s.take (figs m s))
theorem figNum_lt (m : Int) (s : List UInt8) (k : Nat) (hk : m.toNat ≤ k) : figNum m s < 10 ^ k := by
  have h := decFrom_lt (s.take (figs m s)) (by rw [figs_take]; exact takeWhile_all _ _) 0
  have h2 := figs_le m s
  have h3 : 10 ^ (s.take (figs m s)).length ≤ 10 ^ k := Nat.pow_le_pow_right (by omega) (by simp; omega)
  unfold figNum
  omega
theorem FigTake (s : List UInt8) (l m : Nat) (hs : small s) (h1 : 1 ≤ l) (h2 : l ≤ m) (h3 : m ≤ 18) :
    F_FigTake (s, (l : Int), (m : Int)) = some (if figs m s < l then (0, 0, 2) else (((figNum m s : Nat) : Int), ((figs m s : Nat) : Int), 0)) := by
  have hle := figs_le m s
  have hv := figVal (s.take (figs m s)) (by unfold small at hs ⊢; simp; omega) (by rw [figs_take]; exact takeWhile_all _ _) 9223372036854775807 (by omega) (by omega)
  have hlt := figNum_lt m s 18 (by simpa using h3)
  have hd : decFrom 0 (s.take (figs m s)) ≤ 9223372036854775807 := by unfold figNum at hlt; omega
  rw [if_pos hd] at hv
  rw [e_FigTake, e_figTake]
  simp only [cond_dec]
  rw [if_neg (by omega), if_neg (by omega), if_neg (by omega), figRun s m hs]
  simp only [Option.bind_some]
  have hsub := subI_nat s (a := 0) (b := figs m s) (by omega) hle.1
  rw [List.drop_zero, Int.natCast_zero] at hsub
  by_cases hc : figs m s < l
  · rw [if_pos (show ((figs (m : Int) s : Nat) : Int) < (l : Int) by omega), if_pos hc]; rfl
  · rw [if_neg (show ¬ ((figs (m : Int) s : Nat) : Int) < (l : Int) by omega), if_neg hc, hsub]
    simp only [Option.bind_some]
    rw [show ((9223372036854775807 : Nat) : Int) = 9223372036854775807 from rfl] at hv
    rw [hv]
    simp only [Option.bind_some]
    rw [if_neg (by simp)]
    simp only [Option.bind_some]
    rw [wrap_i64 (by omega) (by omega)]
    rfl

/-! ### A scanner: its text, what is left of it, its error -/
def sc (t r : List UInt8) (e : Int) : List UInt8 × Int × Int := (t, ((t.length - r.length : Nat) : Int), e)
/-- What can be read. -/
def rd (r : List UInt8) (e : Int) : List UInt8 := if e = 0 then r else []
theorem scRest {t r : List UInt8} {e : Int} (h : r <:+ t) : F_scRest (sc t r e, ()) = some (sc t r e, rd r e) := by
  unfold sc rd
  rw [e_scRest, cond_dec, subI_nat _ (by omega) (Nat.le_refl _), List.take_length, ← List.suffix_iff_eq_drop.1 h]
  by_cases he : e = 0 <;> simp [he]
theorem scGoing {t r : List UInt8} {e : Int} : F_scGoing (sc t r e, ()) = some (sc t r e, decide (e = 0)) := e_scGoing _ _ _
theorem scErr {t r : List UInt8} {e : Int} : F_scErr (sc t r e, ()) = some (sc t r e, e) := e_scErr _ _ _
theorem scLeft {t r : List UInt8} {e : Int} (h : r <:+ t) : F_scLeft (sc t r e, ()) = some (sc t r e, ((rd r e).length : Int)) := by
  unfold sc
  rw [e_scLeft]
  have := scRest (e := e) h
  unfold sc at this
  rw [this]
  rfl
theorem scPeek {t r : List UInt8} {e : Int} (h : r <:+ t) : F_scPeek (sc t r e, ()) = some (sc t r e, match rd r e with | [] => (0, false) | b :: _ => (b, true)) := by
  have := scRest (e := e) h
  unfold sc at this ⊢
  rw [e_scPeek, this]
  cases rd r e with
  | nil => rfl
  | cons b l => rfl
theorem clone (s : List UInt8) (hs : small s) : F_Clone s = some s := by
  rw [e_Clone, cond_dec, if_pos (by unfold small at hs; omega)]
theorem scTake1 {t r : List UInt8} {e : Int} (h : r <:+ t) (ht : small t) {k : Nat} (hk : k ≤ (rd r e).length) : F_scTake1 (sc t r e, (), (k : Int)) = some (sc t (r.drop k) e, (rd r e).take k) := by
  have hr := scRest (e := e) h
  have hl := h.length_le
  have hlr : (rd r e).length ≤ r.length := by unfold rd; split <;> simp
  have hsub := subI_nat (rd r e) (a := 0) (b := k) (by omega) hk
  rw [List.drop_zero, Int.natCast_zero] at hsub
  unfold small at ht
  have hc := clone ((rd r e).take k) (by unfold small; simp; omega)
  unfold sc at hr ⊢
  rw [e_scTake1, hr]
  simp only [Option.bind_some, hsub, hc, cond_dec]
  by_cases hk0 : k = 0
  · subst hk0
    simp
  · rw [if_pos (by omega), wrap_i64 (by omega) (by omega)]
    simp only [List.length_drop, Option.some.injEq, Prod.mk.injEq, true_and, and_true]
    omega
/-- Is a byte taken? -/
def tkB (b : UInt8) (r : List UInt8) (e : Int) : Bool := decide ((rd r e).head? = some b)
def tk (b : UInt8) (r : List UInt8) (e : Int) : List UInt8 := if tkB b r e then r.drop 1 else r
theorem scTake {t r : List UInt8} {e : Int} (h : r <:+ t) (ht : small t) (b : UInt8) : F_scTake (sc t r e, (), b) = some (sc t (tk b r e) e, tkB b r e) := by
  have hp := scPeek (e := e) h
  have h1 := fun hk => scTake1 (e := e) h ht (k := 1) hk
  rw [Int.natCast_one] at h1
  unfold tk tkB
  have he : F_scTake (sc t r e, (), b) = (F_scPeek (sc t r e, ())).bind fun x1 => bif !x1.snd.snd then some (x1.fst, false) else bif decide (x1.snd.fst ≠ b) then some (x1.fst, false) else (F_scTake1 (x1.fst, (), (1 : Int))).bind fun x2 => some (x2.fst, true) := e_scTake _ _ _ _
  rw [he, hp]
  cases hq : rd r e with
  | nil => simp
  | cons c l =>
    simp only [Option.bind_some, Bool.not_true, cond_false, cond_dec, List.head?_cons, Option.some.injEq]
    by_cases hcb : c = b
    · rw [if_neg (by simpa using hcb), h1 (by rw [hq]; simp)]
      simp [hcb]
    · rw [if_pos hcb]
      simp [hcb]
theorem scFail {t r : List UInt8} {e : Int} (x : Int) : F_scFail (sc t r e, (), x) = some (sc t r (if e = 0 then x else e), ()) := by
  have he : F_scFail (sc t r e, (), x) = (F_scGoing (sc t r e, ())).bind fun x1 => bif x1.snd then some ((x1.fst.fst, x1.fst.snd.fst, x), ()) else some (x1.fst, ()) := e_scFail _ _ _ _
  rw [he, scGoing]
  simp only [Option.bind_some, cond_dec]
  by_cases h : e = 0
  · rw [if_pos h, if_pos h]; rfl
  · rw [if_neg h, if_neg h]
theorem scEnd {t r : List UInt8} {e : Int} (h : r <:+ t) : F_scEnd (sc t r e, ()) = some (sc t r e, if e ≠ 0 then e else if r = [] then 0 else 2) := by
  have he : F_scEnd (sc t r e, ()) = (F_scErr (sc t r e, ())).bind fun x1 => bif decide (x1.snd ≠ (0 : Int)) then some x1 else (F_scLeft (x1.fst, ())).bind fun x2 => bif decide ((0 : Int) < x2.snd) then some (x2.fst, (2 : Int)) else some (x2.fst, (0 : Int)) := e_scEnd _ _ _
  rw [he, scErr]
  simp only [Option.bind_some, cond_dec]
  by_cases h0 : e = 0
  · subst h0
    rw [if_neg (by simp), scLeft h]
    simp only [Option.bind_some, rd, if_true]
    cases r with
    | nil => simp
    | cons b l => simp
  · rw [if_pos h0, if_pos h0]
end Go.Sm
/- Plain Lean: the scanner's longer reads. -/
set_option linter.unusedVariables false
set_option linter.unusedSimpArgs false
namespace Go.Sm
open Go.Proofs

theorem scRun_loop (t : List UInt8) (a e : Int) (o r : List UInt8) (hs : small r) : ∀ (k n : Nat), r.length - n = k → n ≤ r.length →
    w_scRun_0 ((t, a, e), (), o, r, (n : Int)) = some ((t, a, e), (), ((n + ((r.drop n).takeWhile fun c => o.contains c).length : Nat) : Int)) := by
  intro k
  unfold small at hs
  induction k with
  | zero =>
    intro n hk hn
    rw [ew_scRun_0, es_scRun_0, cond_dec, if_neg (by omega), List.drop_eq_nil_of_le (by omega)]
    rfl
  | succ k ih =>
    intro n hk hn
    have hlt : n < r.length := by omega
    rw [ew_scRun_0, es_scRun_0, cond_dec, if_pos (by omega), getI_nat, List.getElem?_eq_getElem hlt, List.drop_eq_getElem_cons hlt, List.takeWhile_cons]
    simp only [Option.bind_some, cond_dec, indexByte_eq]
    cases hc : o.contains r[n] with
    | true =>
      rw [if_pos rfl, if_pos (by omega), wrap_i64 (by omega) (by omega)]
      have := ih (n + 1) (by omega) (by omega)
      simp only [Option.bind_some, Sum.elim_inl, if_true, List.length_cons]
      rw [show ((n : Int) + 1) = ((n + 1 : Nat) : Int) by omega, this]
      simp only [Option.some.injEq, Prod.mk.injEq, true_and]
      omega
    | false =>
      simp only [Bool.false_eq_true, if_false]
      rw [if_neg (by omega)]
      rfl
theorem takeWhile_self (p : UInt8 → Bool) : ∀ l : List UInt8, (∀ x ∈ l, p x = true) → l.takeWhile p = l
  | [], _ => rfl
  | b :: l, h => by
    rw [List.takeWhile_cons, h b (by simp), if_pos rfl, takeWhile_self p l fun x hx => h x (by simp [hx])]
/-- A reader's run: what it takes, what is left. -/
def runP (o : List UInt8) : UInt8 → Bool := fun c => o.contains c
theorem take_takeWhile (p : UInt8 → Bool) (l : List UInt8) : l.take (l.takeWhile p).length = l.takeWhile p :=
  (List.prefix_iff_eq_take.1 (List.takeWhile_prefix p)).symm
theorem drop_takeWhile (p : UInt8 → Bool) : ∀ l : List UInt8, l.drop (l.takeWhile p).length = l.dropWhile p
  | [] => rfl
  | b :: l => by
    rw [List.takeWhile_cons, List.dropWhile_cons]
    cases p b with
    | true => simpa using drop_takeWhile p l
    | false => rfl
def wl (p : UInt8 → Bool) (r : List UInt8) (e : Int) : List UInt8 := if e = 0 then r.dropWhile p else r
theorem rd_zero {r : List UInt8} : rd r 0 = r := rfl
theorem rd_ne {r : List UInt8} {e : Int} (h : e ≠ 0) : rd r e = [] := if_neg h
theorem scTakeN {t r : List UInt8} {e : Int} (h : r <:+ t) (ht : small t) (p : UInt8 → Bool) : F_scTake1 (sc t r e, (), (((rd r e).takeWhile p).length : Int)) = some (sc t (wl p r e) e, (rd r e).takeWhile p) := by
  have hle : ((rd r e).takeWhile p).length ≤ (rd r e).length := (List.takeWhile_prefix p).length_le
  rw [scTake1 h ht hle, take_takeWhile]
  unfold wl
  by_cases he : e = 0
  · subst he
    rw [if_pos rfl, rd_zero, drop_takeWhile]
  · rw [if_neg he, rd_ne he]
    rfl
theorem small_rd {t r : List UInt8} {e : Int} (h : r <:+ t) (ht : small t) : small (rd r e) := by
  have := h.length_le
  unfold small rd at *
  split
  · omega
  · simp
theorem scRun {t r : List UInt8} {e : Int} (h : r <:+ t) (ht : small t) (o : List UInt8) : F_scRun (sc t r e, (), o) = some (sc t (wl (runP o) r e) e, (rd r e).takeWhile (runP o)) := by
  have he : F_scRun (sc t r e, (), o) = (F_scRest (sc t r e, ())).bind fun x1 => (w_scRun_0 (x1.fst, (), o, x1.snd, (0 : Int))).bind fun x2 => (F_scTake1 (x2.fst, (), x2.snd.snd)).bind fun x3 => some x3 := e_scRun _ _ _ _
  have hl : w_scRun_0 (sc t r e, (), o, rd r e, ((0 : Nat) : Int)) = some (sc t r e, (), _) := scRun_loop t _ e o (rd r e) (small_rd h ht) _ 0 rfl (by omega)
  rw [Nat.zero_add, List.drop_zero, Int.natCast_zero] at hl
  rw [he, scRest h]
  simp only [Option.bind_some]
  rw [hl]
  simp only [Option.bind_some]
  exact congrArg (fun o => Option.bind o some) (scTakeN h ht (runP o))
theorem scUntil {t r : List UInt8} {e : Int} (h : r <:+ t) (ht : small t) (b : UInt8) : F_scUntil (sc t r e, (), b) = some (sc t (wl (· != b) r e) e, (rd r e).takeWhile (· != b)) := by
  have he : F_scUntil (sc t r e, (), b) = (F_scRest (sc t r e, ())).bind fun x1 =>
    bif decide (Lib.indexByte x1.snd b < (0 : Int)) then (F_scTake1 (x1.fst, (), (↑(List.length x1.snd) : Int))).bind fun x2 => some x2
    else (F_scTake1 (x1.fst, (), Lib.indexByte x1.snd b)).bind fun x2 => some x2 := e_scUntil _ _ _ _
  have hn := scTakeN (e := e) h ht (· != b)
  rw [he, scRest h]
  simp only [Option.bind_some, cond_dec, indexByte_eq]
  cases hc : (rd r e).contains b with
  | true =>
    rw [if_pos rfl, if_neg (by omega), hn]
    rfl
  | false =>
    have hall : (rd r e).takeWhile (· != b) = rd r e := by
      refine takeWhile_self _ _ fun x hx => ?_
      have : ¬ b ∈ rd r e := by simpa using hc
      simp only [bne_iff_ne, ne_eq]
      rintro rfl
      exact this hx
    rw [hall] at hn
    simp only [Bool.false_eq_true, if_false]
    rw [if_pos (by omega), hn, hall]
    rfl
/-- Are the figures there? -/
def fgB (l m : Nat) (r : List UInt8) (e : Int) : Bool := decide (e = 0) && !decide (figs m r < l)
def fgE (l m : Nat) (r : List UInt8) (e : Int) : Int := if e = 0 ∧ figs m r < l then 2 else e
def fgR (l m : Nat) (r : List UInt8) (e : Int) : List UInt8 := if fgB l m r e then r.drop (figs m r) else r
def fgV (l m : Nat) (r : List UInt8) (e : Int) : Int := if fgB l m r e then (figNum m r : Int) else 0
theorem scFigures {t r : List UInt8} {e : Int} (h : r <:+ t) (ht : small t) (l m : Nat) (h1 : 1 ≤ l) (h2 : l ≤ m) (h3 : m ≤ 18) :
    F_scFigures (sc t r e, (), (l : Int), (m : Int)) = some (sc t (fgR l m r e) (fgE l m r e), fgV l m r e) := by
  have he : F_scFigures (sc t r e, (), (l : Int), (m : Int)) = (F_scGoing (sc t r e, ())).bind fun x1 =>
    bif !x1.snd then some (x1.fst, (0 : Int))
    else
      (F_scRest (x1.fst, ())).bind fun x2 =>
        (F_FigTake (x2.snd, (l : Int), (m : Int))).bind fun x3 =>
          bif decide (x3.snd.snd ≠ (0 : Int)) then some ((x2.fst.fst, x2.fst.snd.fst, x3.snd.snd), (0 : Int)) else (F_scTake1 (x2.fst, (), x3.snd.fst)).bind fun x4 => some (x4.fst, x3.fst) := e_scFigures _ _ _ _ _
  rw [he, scGoing]
  simp only [Option.bind_some]
  by_cases h0 : e = 0
  · subst h0
    have hsm := small_rd (e := 0) h ht
    simp only [decide_true, Bool.not_true, cond_false]
    rw [rd_zero] at hsm
    rw [scRest h, rd_zero]
    simp only [Option.bind_some]
    rw [FigTake r l m hsm h1 h2 h3]
    simp only [Option.bind_some, cond_dec]
    by_cases hc : figs m r < l
    · rw [if_pos hc]
      simp [fgE, fgR, fgV, fgB, hc, sc]
    · rw [if_neg hc]
      simp only [ne_eq, not_true_eq_false, if_false]
      rw [scTake1 h ht (k := figs m r) (by rw [rd_zero]; exact (figs_le _ _).1)]
      simp [fgE, fgR, fgV, fgB, hc]
  · simp [fgE, fgR, fgV, fgB, h0]
theorem scSmall (b : UInt8) : F_scSmall b = some (if 65 ≤ b ∧ b ≤ 90 then b - 65 + 97 else b) := by
  rw [e_scSmall]
  simp only [cond_dec]
  by_cases h1 : 65 ≤ b
  · by_cases h2 : b ≤ 90 <;> simp [h1, h2]
  · simp [h1]
theorem scAlike1 (b c : UInt8) (hc : ¬ (97 ≤ c ∧ c ≤ 122)) (hc2 : ¬ (65 ≤ c ∧ c ≤ 90)) : F_scAlike ([b], [c]) = some (decide (b = c)) := by
  have hg : ∀ x : UInt8, getI [x] 0 = some x := fun x => rfl
  have hw : IntKind.i64.wrap ((0 : Int) + 1) = 1 := by rw [wrap_i64 (by omega) (by omega)]; rfl
  rw [e_scAlike, ew_scAlike_0, es_scAlike_0]
  simp only [cond_dec, List.length_singleton, hg, scSmall, Option.bind_some, if_neg hc2, hw]
  rw [if_pos (by simp)]
  have hiff : (if 65 ≤ b ∧ b ≤ 90 then b - 65 + 97 else b) = c ↔ b = c := by
    by_cases hb : 65 ≤ b ∧ b ≤ 90
    · rw [if_pos hb]
      constructor
      · intro h
        exfalso
        apply hc
        subst h
        simp only [UInt8.le_iff_toNat_le] at hb ⊢
        have h1 : (b - 65).toNat = b.toNat - 65 := UInt8.toNat_sub_of_le _ _ (by rw [UInt8.le_iff_toNat_le]; exact hb.1)
        have h2 : (b - 65 + 97).toNat = b.toNat - 65 + 97 := by
          rw [UInt8.toNat_add, h1]
          have : b.toNat ≤ 90 := hb.2
          simp
          omega
        rw [h2]
        have h3 : (65 : UInt8).toNat = 65 := rfl
        have h4 : (90 : UInt8).toNat = 90 := rfl
        have h5 : (97 : UInt8).toNat = 97 := rfl
        have h6 : (122 : UInt8).toNat = 122 := rfl
        omega
      · rintro rfl
        exact absurd hb hc2
    · rw [if_neg hb]
  by_cases hbc : b = c
  · rw [if_neg (by simpa using hiff.2 hbc)]
    simp only [Option.bind_some, Sum.elim_inl]
    rw [ew_scAlike_0, es_scAlike_0]
    simp [hbc]
  · rw [if_pos (fun h => hbc (hiff.1 h))]
    simp [hbc]
theorem scFold1 {t r : List UInt8} {e : Int} (h : r <:+ t) (ht : small t) (c : UInt8) (hc : ¬ (97 ≤ c ∧ c ≤ 122)) (hc2 : ¬ (65 ≤ c ∧ c ≤ 90)) : F_scFold (sc t r e, (), [c]) = some (sc t (tk c r e) e, tkB c r e) := by
  have he : F_scFold (sc t r e, (), [c]) = (F_scRest (sc t r e, ())).bind fun x1 =>
    (F_scGoing (x1.fst, ())).bind fun x2 =>
      bif !x2.snd then some (x2.fst, false)
      else
        bif decide ((↑(List.length x1.snd) : Int) < (↑[c].length : Int)) then some (x2.fst, false)
        else
          (subI x1.snd (0 : Int) (↑[c].length : Int)).bind fun x3 =>
            (F_scAlike (x3, [c])).bind fun x4 => bif !x4 then some (x2.fst, false) else (F_scTake1 (x2.fst, (), (↑[c].length : Int))).bind fun x5 => some (x5.fst, true) := e_scFold _ _ _ _
  rw [he]
  clear he
  by_cases h0 : e = 0
  · subst h0
    have h1 := fun hk => scTake1 (e := 0) h ht (k := 1) hk
    rw [rd_zero] at h1
    rw [scRest h, rd_zero]
    simp only [Option.bind_some]
    rw [scGoing]
    simp only [Option.bind_some, decide_true, Bool.not_true, cond_false, List.length_singleton, cond_dec]
    unfold tk tkB
    rw [rd_zero]
    cases r with
    | nil => simp
    | cons b l =>
      rw [if_neg (by simp; omega)]
      have hsub := subI_nat (b :: l) (a := 0) (b := 1) (by omega) (by simp)
      rw [Int.natCast_zero] at hsub
      rw [hsub]
      simp only [Option.bind_some, List.take_succ_cons, List.take_zero, List.drop_zero]
      rw [scAlike1 b c hc hc2]
      simp only [Option.bind_some]
      by_cases hbc : b = c
      · rw [h1 (by simp)]
        simp [hbc]
      · simp [hbc]
  · rw [scRest h]
    simp only [Option.bind_some]
    rw [scGoing]
    unfold tk tkB
    simp [h0, rd]
def muE (c : UInt8) (r : List UInt8) (e : Int) : Int := if e = 0 ∧ tkB c r e = false then 2 else e
theorem scMust1 {t r : List UInt8} {e : Int} (h : r <:+ t) (ht : small t) (c : UInt8) (hc : ¬ (97 ≤ c ∧ c ≤ 122)) (hc2 : ¬ (65 ≤ c ∧ c ≤ 90)) : F_scMust (sc t r e, (), [c]) = some (sc t (tk c r e) (muE c r e), ()) := by
  have he : F_scMust (sc t r e, (), [c]) = (F_scFold (sc t r e, (), [c])).bind fun x1 => bif !x1.snd then (F_scFail (x1.fst, (), (2 : Int))).bind fun x2 => some (x2.fst, ()) else some (x1.fst, ()) := e_scMust _ _ _ _
  rw [he, scFold1 h ht c hc hc2]
  simp only [Option.bind_some]
  unfold muE
  cases hb : tkB c r e with
  | true => simp
  | false =>
    simp only [Bool.not_false, cond_true]
    rw [scFail]
    simp
theorem suf_tk {t r : List UInt8} {e : Int} (b : UInt8) (h : r <:+ t) : tk b r e <:+ t := by
  unfold tk
  split
  · exact (List.drop_suffix _ _).trans h
  · exact h
theorem suf_wl {t r : List UInt8} {e : Int} (p : UInt8 → Bool) (h : r <:+ t) : wl p r e <:+ t := by
  unfold wl
  split
  · exact (List.dropWhile_suffix _).trans h
  · exact h
theorem suf_fgR {t r : List UInt8} {e : Int} (l m : Nat) (h : r <:+ t) : fgR l m r e <:+ t := by
  unfold fgR
  split
  · exact (List.drop_suffix _ _).trans h
  · exact h
end Go.Sm
/- Plain Lean: loops over a text or a list. -/
set_option linter.unusedVariables false
set_option linter.unusedSimpArgs false
namespace Go.Sm
open Go.Proofs

theorem all_mem {p : UInt8 → Bool} {s : List UInt8} (h : s.all p = true) : ∀ x ∈ s, p x = true := List.all_eq_true.1 h
/-! ### Loops over a text or a list -/
theorem scan_loop {σ β γ : Type} {step : σ → Option (σ ⊕ β)} (st : Nat → σ) (fin : Nat → β) (l : List γ) (p : γ → Bool)
    (h1 : ∀ i (h : i < l.length), p l[i] = true → step (st i) = some (.inl (st (i + 1)))) (h2 : ∀ i (h : i < l.length), p l[i] = false → step (st i) = some (.inr (fin i)))
    (h3 : step (st l.length) = some (.inr (fin l.length))) : ∀ i, i ≤ l.length → whileO step (st i) = some (fin (i + ((l.drop i).takeWhile p).length)) := by
  have main : ∀ k i, l.length - i = k → i ≤ l.length → whileO step (st i) = some (fin (i + ((l.drop i).takeWhile p).length)) := by
    intro k
    induction k with
    | zero =>
      intro i hk hi
      obtain rfl : i = l.length := by omega
      rw [whileO_eq, h3, List.drop_length]
      rfl
    | succ k ih =>
      intro i hk hi
      have hlt : i < l.length := by omega
      rw [whileO_eq, List.drop_eq_getElem_cons hlt, List.takeWhile_cons]
      cases hp : p l[i] with
      | true =>
        rw [h1 i hlt hp]
        simp only [Option.bind_some, Sum.elim_inl, if_true, List.length_cons]
        rw [ih (i + 1) (by omega) (by omega)]
        congr 2
        omega
      | false =>
        rw [h2 i hlt hp]
        rfl
  exact fun i hi => main _ i rfl hi
theorem fold_loop {σ β γ α : Type} {step : σ → Option (σ ⊕ β)} (st : Nat → α → σ) (fin : α → β) (l : List γ) (f : α → γ → α) (ok : Nat → α → Prop)
    (h1 : ∀ i (h : i < l.length) a, ok i a → ok (i + 1) (f a l[i]) ∧ step (st i a) = some (.inl (st (i + 1) (f a l[i]))))
    (h3 : ∀ a, ok l.length a → step (st l.length a) = some (.inr (fin a))) : ∀ i a, i ≤ l.length → ok i a → whileO step (st i a) = some (fin ((l.drop i).foldl f a)) := by
  have main : ∀ k i a, l.length - i = k → i ≤ l.length → ok i a → whileO step (st i a) = some (fin ((l.drop i).foldl f a)) := by
    intro k
    induction k with
    | zero =>
      intro i a hk hi hok
      obtain rfl : i = l.length := by omega
      rw [whileO_eq, h3 a hok, List.drop_length]
      rfl
    | succ k ih =>
      intro i a hk hi hok
      have hlt : i < l.length := by omega
      obtain ⟨ho, hs⟩ := h1 i hlt a hok
      rw [whileO_eq, hs, List.drop_eq_getElem_cons hlt, List.foldl_cons]
      exact ih (i + 1) _ (by omega) (by omega) ho
  exact fun i a hi hok => main _ i a rfl hi hok
theorem wrap_succ {i : Nat} (h : i ≤ 1000000000000) : IntKind.i64.wrap ((i : Int) + 1) = ((i + 1 : Nat) : Int) := by rw [wrap_i64 (by omega) (by omega)]; simp
theorem getI_at {α : Type} {l : List α} {i : Nat} (h : i < l.length) : getI l (i : Int) = some l[i] := by rw [getI_nat, List.getElem?_eq_getElem h]
theorem tw_full (p : UInt8 → Bool) (s : List UInt8) : (s.takeWhile p).length = s.length ↔ s.all p = true := by
  constructor
  · intro h
    have : s.takeWhile p = s := List.IsPrefix.eq_of_length (List.takeWhile_prefix _) h
    rw [← this]
    exact takeWhile_all p s
  · intro h
    rw [takeWhile_self p s (all_mem h)]
theorem scan_ne {σ β : Type} {step : σ → Option (σ ⊕ β)} (st : Nat → σ) (fin : Nat → β) (s : List UInt8) (p : UInt8 → Bool)
    (h : ∀ i, i ≤ s.length → step (st i) = (if h : i < s.length then (if p s[i] then some (.inl (st (i + 1))) else some (.inr (fin i))) else some (.inr (fin i)))) :
    ∀ i, i ≤ s.length → whileO step (st i) = some (fin (i + ((s.drop i).takeWhile p).length)) :=
  scan_loop st fin s p (fun i hi hp => by rw [h i (by omega), dif_pos hi, if_pos hp]) (fun i hi hp => by rw [h i (by omega), dif_pos hi, if_neg (by simp [hp])]) (by rw [h _ (by omega), dif_neg (by omega)])
end Go.Sm
/- Plain Lean: sets of bytes below 128, read rune by rune. -/
set_option linter.unusedVariables false
set_option linter.unusedSimpArgs false
namespace Go.Sm
open Go.Proofs

theorem get_at (s : List UInt8) (p : Nat) (h : p < s.length) : (ByteArray.get! ⟨s.toArray⟩ (p + 0)) = s[p] := by
  rw [Nat.add_zero]
  show (s.toArray)[p]! = s[p]
  simp [h]
theorem dec_low (s : List UInt8) (p : Nat) (h : p < s.length) (hb : s[p].toNat < 128) : Utf8.decode ⟨s.toArray⟩ p = (s[p].toNat, 1) := by
  unfold Utf8.decode
  simp only [get_at s p h]
  rw [if_pos hb]
theorem dec_high (s : List UInt8) (p : Nat) (h : p < s.length) (hb : 128 ≤ s[p].toNat) : 128 ≤ (Utf8.decode ⟨s.toArray⟩ p).1 := by
  unfold Utf8.decode
  simp only [get_at s p h]
  rw [if_neg (by omega)]
  repeat' split
  all_goals first | (simp [Utf8.runeError]; done) | skip
  · rename_i h1 h2; simp at h2 ⊢; omega
  · rename_i h1 h2; simp at h2 ⊢; omega
  · rename_i h1 h2; simp at h2 ⊢; omega
/-- All bytes of a set are below 128. -/
abbrev low (u : List UInt8) : Prop := ∀ x ∈ u, x.toNat < 128
def inSet (u : List UInt8) (c : Int) : Bool := u.any fun x => decide (c = (x.toNat : Int))
theorem cutL1 (s t : List UInt8) (i c : Int) (r u : List UInt8) (p : Nat) (hu : low u) : ∀ (k q : Nat) (b : Bool), u.length - q = k → q ≤ u.length →
    w_cutLeft_1 (s, t, i, c, b, (r, p), (u, q)) = some (s, t, i, b || inSet (u.drop q) c, (r, p)) := by
  intro k
  induction k with
  | zero =>
    intro q b hk hq
    rw [ew_cutLeft_1, es_cutLeft_1, cond_dec, if_neg (by omega), List.drop_eq_nil_of_le (by omega)]
    simp [inSet]
  | succ k ih =>
    intro q b hk hq
    have hlt : q < u.length := by omega
    rw [ew_cutLeft_1, es_cutLeft_1, cond_dec, if_pos hlt, dec_low u q hlt (hu _ (List.getElem_mem hlt)), List.drop_eq_getElem_cons hlt]
    cases b with
    | true =>
      simp only [cond_true, Option.bind_some, Sum.elim_inl, Bool.true_or]
      rw [ih (q + 1) true (by omega) (by omega)]
      rfl
    | false =>
      simp only [cond_false, Option.bind_some, Sum.elim_inl, Bool.false_or]
      rw [ih (q + 1) _ (by omega) (by omega)]
      unfold inSet
      rw [List.any_cons]
theorem inSet_low (u : List UInt8) (b : UInt8) : inSet u (b.toNat : Int) = u.contains b := by
  unfold inSet
  rw [Bool.eq_iff_iff, List.any_eq_true, List.contains_iff_mem]
  constructor
  · rintro ⟨x, hx, h⟩
    have h := of_decide_eq_true h
    have : b = x := UInt8.toNat_inj.1 (by omega)
    rwa [this]
  · intro h
    exact ⟨b, h, by simp⟩
theorem inSet_high (u : List UInt8) (hu : low u) (c : Nat) (h : 128 ≤ c) : inSet u (c : Int) = false := by
  unfold inSet
  rw [List.any_eq_false]
  intro x hx
  have := hu x hx
  simp
  omega
theorem high_out (u : List UInt8) (hu : low u) (b : UInt8) (h : 128 ≤ b.toNat) : u.contains b = false := by
  cases hc : u.contains b with
  | false => rfl
  | true =>
    have := hu b (by simpa using hc)
    omega
theorem rune_in (s u : List UInt8) (hu : low u) (p : Nat) (h : p < s.length) : inSet u ((Utf8.decode ⟨s.toArray⟩ p).1 : Int) = u.contains s[p] := by
  by_cases hb : s[p].toNat < 128
  · rw [dec_low s p h hb, inSet_low]
  · rw [inSet_high u hu _ (dec_high s p h (by omega)), high_out u hu _ (by omega)]
theorem cutL0 (s u : List UInt8) (hs : small s) (hu : low u) : ∀ (k p : Nat), s.length - p = k → p ≤ s.length →
    w_cutLeft_0 (s, u, (s, p)) = some (if (s.drop p).dropWhile (fun c => u.contains c) = [] then .inr () else .inl ((s.drop p).dropWhile (fun c => u.contains c))) := by
  intro k
  unfold small at hs
  induction k with
  | zero =>
    intro p hk hp
    rw [ew_cutLeft_0, es_cutLeft_0, cond_dec, if_neg (by omega), List.drop_eq_nil_of_le (by omega)]
    rfl
  | succ k ih =>
    intro p hk hp
    have hlt : p < s.length := by omega
    have hin := rune_in s u hu p hlt
    rw [ew_cutLeft_0, es_cutLeft_0, cond_dec, if_pos hlt, cutL1 s u _ _ s u _ hu _ 0 false rfl (by omega)]
    rw [List.drop_zero, hin, List.drop_eq_getElem_cons hlt, List.dropWhile_cons]
    simp only [Option.bind_some, Bool.false_or]
    cases hc : u.contains s[p] with
    | true =>
      have hlow : s[p].toNat < 128 := hu _ (by simpa using hc)
      simp only [Bool.not_true, cond_false, Option.bind_some, Sum.elim_inl, if_true]
      rw [dec_low s p hlt hlow]
      exact ih (p + 1) (by omega) (by omega)
    | false =>
      simp only [Bool.not_false, cond_true, Bool.false_eq_true, if_false]
      rw [subI_nat s (a := p) (b := s.length) (by omega) (by omega), List.take_length, List.drop_eq_getElem_cons hlt]
      simp
      exact hlt
theorem cutLeft (s u : List UInt8) (hs : small s) (hu : low u) : F_cutLeft (s, u) = some (s.dropWhile fun c => u.contains c) := by
  rw [e_cutLeft, cutL0 s u hs hu _ 0 rfl (by omega), List.drop_zero]
  by_cases h : s.dropWhile (fun c => u.contains c) = []
  · rw [if_pos h, h]; rfl
  · rw [if_neg h]; rfl
theorem lastStart_le (l : List UInt8) : (2 ≤ l.length → Lib.lastStart l + 2 ≤ l.length) ∧ (l.length < 2 → Lib.lastStart l = 0) := by
  unfold Lib.lastStart
  constructor
  · intro h
    simp only
    repeat' split
    all_goals omega
  · intro h
    simp only
    rw [if_pos h]
/-- The last byte, as a rune. -/
theorem last_in (s u : List UInt8) (hu : low u) (b : UInt8) : inSet u ((Lib.decodeLastL (s ++ [b])).1 : Int) = u.contains b ∧ (u.contains b = true → (Lib.decodeLastL (s ++ [b])).2 = 1) := by
  have hg : (s ++ [b]).getD ((s ++ [b]).length - 1) 0 = b := by simp
  unfold Lib.decodeLastL
  rw [if_neg (by simp), hg]
  by_cases hb : b.toNat < 128
  · rw [if_pos hb]
    exact ⟨inSet_low u b, fun _ => rfl⟩
  · rw [if_neg hb, high_out u hu b (by omega)]
    refine ⟨?_, fun h => by cases h⟩
    simp only
    split
    · rename_i hd
      obtain ⟨h1, h2⟩ := lastStart_le (s ++ [b])
      have hlen : (s ++ [b]).length = s.length + 1 := by simp
      have hpos : Lib.lastStart (s ++ [b]) < (s ++ [b]).length := by
        by_cases hs : 2 ≤ (s ++ [b]).length
        · have := h1 hs; omega
        · have := h2 (by omega); omega
      have hr : 0 < ((s ++ [b]).drop (Lib.lastStart (s ++ [b]))).length := by rw [List.length_drop]; omega
      have h0 : ((s ++ [b]).drop (Lib.lastStart (s ++ [b])))[0] = (s ++ [b])[Lib.lastStart (s ++ [b])] := by simp
      unfold Lib.decodeL at hd ⊢
      by_cases hl : ((s ++ [b]).drop (Lib.lastStart (s ++ [b])))[0].toNat < 128
      · exfalso
        rw [dec_low _ 0 hr hl] at hd
        simp only at hd
        by_cases hs : 2 ≤ (s ++ [b]).length
        · have := h1 hs; omega
        · have hz := h2 (by omega)
          have hsn : s = [] := by
            cases s with
            | nil => rfl
            | cons x y => simp at hs
          subst hsn
          simp only [hz] at hl
          exact hb hl
      · exact inSet_high u hu _ (dec_high _ 0 hr (by omega))
    · exact inSet_high u hu 65533 (by omega)
theorem cutR1 (s t : List UInt8) (c n : Int) (u : List UInt8) (hu : low u) : ∀ (k q : Nat) (b : Bool), u.length - q = k → q ≤ u.length →
    w_cutRight_1 (s, t, c, n, b, (u, q)) = some (s, t, n, b || inSet (u.drop q) c) := by
  intro k
  induction k with
  | zero =>
    intro q b hk hq
    rw [ew_cutRight_1, es_cutRight_1, cond_dec, if_neg (by omega), List.drop_eq_nil_of_le (by omega)]
    simp [inSet]
  | succ k ih =>
    intro q b hk hq
    have hlt : q < u.length := by omega
    rw [ew_cutRight_1, es_cutRight_1, cond_dec, if_pos hlt, dec_low u q hlt (hu _ (List.getElem_mem hlt)), List.drop_eq_getElem_cons hlt]
    cases b with
    | true =>
      simp only [cond_true, Option.bind_some, Sum.elim_inl, Bool.true_or]
      rw [ih (q + 1) true (by omega) (by omega)]
      rfl
    | false =>
      simp only [cond_false, Option.bind_some, Sum.elim_inl, Bool.false_or]
      rw [ih (q + 1) _ (by omega) (by omega)]
      unfold inSet
      rw [List.any_cons]
/-- A text without what stands at its end. -/
def trimR (p : UInt8 → Bool) (s : List UInt8) : List UInt8 := (s.reverse.dropWhile p).reverse
theorem cutR0 (u : List UInt8) (hu : low u) : ∀ (k : Nat) (s : List UInt8), s.length = k → small s →
    w_cutRight_0 (s, u) = some (if trimR (fun c => u.contains c) s = [] then .inr [] else .inl (trimR (fun c => u.contains c) s)) := by
  intro k
  induction k with
  | zero =>
    intro s hk hs
    obtain rfl := List.length_eq_zero_iff.1 hk
    rw [ew_cutRight_0, es_cutRight_0, cond_dec, if_neg (by simp)]
    rfl
  | succ k ih =>
    intro s hk hs
    obtain ⟨s', b, rfl⟩ : ∃ s' b, s = s' ++ [b] := by
      rcases List.eq_nil_or_concat s with h | ⟨s', b, h⟩
      · subst h; simp at hk
      · exact ⟨s', b, by simpa using h⟩
    obtain ⟨h1, h2⟩ := last_in s' u hu b
    have hlen : (s' ++ [b]).length = s'.length + 1 := by simp
    unfold small at hs
    rw [ew_cutRight_0, es_cutRight_0, cond_dec, cond_dec, if_pos (by omega), if_pos (by omega), cutR1 _ u _ _ u hu _ 0 false rfl (by omega)]
    rw [List.drop_zero, h1]
    simp only [Option.bind_some, Bool.false_or]
    have htr : trimR (fun c => u.contains c) (s' ++ [b]) = if u.contains b then trimR (fun c => u.contains c) s' else s' ++ [b] := by
      unfold trimR
      rw [List.reverse_append, List.reverse_singleton, List.singleton_append, List.dropWhile_cons]
      cases u.contains b with
      | true => rfl
      | false => simp
    rw [htr]
    cases hc : u.contains b with
    | true =>
      simp only [Bool.not_true, cond_false, if_true]
      rw [h2 hc]
      have hsub := subI_nat (s' ++ [b]) (a := 0) (b := s'.length) (by omega) (by omega)
      rw [Int.natCast_zero, List.drop_zero, List.take_left'] at hsub
      · rw [wrap_i64 (by omega) (by omega), show (((s' ++ [b]).length : Nat) : Int) - ((1 : Nat) : Int) = (s'.length : Int) by omega, hsub]
        simp only [Option.bind_some, Sum.elim_inl]
        exact ih s' (by omega) (by unfold small; omega)
      · rfl
    | false =>
      simp
theorem cutRight (s u : List UInt8) (hs : small s) (hu : low u) : F_cutRight (s, u) = some (trimR (fun c => u.contains c) s) := by
  rw [e_cutRight, cutR0 u hu _ s rfl hs]
  by_cases h : trimR (fun c => u.contains c) s = []
  · rw [if_pos h, h]; rfl
  · rw [if_neg h]; rfl
theorem dropWhile_head (p : UInt8 → Bool) : ∀ (s : List UInt8) {b : UInt8} {l : List UInt8}, s.dropWhile p = b :: l → p b = false
  | [], _, _, h => by cases h
  | x :: s, b, l, h => by
    rw [List.dropWhile_cons] at h
    cases hx : p x with
    | true => rw [hx, if_pos rfl] at h; exact dropWhile_head p s h
    | false =>
      rw [hx] at h
      simp only [Bool.false_eq_true, if_false] at h
      rw [← (List.cons.inj h).1]
      exact hx
theorem dropWhile_nil (p : UInt8 → Bool) : ∀ s : List UInt8, s.dropWhile p = [] → ∀ x ∈ s, p x = true
  | [], _, x, hx => by cases hx
  | y :: s, h, x, hx => by
    rw [List.dropWhile_cons] at h
    cases hy : p y with
    | true =>
      rw [hy, if_pos rfl] at h
      rcases List.mem_cons.1 hx with rfl | hx
      · exact hy
      · exact dropWhile_nil p s h x hx
    | false => rw [hy] at h; cases h
theorem pxOf (s u : List UInt8) (hs : small s) (hu : low u) : F_pxOf (s, u) = some (s.all fun c => u.contains c) := by
  rw [e_pxOf, cutLeft s u hs hu]
  simp only [Option.bind_some]
  have hle := (List.dropWhile_suffix (p := fun c => u.contains c) (l := s)).length_le
  rw [cutRight _ u (by unfold small at *; omega) hu]
  simp only [Option.bind_some, Option.some.injEq]
  cases hq : s.dropWhile (fun c => u.contains c) with
  | nil =>
    have : s.all (fun c => u.contains c) = true := by
      have h := List.takeWhile_append_dropWhile (p := fun c => u.contains c) (l := s)
      rw [hq, List.append_nil] at h
      rw [← h]
      exact takeWhile_all _ _
    rw [this]
    rfl
  | cons b l =>
    have hb : u.contains b = false := by
      exact dropWhile_head (fun c => u.contains c) s hq
    have hm : b ∈ s := by
      have : b ∈ s.dropWhile (fun c => u.contains c) := by rw [hq]; simp
      exact (List.dropWhile_suffix _).subset this
    have hall : s.all (fun c => u.contains c) = false := by
      rw [List.all_eq_false]
      exact ⟨b, hm, by rw [hb]; simp⟩
    rw [hall, decide_eq_false_iff_not]
    unfold trimR
    intro h
    have h := List.reverse_eq_nil_iff.1 h
    have := dropWhile_nil (fun c => u.contains c) _ h b (by simp)
    rw [hb] at this
    cases this
end Go.Sm
/- Plain Lean: clocks and rules as the program reads them. -/
set_option linter.unusedVariables false
set_option linter.unusedSimpArgs false
namespace Go.Sm
open Go.Proofs

theorem ruleIn (x l h : Int) : F_ruleIn (x, l, h) = some (decide (l ≤ x ∧ x ≤ h)) := by
  rw [e_ruleIn, cond_dec]
  by_cases h1 : l ≤ x <;> simp [h1]
theorem scNew (s : List UInt8) : F_scNew s = some (sc s s 0, ()) := by
  rw [e_scNew]
  unfold sc
  simp
theorem fgV_nn (l m : Nat) (r : List UInt8) (e : Int) (k : Nat) (hk : m ≤ k) : 0 ≤ fgV l m r e ∧ fgV l m r e < 10 ^ k := by
  have := figNum_lt m r k (by simpa using hk)
  have h10 : (0 : Int) < 10 ^ k := Int.pow_pos (by omega)
  unfold fgV
  split
  · constructor
    · omega
    · exact_mod_cast this
  · exact ⟨by omega, h10⟩
theorem tk_false {b : UInt8} {r : List UInt8} {e : Int} (h : tkB b r e = false) : tk b r e = r := by
  unfold tk
  rw [h]
  rfl
/-- A colon and two figures: what is left, the error, the number, whether the colon stood there. -/
def pt (r : List UInt8) (e : Int) : List UInt8 × Int × Int × Bool :=
  if tkB 58 r e then (fgR 2 2 (tk 58 r e) e, fgE 2 2 (tk 58 r e) e, fgV 2 2 (tk 58 r e) e, true) else (r, e, 0, false)
theorem suf_pt {t r : List UInt8} {e : Int} (h : r <:+ t) : (pt r e).1 <:+ t := by
  unfold pt
  split
  · exact suf_fgR _ _ (suf_tk _ h)
  · exact h
theorem pt_range (r : List UInt8) (e : Int) : 0 ≤ (pt r e).2.2.1 ∧ (pt r e).2.2.1 < 100 := by
  unfold pt
  split
  · exact fgV_nn 2 2 _ _ 2 (by omega)
  · exact ⟨by simp, by simp⟩
theorem rulePart {t r : List UInt8} {e : Int} (h : r <:+ t) (ht : small t) : F_rulePart (sc t r e, ()) = some (sc t (pt r e).1 (pt r e).2.1, (pt r e).2.2) := by
  have hf := scFigures (e := e) (suf_tk 58 (e := e) h) ht 2 2 (by omega) (by omega) (by omega)
  rw [show ((2 : Nat) : Int) = 2 from rfl] at hf
  rw [e_rulePart, scTake h ht]
  simp only [Option.bind_some]
  unfold pt
  cases hb : tkB 58 r e with
  | true =>
    simp only [Bool.not_true, cond_false]
    rw [hf]
    rfl
  | false =>
    rw [tk_false hb]
    rfl
/-- A clock's text: sign, hours, minutes, seconds. -/
def clkR (s : List UInt8) : List UInt8 := if tkB 45 s 0 then tk 45 s 0 else tk 43 s 0
def clkA (s : List UInt8) : List UInt8 × Int × Int := (fgR 1 3 (clkR s) 0, fgE 1 3 (clkR s) 0, fgV 1 3 (clkR s) 0)
def clkB (s : List UInt8) : List UInt8 × Int × Int × Bool := pt (clkA s).1 (clkA s).2.1
def clkC (s : List UInt8) : List UInt8 × Int × Int × Bool := if (clkB s).2.2.2 then pt (clkB s).1 (clkB s).2.1 else ((clkB s).1, (clkB s).2.1, 0, false)
def clkN (s : List UInt8) : Int := (clkA s).2.2 * 3600 + (clkB s).2.2.1 * 60 + (clkC s).2.2.1
def clk (s : List UInt8) (m : Int) : Int × Int :=
  if (clkC s).2.1 ≠ 0 ∨ (clkC s).1 ≠ [] then (0, 2)
  else if m < (clkA s).2.2 ∨ 60 ≤ (clkB s).2.2.1 ∨ 60 ≤ (clkC s).2.2.1 then (0, 1)
  else (if tkB 45 s 0 then -clkN s else clkN s, 0)
theorem suf_clkR (s : List UInt8) : clkR s <:+ s := by
  unfold clkR
  split
  · exact suf_tk _ (List.suffix_refl s)
  · exact suf_tk _ (List.suffix_refl s)
theorem suf_clkA (s : List UInt8) : (clkA s).1 <:+ s := suf_fgR _ _ (suf_clkR s)
theorem suf_clkB (s : List UInt8) : (clkB s).1 <:+ s := suf_pt (suf_clkA s)
/-- What stands at the end of a clock. -/
def clkEnd (e : Int) (r : List UInt8) : Int := if e ≠ 0 then e else if r = [] then 0 else 2
theorem clkEnd_ne (e : Int) (r : List UInt8) : clkEnd e r ≠ 0 ↔ e ≠ 0 ∨ r ≠ [] := by
  unfold clkEnd
  by_cases h : e = 0
  · by_cases h2 : r = [] <;> simp [h, h2]
  · simp [h]
theorem clk_tail (s : List UInt8) (m : Int) (hA : 0 ≤ (clkA s).2.2 ∧ (clkA s).2.2 < 1000) (hB : 0 ≤ (clkB s).2.2.1 ∧ (clkB s).2.2.1 < 100) (hC : 0 ≤ (clkC s).2.2.1 ∧ (clkC s).2.2.1 < 100) (bl : Bool) (hbl : bl = tkB 45 s 0) :
    (if clkEnd (clkC s).2.1 (clkC s).1 ≠ 0 then some ((0 : Int), (2 : Int))
      else if m < (clkA s).2.2 then some (0, 1) else if 60 ≤ (clkB s).2.2.1 then some (0, 1) else if 60 ≤ (clkC s).2.2.1 then some (0, 1)
      else bif bl then some (IntKind.i64.wrap (0 - IntKind.i64.wrap (IntKind.i64.wrap (IntKind.i64.wrap ((clkA s).2.2 * 3600) + IntKind.i64.wrap ((clkB s).2.2.1 * 60)) + (clkC s).2.2.1)), 0)
      else some (IntKind.i64.wrap (IntKind.i64.wrap (IntKind.i64.wrap ((clkA s).2.2 * 3600) + IntKind.i64.wrap ((clkB s).2.2.1 * 60)) + (clkC s).2.2.1), 0)) = some (clk s m) := by
  subst hbl
  unfold clk clkN
  rw [wrap_i64 (x := (clkA s).2.2 * 3600) (by omega) (by omega), wrap_i64 (x := (clkB s).2.2.1 * 60) (by omega) (by omega), wrap_i64 (x := (clkA s).2.2 * 3600 + (clkB s).2.2.1 * 60) (by omega) (by omega),
    wrap_i64 (x := (clkA s).2.2 * 3600 + (clkB s).2.2.1 * 60 + (clkC s).2.2.1) (by omega) (by omega), wrap_i64 (x := 0 - _) (by omega) (by omega)]
  by_cases h1 : clkEnd (clkC s).2.1 (clkC s).1 ≠ 0
  · rw [if_pos h1, if_pos ((clkEnd_ne _ _).1 h1)]
  · rw [if_neg h1, if_neg (fun h => h1 ((clkEnd_ne _ _).2 h))]
    by_cases h2 : m < (clkA s).2.2
    · rw [if_pos h2, if_pos (.inl h2)]
    · rw [if_neg h2]
      by_cases h3 : 60 ≤ (clkB s).2.2.1
      · rw [if_pos h3, if_pos (.inr (.inl h3))]
      · rw [if_neg h3]
        by_cases h4 : 60 ≤ (clkC s).2.2.1
        · rw [if_pos h4, if_pos (.inr (.inr h4))]
        · rw [if_neg h4, if_neg (by omega)]
          cases tkB 45 s 0
          · rfl
          · simp
theorem ruleParseClock (s : List UInt8) (m : Int) (hs : small s) (h0 : 0 ≤ m) (h1 : m ≤ 999) : F_ruleParseClock (s, m) = some (clk s m) := by
  have hA : 0 ≤ (clkA s).2.2 ∧ (clkA s).2.2 < 1000 := fgV_nn 1 3 _ _ 3 (by omega)
  have hB : 0 ≤ (clkB s).2.2.1 ∧ (clkB s).2.2.1 < 100 := pt_range _ _
  have hC : 0 ≤ (clkC s).2.2.1 ∧ (clkC s).2.2.1 < 100 := by
    unfold clkC
    split
    · exact pt_range _ _
    · exact ⟨by simp, by simp⟩
  have hfig : F_scFigures (sc s (clkR s) 0, (), (1 : Int), (3 : Int)) = some (sc s (clkA s).1 (clkA s).2.1, (clkA s).2.2) := scFigures (suf_clkR s) hs 1 3 (by omega) (by omega) (by omega)
  have hpB : F_rulePart (sc s (clkA s).1 (clkA s).2.1, ()) = some (sc s (clkB s).1 (clkB s).2.1, (clkB s).2.2) := rulePart (suf_clkA s) hs
  have hpC := rulePart (e := (clkB s).2.1) (suf_clkB s) hs
  have htail := fun bl hbl => clk_tail s m hA hB hC bl hbl
  have hend : ∀ r e, r <:+ s → F_scEnd (sc s r e, ()) = some (sc s r e, clkEnd e r) := fun r e h => scEnd h
  rw [e_ruleParseClock, ruleIn]
  simp only [Option.bind_some]
  rw [decide_eq_true ⟨h0, h1⟩]
  simp only [Bool.not_true, cond_false]
  rw [scNew]
  simp only [Option.bind_some]
  rw [scTake (List.suffix_refl s) hs]
  simp only [Option.bind_some]
  cases hb : tkB 45 s 0 with
  | true =>
    have hR : tk 45 s 0 = clkR s := by unfold clkR; rw [hb]; rfl
    have ht := htail true hb.symm
    simp only [Bool.not_true, cond_false, hR, cond_true] at ht ⊢
    rw [hfig]
    simp only [Option.bind_some]
    rw [hpB]
    simp only [Option.bind_some]
    cases hm : (clkB s).2.2.2 with
    | true =>
      have hCe : clkC s = pt (clkB s).1 (clkB s).2.1 := by unfold clkC; rw [hm]; rfl
      rw [← hCe] at hpC
      simp only [cond_true]
      rw [hpC]
      simp only [Option.bind_some]
      rw [hend _ _ (by rw [hCe]; exact suf_pt (suf_clkB s))]
      simp only [Option.bind_some, cond_dec]
      exact ht
    | false =>
      have hCe : clkC s = ((clkB s).1, (clkB s).2.1, 0, false) := by unfold clkC; rw [hm]; rfl
      simp only [cond_false]
      rw [hend _ _ (suf_clkB s)]
      simp only [Option.bind_some, cond_dec]
      rw [hCe] at ht
      simpa using ht
  | false =>
    have hR : tk 43 s 0 = clkR s := by unfold clkR; rw [hb]; rfl
    have ht := htail false hb.symm
    have h43 := scTake (e := 0) (List.suffix_refl s) hs 43
    rw [tk_false hb]
    simp only [Bool.not_false, cond_true, cond_false] at ht ⊢
    rw [h43]
    simp only [Option.bind_some, hR]
    rw [hfig]
    simp only [Option.bind_some]
    rw [hpB]
    simp only [Option.bind_some]
    cases hm : (clkB s).2.2.2 with
    | true =>
      have hCe : clkC s = pt (clkB s).1 (clkB s).2.1 := by unfold clkC; rw [hm]; rfl
      rw [← hCe] at hpC
      simp only [cond_true]
      rw [hpC]
      simp only [Option.bind_some]
      rw [hend _ _ (by rw [hCe]; exact suf_pt (suf_clkB s))]
      simp only [Option.bind_some, cond_dec]
      exact ht
    | false =>
      have hCe : clkC s = ((clkB s).1, (clkB s).2.1, 0, false) := by unfold clkC; rw [hm]; rfl
      simp only [cond_false]
      rw [hend _ _ (suf_clkB s)]
      simp only [Option.bind_some, cond_dec]
      rw [hCe] at ht
      simpa using ht
end Go.Sm
/- Plain Lean: rules: the checks (program and reference), the cut at a byte, weekly rules. -/
set_option linter.unusedVariables false
set_option linter.unusedSimpArgs false
namespace Go.Sm
open Go.Proofs

abbrev may (k m w d : Int) : Prop := (k = 1 ∧ 1 ≤ d ∧ d ≤ 365 ∧ m = 0 ∧ w = 0) ∨ (k = 2 ∧ 0 ≤ d ∧ d ≤ 365 ∧ m = 0 ∧ w = 0) ∨ (k = 3 ∧ 1 ≤ m ∧ m ≤ 12 ∧ 1 ≤ w ∧ w ≤ 5 ∧ 0 ≤ d ∧ d ≤ 6)
/-- What is wrong with a rule. -/
def rck (k m w d t : Int) : Int := if 1 ≤ k ∧ k ≤ 3 then (if may k m w d ∧ -604799 ≤ t ∧ t ≤ 604799 then 0 else 1) else 11
theorem ite_some {α : Type} (p : Prop) [Decidable p] (a b : α) : (if p then some a else some b) = some (if p then a else b) := by
  by_cases h : p <;> simp [h]
theorem ruleMay (k m w d t : Int) (h : 1 ≤ k ∧ k ≤ 3) : F_ruleMay (k, m, w, d, t) = some (decide (may k m w d)) := by
  rw [e_ruleMay]
  show (bif decide (k = 1) then (F_ruleIn (d, 1, 365)).bind fun x1 => bif x1 then bif decide (m = 0) then some (decide (w = 0)) else some false else some false
    else bif decide (k = 2) then (F_ruleIn (d, 0, 365)).bind fun x1 => bif x1 then bif decide (m = 0) then some (decide (w = 0)) else some false else some false
    else (F_ruleIn (m, 1, 12)).bind fun x1 => bif x1 then (F_ruleIn (w, 1, 5)).bind fun x2 => bif x2 then (F_ruleIn (d, 0, 6)).bind fun x3 => some x3 else some false else some false) = some (decide (may k m w d))
  simp only [ruleIn, Option.bind_some, cond_dec, ite_some, Option.some.injEq]
  rw [Bool.eq_iff_iff]
  by_cases h1 : k = 1
  · rw [if_pos h1]
    by_cases hd : 1 ≤ d ∧ d ≤ 365
    · rw [if_pos hd]
      by_cases hm : m = 0
      · rw [if_pos hm, decide_eq_true_eq, decide_eq_true_eq]; omega
      · rw [if_neg hm, decide_eq_true_eq]; simp only [Bool.false_eq_true, false_iff]; omega
    · rw [if_neg hd, decide_eq_true_eq]; simp only [Bool.false_eq_true, false_iff]; omega
  · rw [if_neg h1]
    by_cases h2 : k = 2
    · rw [if_pos h2]
      by_cases hd : 0 ≤ d ∧ d ≤ 365
      · rw [if_pos hd]
        by_cases hm : m = 0
        · rw [if_pos hm, decide_eq_true_eq, decide_eq_true_eq]; omega
        · rw [if_neg hm, decide_eq_true_eq]; simp only [Bool.false_eq_true, false_iff]; omega
      · rw [if_neg hd, decide_eq_true_eq]; simp only [Bool.false_eq_true, false_iff]; omega
    · rw [if_neg h2]
      by_cases hm : 1 ≤ m ∧ m ≤ 12
      · rw [if_pos hm]
        by_cases hw : 1 ≤ w ∧ w ≤ 5
        · rw [if_pos hw, decide_eq_true_eq, decide_eq_true_eq]; omega
        · rw [if_neg hw, decide_eq_true_eq]; simp only [Bool.false_eq_true, false_iff]; omega
      · rw [if_neg hm, decide_eq_true_eq]; simp only [Bool.false_eq_true, false_iff]; omega
theorem ruleCheck (k m w d t : Int) : F_ruleCheck (k, m, w, d, t) = some (rck k m w d t) := by
  rw [e_ruleCheck]
  show ((F_ruleIn (k, 1, 3)).bind fun x1 => bif !x1 then some 11 else (F_ruleMay (k, m, w, d, t)).bind fun x2 => bif !x2 then some 1 else (F_ruleIn (t, -604799, 604799)).bind fun x3 => bif !x3 then some 1 else some 0) = some (rck k m w d t)
  unfold rck
  by_cases h : 1 ≤ k ∧ k ≤ 3
  · rw [ruleMay k m w d t h, ruleIn, ruleIn, decide_eq_true h, if_pos h]
    by_cases h2 : may k m w d
    · by_cases h3 : -604799 ≤ t ∧ t ≤ 604799
      · rw [decide_eq_true h2, decide_eq_true h3, if_pos ⟨h2, h3⟩]; rfl
      · rw [decide_eq_true h2, decide_eq_false h3, if_neg (fun q => h3 q.2)]; rfl
    · rw [decide_eq_false h2, if_neg (fun q => h2 q.1)]; rfl
  · rw [ruleIn, decide_eq_false h, if_neg h]; rfl
theorem r6Check (k m w d t : Int) : F_r6Check (k, m, w, d, t) = some (rck k m w d t) := by
  rw [e_r6Check]
  unfold rck
  simp only [cond_dec]
  by_cases ht : -604799 ≤ t
  · rw [if_pos ht]
    by_cases h1 : k = 1
    · rw [if_pos h1, if_pos (show 1 ≤ k ∧ k ≤ 3 by omega)]
      by_cases hq : may k m w d ∧ -604799 ≤ t ∧ t ≤ 604799
      · rw [if_pos hq, if_pos (by omega), if_pos (by omega), if_pos (by omega), if_pos (by omega), decide_eq_true (show w = 0 by omega)]; rfl
      · rw [if_neg hq]
        repeat' split
        all_goals first | rfl | skip
        cases hw : decide (w = 0) with
        | false => rfl
        | true => exact absurd (of_decide_eq_true hw) (by omega)
    · rw [if_neg h1]
      by_cases h2 : k = 2
      · rw [if_pos h2, if_pos (show 1 ≤ k ∧ k ≤ 3 by omega)]
        by_cases hq : may k m w d ∧ -604799 ≤ t ∧ t ≤ 604799
        · rw [if_pos hq, if_pos (by omega), if_pos (by omega), if_pos (by omega), if_pos (by omega), decide_eq_true (show w = 0 by omega)]; rfl
        · rw [if_neg hq]
          repeat' split
          all_goals first | rfl | skip
          cases hw : decide (w = 0) with
          | false => rfl
          | true => exact absurd (of_decide_eq_true hw) (by omega)
      · rw [if_neg h2]
        by_cases h3 : k = 3
        · rw [if_pos h3, if_pos (show 1 ≤ k ∧ k ≤ 3 by omega)]
          by_cases hq : may k m w d ∧ -604799 ≤ t ∧ t ≤ 604799
          · rw [if_pos hq, if_pos (by omega), if_pos (by omega), if_pos (by omega), if_pos (by omega), if_pos (by omega), if_pos (by omega), decide_eq_true (show d ≤ 6 by omega)]; rfl
          · rw [if_neg hq]
            repeat' split
            all_goals first | rfl | skip
            cases hw : decide (d ≤ 6) with
            | false => rfl
            | true => exact absurd (of_decide_eq_true hw) (by omega)
        · rw [if_neg h3, if_neg (by omega)]
  · rw [if_neg ht]
    by_cases h0 : 1 ≤ k ∧ k ≤ 3
    · rw [if_pos h0, if_neg (show ¬ (may k m w d ∧ -604799 ≤ t ∧ t ≤ 604799) by omega)]
      repeat' split
      all_goals first | rfl | omega
    · rw [if_neg h0, if_neg (show ¬ k = 1 by omega), if_neg (show ¬ k = 2 by omega), if_neg (show ¬ k = 3 by omega)]
/-- What stands ahead of a byte, and behind it. -/
def cutB (c : UInt8) (s : List UInt8) : List UInt8 × List UInt8 × Bool := if s.contains c then (s.takeWhile (· != c), (s.dropWhile (· != c)).drop 1, true) else (s, [], false)
theorem cut (s : List UInt8) (c : UInt8) (hs : small s) : F_Cut (s, [c]) = some (cutB c s) := by
  unfold small at hs
  rw [e_Cut, e_sliteCut]
  simp only [cond_dec, indexByte_eq]
  unfold cutB
  cases hc : s.contains c with
  | true =>
    have hle := (List.takeWhile_prefix (p := (· != c)) (l := s)).length_le
    have hlt : (s.takeWhile (· != c)).length < s.length := by
      apply Nat.lt_of_le_of_ne hle
      intro he
      have : s.takeWhile (· != c) = s := List.IsPrefix.eq_of_length (List.takeWhile_prefix _) he
      have hm : c ∈ s := by simpa using hc
      rw [← this] at hm
      have := List.all_eq_true.1 (takeWhile_all (· != c) s) c hm
      simp at this
    have h1 := subI_nat s (a := 0) (b := (s.takeWhile (· != c)).length) (by omega) hle
    have h2 := subI_nat s (a := (s.takeWhile (· != c)).length + 1) (b := s.length) (by omega) (Nat.le_refl _)
    rw [List.drop_zero, Int.natCast_zero, take_takeWhile] at h1
    rw [List.take_length, ← List.drop_drop, drop_takeWhile] at h2
    simp only [if_true]
    rw [if_pos (by omega), h1, wrap_i64 (by simp; omega) (by simp; omega)]
    simp only [Option.bind_some, List.length_singleton]
    rw [show ((((s.takeWhile (· != c)).length : Nat) : Int) + ((1 : Nat) : Int)) = (((s.takeWhile (· != c)).length + 1 : Nat) : Int) by omega, h2]
    rfl
  | false =>
    simp only [Bool.false_eq_true, if_false]
    rw [if_neg (by omega)]
    rfl
end Go.Sm
/- Plain Lean: the program's reading of a rule. -/
set_option linter.unusedVariables false
set_option linter.unusedSimpArgs false
namespace Go.Sm
open Go.Proofs

/-- Figures and a point, by turns: what is left, the error. -/
def fgQ (l m : Nat) (q : List UInt8 × Int) : List UInt8 × Int := (fgR l m q.1 q.2, fgE l m q.1 q.2)
def muQ (c : UInt8) (q : List UInt8 × Int) : List UInt8 × Int := (tk c q.1 q.2, muE c q.1 q.2)
theorem suf_fgQ {t : List UInt8} {q : List UInt8 × Int} (l m : Nat) (h : q.1 <:+ t) : (fgQ l m q).1 <:+ t := suf_fgR l m h
theorem suf_muQ {t : List UInt8} {q : List UInt8 × Int} (c : UInt8) (h : q.1 <:+ t) : (muQ c q).1 <:+ t := suf_tk c h
def wk1 (q : List UInt8 × Int) := muQ 46 (fgQ 1 2 q)
def wk2 (q : List UInt8 × Int) := muQ 46 (fgQ 1 1 (wk1 q))
def wk3 (q : List UInt8 × Int) := fgQ 1 1 (wk2 q)
theorem ruleWeekly {t : List UInt8} {q : List UInt8 × Int} (h : q.1 <:+ t) (ht : small t) :
    F_ruleWeekly (sc t q.1 q.2, ()) = some (sc t (wk3 q).1 (wk3 q).2, (3, fgV 1 2 q.1 q.2, fgV 1 1 (wk1 q).1 (wk1 q).2, fgV 1 1 (wk2 q).1 (wk2 q).2, 0)) := by
  have f1 : F_scFigures (sc t q.1 q.2, (), (1 : Int), (2 : Int)) = some (sc t (fgQ 1 2 q).1 (fgQ 1 2 q).2, fgV 1 2 q.1 q.2) := scFigures h ht 1 2 (by omega) (by omega) (by omega)
  have m1 : F_scMust (sc t (fgQ 1 2 q).1 (fgQ 1 2 q).2, (), [46]) = some (sc t (wk1 q).1 (wk1 q).2, ()) := scMust1 (suf_fgQ 1 2 h) ht 46 (by decide) (by decide)
  have s1 : (wk1 q).1 <:+ t := suf_muQ 46 (suf_fgQ 1 2 h)
  have f2 : F_scFigures (sc t (wk1 q).1 (wk1 q).2, (), (1 : Int), (1 : Int)) = some (sc t (fgQ 1 1 (wk1 q)).1 (fgQ 1 1 (wk1 q)).2, fgV 1 1 (wk1 q).1 (wk1 q).2) := scFigures s1 ht 1 1 (by omega) (by omega) (by omega)
  have m2 : F_scMust (sc t (fgQ 1 1 (wk1 q)).1 (fgQ 1 1 (wk1 q)).2, (), [46]) = some (sc t (wk2 q).1 (wk2 q).2, ()) := scMust1 (suf_fgQ 1 1 s1) ht 46 (by decide) (by decide)
  have s2 : (wk2 q).1 <:+ t := suf_muQ 46 (suf_fgQ 1 1 s1)
  have f3 : F_scFigures (sc t (wk2 q).1 (wk2 q).2, (), (1 : Int), (1 : Int)) = some (sc t (wk3 q).1 (wk3 q).2, fgV 1 1 (wk2 q).1 (wk2 q).2) := scFigures s2 ht 1 1 (by omega) (by omega) (by omega)
  rw [e_ruleWeekly, f1]
  simp only [Option.bind_some]
  rw [m1]
  simp only [Option.bind_some]
  rw [f2]
  simp only [Option.bind_some]
  rw [m2]
  simp only [Option.bind_some]
  rw [f3]
  rfl
abbrev Rul := Int × Int × Int × Int × Int
def noRule : Rul := (0, 0, 0, 0, 0)
/-- A rule's date: what is left, the error, kind, month, week, day. -/
def dat (d : List UInt8) : (List UInt8 × Int) × Int × Int × Int × Int :=
  if tkB 74 d 0 then (fgQ 1 3 (tk 74 d 0, 0), 1, 0, 0, fgV 1 3 (tk 74 d 0) 0)
  else if tkB 77 d 0 then (wk3 (tk 77 d 0, 0), 3, fgV 1 2 (tk 77 d 0) 0, fgV 1 1 (wk1 (tk 77 d 0, 0)).1 (wk1 (tk 77 d 0, 0)).2, fgV 1 1 (wk2 (tk 77 d 0, 0)).1 (wk2 (tk 77 d 0, 0)).2)
  else (fgQ 1 3 (d, 0), 2, 0, 0, fgV 1 3 d 0)
/-- A rule with its time. -/
def fin (x : Int × Int × Int × Int) (t : Int) : Rul × Int := if rck x.1 x.2.1 x.2.2.1 x.2.2.2 t ≠ 0 then (noRule, rck x.1 x.2.1 x.2.2.1 x.2.2.2 t) else ((x.1, x.2.1, x.2.2.1, x.2.2.2, t), 0)
def rul (s : List UInt8) : Rul × Int :=
  if clkEnd (dat (cutB 47 s).1).1.2 (dat (cutB 47 s).1).1.1 ≠ 0 then (noRule, 2)
  else if (cutB 47 s).2.2 then (if (clk (cutB 47 s).2.1 167).2 ≠ 0 then (noRule, (clk (cutB 47 s).2.1 167).2) else fin (dat (cutB 47 s).1).2 (clk (cutB 47 s).2.1 167).1)
  else fin (dat (cutB 47 s).1).2 7200
theorem small_cut {s : List UInt8} (c : UInt8) (hs : small s) : small (cutB c s).1 ∧ small (cutB c s).2.1 := by
  unfold small cutB at *
  have h1 := (List.takeWhile_prefix (p := (· != c)) (l := s)).length_le
  have h2 := (List.dropWhile_suffix (p := (· != c)) (l := s)).length_le
  split
  · simp; omega
  · simp; omega
theorem rul_tail {t r : List UInt8} {e : Int} (h : r <:+ t) (b : Bool) (c : List UInt8) (hc : small c) (k m w d : Int) :
    ((F_scEnd (sc t r e, ())).bind fun x5 =>
      bif decide (x5.snd ≠ (0 : Int)) then some (((0 : Int), (0 : Int), (0 : Int), (0 : Int), (0 : Int)), (2 : Int))
      else
        bif b then
          (F_ruleParseClock (c, (167 : Int))).bind fun x6 =>
            bif decide (x6.snd ≠ (0 : Int)) then some (((0 : Int), (0 : Int), (0 : Int), (0 : Int), (0 : Int)), x6.snd)
            else
              (F_ruleCheck (k, m, w, d, x6.fst)).bind fun x7 =>
                bif decide (x7 ≠ (0 : Int)) then some (((0 : Int), (0 : Int), (0 : Int), (0 : Int), (0 : Int)), x7) else some ((k, m, w, d, x6.fst), (0 : Int))
        else
          (F_ruleCheck (k, m, w, d, (7200 : Int))).bind fun x6 =>
            bif decide (x6 ≠ (0 : Int)) then some (((0 : Int), (0 : Int), (0 : Int), (0 : Int), (0 : Int)), x6) else some ((k, m, w, d, (7200 : Int)), (0 : Int))) =
    some (if clkEnd e r ≠ 0 then (noRule, 2) else if b then (if (clk c 167).2 ≠ 0 then (noRule, (clk c 167).2) else fin (k, m, w, d) (clk c 167).1) else fin (k, m, w, d) 7200) := by
  have hend : F_scEnd (sc t r e, ()) = some (sc t r e, clkEnd e r) := scEnd h
  rw [hend]
  simp only [Option.bind_some, cond_dec]
  by_cases h1 : clkEnd e r ≠ 0
  · rw [if_pos h1, if_pos h1]; rfl
  · rw [if_neg h1, if_neg h1]
    cases b with
    | true =>
      simp only [cond_true, if_true]
      rw [ruleParseClock c 167 hc (by omega) (by omega)]
      simp only [Option.bind_some]
      by_cases h2 : (clk c 167).2 ≠ 0
      · rw [if_pos h2, if_pos h2]; rfl
      · rw [if_neg h2, if_neg h2, ruleCheck]
        simp only [Option.bind_some]
        unfold fin
        simp only
        by_cases h3 : rck k m w d (clk c 167).1 ≠ 0
        · rw [if_pos h3, if_pos h3]; rfl
        · rw [if_neg h3, if_neg h3]
    | false =>
      simp only [cond_false, Bool.false_eq_true, if_false]
      rw [ruleCheck]
      simp only [Option.bind_some]
      unfold fin
      simp only
      by_cases h3 : rck k m w d 7200 ≠ 0
      · rw [if_pos h3, if_pos h3]; rfl
      · rw [if_neg h3, if_neg h3]
theorem ruleParse (s : List UInt8) (hs : small s) : F_ruleParse s = some (rul s) := by
  obtain ⟨hd, hc⟩ := small_cut 47 hs
  rw [e_ruleParse, cut s 47 hs]
  simp only [Option.bind_some]
  unfold rul dat
  generalize (cutB 47 s).1 = x at *
  generalize (cutB 47 s).2.1 = c at *
  generalize (cutB 47 s).2.2 = b at *
  rw [scNew]
  simp only [Option.bind_some]
  rw [scTake (List.suffix_refl x) hd]
  simp only [Option.bind_some]
  cases hJ : tkB 74 x 0 with
  | true =>
    have hf : F_scFigures (sc x (tk 74 x 0) 0, (), (1 : Int), (3 : Int)) = some (sc x (fgQ 1 3 (tk 74 x 0, 0)).1 (fgQ 1 3 (tk 74 x 0, 0)).2, fgV 1 3 (tk 74 x 0) 0) := scFigures (suf_tk 74 (List.suffix_refl x)) hd 1 3 (by omega) (by omega) (by omega)
    simp only [cond_true, if_true]
    rw [hf]
    simp only [Option.bind_some]
    exact rul_tail (suf_fgQ 1 3 (suf_tk 74 (List.suffix_refl x))) b c hc 1 0 0 (fgV 1 3 (tk 74 x 0) 0)
  | false =>
    simp only [cond_false, Bool.false_eq_true, if_false]
    rw [tk_false hJ, scTake (List.suffix_refl x) hd]
    simp only [Option.bind_some]
    cases hM : tkB 77 x 0 with
    | true =>
      have hw := ruleWeekly (q := (tk 77 x 0, 0)) (suf_tk 77 (List.suffix_refl x)) hd
      simp only [cond_true, if_true]
      rw [hw]
      simp only [Option.bind_some]
      exact rul_tail (suf_fgQ 1 1 (suf_muQ 46 (suf_fgQ 1 1 (suf_muQ 46 (suf_fgQ 1 2 (suf_tk 77 (List.suffix_refl x))))))) b c hc 3 _ _ _
    | false =>
      have hf : F_scFigures (sc x x 0, (), (1 : Int), (3 : Int)) = some (sc x (fgQ 1 3 (x, 0)).1 (fgQ 1 3 (x, 0)).2, fgV 1 3 x 0) := scFigures (List.suffix_refl x) hd 1 3 (by omega) (by omega) (by omega)
      simp only [cond_false, Bool.false_eq_true, if_false]
      rw [tk_false hM, hf]
      simp only [Option.bind_some]
      exact rul_tail (suf_fgQ 1 3 (List.suffix_refl x)) b c hc 2 0 0 (fgV 1 3 x 0)
end Go.Sm
/- Plain Lean: names and checks of plans. -/
set_option linter.unusedVariables false
set_option linter.unusedSimpArgs false
namespace Go.Sm
open Go.Proofs

def letters : List UInt8 := [(65 : UInt8), (66 : UInt8), (67 : UInt8), (68 : UInt8), (69 : UInt8), (70 : UInt8), (71 : UInt8), (72 : UInt8), (73 : UInt8), (74 : UInt8), (75 : UInt8), (76 : UInt8), (77 : UInt8), (78 : UInt8), (79 : UInt8), (80 : UInt8), (81 : UInt8), (82 : UInt8), (83 : UInt8), (84 : UInt8), (85 : UInt8), (86 : UInt8), (87 : UInt8), (88 : UInt8), (89 : UInt8), (90 : UInt8), (97 : UInt8), (98 : UInt8), (99 : UInt8), (100 : UInt8), (101 : UInt8), (102 : UInt8), (103 : UInt8), (104 : UInt8), (105 : UInt8), (106 : UInt8), (107 : UInt8), (108 : UInt8), (109 : UInt8), (110 : UInt8), (111 : UInt8), (112 : UInt8), (113 : UInt8), (114 : UInt8), (115 : UInt8), (116 : UInt8), (117 : UInt8), (118 : UInt8), (119 : UInt8), (120 : UInt8), (121 : UInt8), (122 : UInt8)]
def named : List UInt8 := [(65 : UInt8), (66 : UInt8), (67 : UInt8), (68 : UInt8), (69 : UInt8), (70 : UInt8), (71 : UInt8), (72 : UInt8), (73 : UInt8), (74 : UInt8), (75 : UInt8), (76 : UInt8), (77 : UInt8), (78 : UInt8), (79 : UInt8), (80 : UInt8), (81 : UInt8), (82 : UInt8), (83 : UInt8), (84 : UInt8), (85 : UInt8), (86 : UInt8), (87 : UInt8), (88 : UInt8), (89 : UInt8), (90 : UInt8), (97 : UInt8), (98 : UInt8), (99 : UInt8), (100 : UInt8), (101 : UInt8), (102 : UInt8), (103 : UInt8), (104 : UInt8), (105 : UInt8), (106 : UInt8), (107 : UInt8), (108 : UInt8), (109 : UInt8), (110 : UInt8), (111 : UInt8), (112 : UInt8), (113 : UInt8), (114 : UInt8), (115 : UInt8), (116 : UInt8), (117 : UInt8), (118 : UInt8), (119 : UInt8), (120 : UInt8), (121 : UInt8), (122 : UInt8), (48 : UInt8), (49 : UInt8), (50 : UInt8), (51 : UInt8), (52 : UInt8), (53 : UInt8), (54 : UInt8), (55 : UInt8), (56 : UInt8), (57 : UInt8), (43 : UInt8), (45 : UInt8)]
def clocks : List UInt8 := [(48 : UInt8), (49 : UInt8), (50 : UInt8), (51 : UInt8), (52 : UInt8), (53 : UInt8), (54 : UInt8), (55 : UInt8), (56 : UInt8), (57 : UInt8), (43 : UInt8), (45 : UInt8), (58 : UInt8)]
theorem low_named : low named := by unfold low; decide
theorem low_letters : low letters := by unfold low; decide
/-- Is it a name? -/
def nameB (s : List UInt8) : Bool := decide (3 ≤ s.length ∧ s.length ≤ 16) && s.all fun c => named.contains c
theorem pxName (s : List UInt8) (hs : small s) : F_pxName s = some (nameB s) := by
  have h := pxOf s named hs low_named
  unfold named at h
  rw [e_pxName, h]
  simp only [cond_dec, Option.bind_some]
  unfold nameB
  by_cases h1 : 3 ≤ s.length
  · rw [if_pos (by omega)]
    by_cases h2 : s.length ≤ 16
    · rw [if_pos (by omega), decide_eq_true ⟨h1, h2⟩, Bool.true_and]
      rfl
    · rw [if_neg (by omega), decide_eq_false (by omega), Bool.false_and]
  · rw [if_neg (by omega), decide_eq_false (by omega), Bool.false_and]
end Go.Sm
/- Plain Lean: letters, names (reference). -/
set_option linter.unusedVariables false
set_option linter.unusedSimpArgs false
namespace Go.Sm
open Go.Proofs

theorem byte_all {P : UInt8 → Prop} (h : ∀ n, n < 256 → P (UInt8.ofNat n)) (b : UInt8) : P b := by
  have := h b.toNat b.toNat_lt
  rwa [UInt8.ofNat_toNat] at this
theorem letter_tree : ∀ b : UInt8, (bif decide ((65 : UInt8) ≤ b) then bif decide (b ≤ (90 : UInt8)) then some true else bif decide ((97 : UInt8) ≤ b) then some (decide (b ≤ (122 : UInt8))) else some false
  else bif decide ((97 : UInt8) ≤ b) then some (decide (b ≤ (122 : UInt8))) else some false) = some (letters.contains b) := byte_all (by decide +kernel)
theorem r7letter (b : UInt8) : F_r7letter b = some (letters.contains b) := by rw [e_r7letter, letter_tree]
theorem r7figure (b : UInt8) : F_r7figure b = some (isFig b) := by
  rw [e_r7figure]
  unfold isFig
  cases decide ((48 : UInt8) ≤ b) <;> rfl
theorem named_eq : ∀ b : UInt8, named.contains b = (letters.contains b || (isFig b || (decide (b = 43) || decide (b = 45)))) := byte_all (by decide +kernel)
theorem clocks_eq : ∀ b : UInt8, clocks.contains b = (isFig b || (decide (b = 43) || (decide (b = 45) || decide (b = 58)))) := byte_all (by decide +kernel)
theorem r7Name (s : List UInt8) (hs : small s) : F_r7Name s = some (nameB s) := by
  unfold small at hs
  have step : ∀ i (h : i < s.length), sp_r7Name_0 (s, (i : Int)) = if named.contains s[i] then some (.inl (s, ((i + 1 : Nat) : Int))) else some (.inr (.inl false)) := by
    intro i h
    rw [es_r7Name_0, cond_dec, if_pos (by omega), getI_at h, wrap_succ (by omega)]
    simp only [Option.bind_some]
    rw [r7letter, r7figure, named_eq]
    simp only [Option.bind_some]
    cases letters.contains s[i] with
    | true => rfl
    | false =>
      cases isFig s[i] with
      | true => rfl
      | false =>
        simp only [Bool.not_false, cond_true, Bool.false_or]
        by_cases h1 : s[i] = 43
        · rw [decide_eq_false (by simpa using h1), decide_eq_true h1]; rfl
        · rw [decide_eq_true (by simpa using h1), decide_eq_false h1]
          by_cases h2 : s[i] = 45
          · rw [decide_eq_false (by simpa using h2), decide_eq_true h2]; rfl
          · rw [decide_eq_true (by simpa using h2), decide_eq_false h2]; rfl
  have h := scan_loop (step := sp_r7Name_0) (fun i => (s, (i : Int))) (fun i => if i < s.length then Sum.inl false else Sum.inr s) s (fun c => named.contains c)
    (fun i h hp => by rw [step i h, if_pos hp]) (fun i h hp => by rw [step i h, if_neg (by rw [hp]; simp), if_pos h])
    (by rw [es_r7Name_0, cond_dec, if_neg (by omega), if_neg (by omega)]) 0 (by omega)
  have h : w_r7Name_0 (s, (0 : Int)) = _ := h
  rw [e_r7Name, h]
  simp only [Option.bind_some, Nat.zero_add, List.drop_zero]
  have hle := (List.takeWhile_prefix (p := fun c => named.contains c) (l := s)).length_le
  have hfull := tw_full (fun c => named.contains c) s
  unfold nameB
  by_cases hq : (s.takeWhile fun c => named.contains c).length < s.length
  · rw [if_pos hq]
    have : s.all (fun c => named.contains c) = false := by
      cases hb : s.all (fun c => named.contains c) with
      | false => rfl
      | true => have := hfull.2 hb; omega
    rw [this, Bool.and_false]
    rfl
  · rw [if_neg hq, hfull.1 (by omega), Bool.and_true]
    simp only [Sum.elim_inr]
    rw [cond_dec]
    by_cases h3 : 3 ≤ s.length
    · rw [if_pos (by omega)]
      congr 1
      exact decide_eq_decide.2 (by omega)
    · rw [if_neg (by omega), decide_eq_false (by omega)]
end Go.Sm
/- Plain Lean: the program's reader of plans. -/
set_option linter.unusedVariables false
set_option linter.unusedSimpArgs false
namespace Go.Sm
open Go.Proofs

/-- A failure, if there was none before. -/
def fl (x e : Int) : Int := if e = 0 then x else e
/-- A name: what is left, the error, the name. -/
def nm (r : List UInt8) (e : Int) : List UInt8 × Int × List UInt8 :=
  if tkB 60 r e then
    (if nameB ((rd (tk 60 r e) e).takeWhile (· != 62)) then
      (tk 62 (wl (· != 62) (tk 60 r e) e) e, if tkB 62 (wl (· != 62) (tk 60 r e) e) e then e else fl 2 e, (rd (tk 60 r e) e).takeWhile (· != 62))
    else (wl (· != 62) (tk 60 r e) e, fl 2 e, (rd (tk 60 r e) e).takeWhile (· != 62)))
  else (wl (runP letters) r e, if nameB ((rd r e).takeWhile (runP letters)) then e else fl 2 e, (rd r e).takeWhile (runP letters))
theorem small_tw {s : List UInt8} (p : UInt8 → Bool) (h : small s) : small (s.takeWhile p) := by
  have := (List.takeWhile_prefix (p := p) (l := s)).length_le
  unfold small at *
  omega
theorem rdName {t r : List UInt8} {e : Int} (h : r <:+ t) (ht : small t) : F_rdName (sc t r e, ()) = some (sc t (nm r e).1 (nm r e).2.1, (nm r e).2.2) := by
  have hrun := scRun (e := e) h ht letters
  unfold letters at hrun
  rw [e_rdName, scTake h ht]
  simp only [Option.bind_some]
  unfold nm
  cases hb : tkB 60 r e with
  | false =>
    rw [tk_false hb]
    simp only [Bool.not_false, cond_true, Bool.false_eq_true, if_false]
    rw [hrun]
    simp only [Option.bind_some]
    rw [pxName _ (small_tw _ (small_rd h ht))]
    simp only [Option.bind_some]
    show _ = some (sc t (wl (runP letters) r e) _, _)
    cases hn : nameB ((rd r e).takeWhile (runP letters)) with
    | true =>
      unfold letters at hn
      rw [hn]
      rfl
    | false =>
      unfold letters at hn
      rw [hn]
      simp only [Bool.not_false, cond_true]
      rw [scFail]
      rfl
  | true =>
    have h1 := suf_tk 60 (e := e) h
    simp only [Bool.not_true, cond_false, if_true]
    rw [scUntil h1 ht]
    simp only [Option.bind_some]
    rw [pxName _ (small_tw _ (small_rd h1 ht))]
    simp only [Option.bind_some]
    cases hn : nameB ((rd (tk 60 r e) e).takeWhile (· != 62)) with
    | false =>
      simp only [Bool.not_false, cond_true, Bool.false_eq_true, if_false]
      rw [scFail]
      rfl
    | true =>
      simp only [Bool.not_true, cond_false, if_true]
      rw [scTake (suf_wl _ h1) ht]
      simp only [Option.bind_some]
      cases hq : tkB 62 (wl (· != 62) (tk 60 r e) e) e with
      | true => rfl
      | false =>
        simp only [Bool.not_false, cond_true]
        rw [scFail]
        rfl
theorem clk_range (s : List UInt8) (m : Int) : -4000000 ≤ (clk s m).1 ∧ (clk s m).1 ≤ 4000000 := by
  have hA : 0 ≤ (clkA s).2.2 ∧ (clkA s).2.2 < 1000 := fgV_nn 1 3 _ _ 3 (by omega)
  have hB : 0 ≤ (clkB s).2.2.1 ∧ (clkB s).2.2.1 < 100 := pt_range _ _
  have hC : 0 ≤ (clkC s).2.2.1 ∧ (clkC s).2.2.1 < 100 := by
    unfold clkC
    split
    · exact pt_range _ _
    · exact ⟨by simp, by simp⟩
  unfold clk clkN
  split
  · simp
  · split
    · simp
    · split
      · simp only; omega
      · simp only; omega
/-- An offset: what is left, the error, the offset. -/
def ofs (r : List UInt8) (e : Int) : List UInt8 × Int × Int :=
  (wl (runP clocks) r e, if e ≠ 0 then e else (clk ((rd r e).takeWhile (runP clocks)) 24).2, if e ≠ 0 then 0 else -(clk ((rd r e).takeWhile (runP clocks)) 24).1)
theorem rdOffset {t r : List UInt8} {e : Int} (h : r <:+ t) (ht : small t) : F_rdOffset (sc t r e, ()) = some (sc t (ofs r e).1 (ofs r e).2.1, (ofs r e).2.2) := by
  have hrun := scRun (e := e) h ht clocks
  unfold clocks at hrun
  rw [e_rdOffset, hrun]
  simp only [Option.bind_some]
  rw [scErr]
  simp only [Option.bind_some, cond_dec]
  unfold ofs
  by_cases h0 : e ≠ 0
  · rw [if_pos h0, if_pos h0, if_pos h0]
    rfl
  · rw [if_neg h0, if_neg h0, if_neg h0]
    have h0 : e = 0 := by omega
    subst h0
    have hc := ruleParseClock ((rd r 0).takeWhile (runP clocks)) 24 (small_tw _ (small_rd h ht)) (by omega) (by omega)
    have hr := clk_range ((rd r 0).takeWhile (runP clocks)) 24
    unfold clocks at hc hr ⊢
    rw [hc]
    simp only [Option.bind_some]
    rw [wrap_i64 (by omega) (by omega), Int.zero_sub]
    by_cases h1 : (clk ((rd r 0).takeWhile (runP clocks)) 24).2 ≠ 0
    · unfold clocks at h1
      rw [if_pos h1, scFail]
      rfl
    · unfold clocks at h1
      rw [if_neg h1]
      have h1 := Decidable.not_not.1 h1
      rw [h1]
/-- A comma and a rule: what is left, the error, the rule. -/
def rlE (r : List UInt8) (e : Int) : Int := if tkB 44 r e then e else fl 2 e
def rlS (r : List UInt8) (e : Int) : List UInt8 := (rd (tk 44 r e) (rlE r e)).takeWhile (· != 44)
def rl (r : List UInt8) (e : Int) : List UInt8 × Int × Rul :=
  (wl (· != 44) (tk 44 r e) (rlE r e), if rlE r e ≠ 0 then rlE r e else (rul (rlS r e)).2, if rlE r e ≠ 0 then noRule else (rul (rlS r e)).1)
theorem rl_tail {t r : List UInt8} {e : Int} (h : r <:+ t) (ht : small t) : ((F_scUntil (sc t r e, (), (44 : UInt8))).bind fun x2 =>
        (F_scErr (x2.fst, ())).bind fun x3 =>
          bif decide (x3.snd ≠ (0 : Int)) then some (x3.fst, (0 : Int), (0 : Int), (0 : Int), (0 : Int), (0 : Int))
          else (F_ruleParse x2.snd).bind fun x4 => bif decide (x4.snd ≠ (0 : Int)) then (F_scFail (x3.fst, (), x4.snd)).bind fun x5 => some (x5.fst, x4.fst) else some (x3.fst, x4.fst)) =
      some (sc t (wl (· != 44) r e) (if e ≠ 0 then e else (rul ((rd r e).takeWhile (· != 44))).2), if e ≠ 0 then noRule else (rul ((rd r e).takeWhile (· != 44))).1) := by
  rw [scUntil h ht]
  simp only [Option.bind_some]
  rw [scErr]
  simp only [Option.bind_some, cond_dec]
  by_cases h0 : e ≠ 0
  · rw [if_pos h0, if_pos h0, if_pos h0]
    rfl
  · rw [if_neg h0, if_neg h0, if_neg h0]
    have h0 : e = 0 := by omega
    subst h0
    rw [ruleParse _ (small_tw _ (small_rd h ht))]
    simp only [Option.bind_some]
    by_cases h1 : (rul ((rd r 0).takeWhile (· != 44))).2 ≠ 0
    · rw [if_pos h1, scFail]
      rfl
    · rw [if_neg h1]
      have h1 := Decidable.not_not.1 h1
      rw [h1]
theorem rdRule {t r : List UInt8} {e : Int} (h : r <:+ t) (ht : small t) : F_rdRule (sc t r e, ()) = some (sc t (rl r e).1 (rl r e).2.1, (rl r e).2.2) := by
  rw [e_rdRule, scTake h ht]
  simp only [Option.bind_some]
  unfold rl rlS rlE
  cases hb : tkB 44 r e with
  | true =>
    simp only [Bool.not_true, cond_false, if_true]
    exact rl_tail (suf_tk 44 h) ht
  | false =>
    simp only [Bool.not_false, cond_true, Bool.false_eq_true, if_false]
    rw [scFail]
    simp only [Option.bind_some]
    exact rl_tail (suf_tk 44 h) ht
end Go.Sm
/- Plain Lean: the summer part of a plan. -/
set_option linter.unusedVariables false
set_option linter.unusedSimpArgs false
namespace Go.Sm
open Go.Proofs

theorem suf_nm {t r : List UInt8} {e : Int} (h : r <:+ t) : (nm r e).1 <:+ t := by
  unfold nm
  split
  · split
    · exact suf_tk _ (suf_wl _ (suf_tk _ h))
    · exact suf_wl _ (suf_tk _ h)
  · exact suf_wl _ h
theorem suf_ofs {t r : List UInt8} {e : Int} (h : r <:+ t) : (ofs r e).1 <:+ t := suf_wl _ h
theorem suf_rl {t r : List UInt8} {e : Int} (h : r <:+ t) : (rl r e).1 <:+ t := suf_wl _ (suf_tk _ h)
/-- The summer's offset, told or not. -/
def ahd (r : List UInt8) (e o : Int) : List UInt8 × Int × Int :=
  match rd r e with
  | [] => (r, e, o + 3600)
  | b :: _ => if b ≠ 44 then ofs r e else (r, e, o + 3600)
theorem suf_ahd {t r : List UInt8} {e o : Int} (h : r <:+ t) : (ahd r e o).1 <:+ t := by
  unfold ahd
  split
  · exact h
  · split
    · exact suf_ofs h
    · exact h
abbrev Pln := List UInt8 × List UInt8 × Int × Int × Rul × Rul
def smA (r : List UInt8) (e o : Int) : List UInt8 × Int × Int := ahd (nm r e).1 (nm r e).2.1 o
def smB (r : List UInt8) (e o : Int) : List UInt8 × Int × Rul := rl (smA r e o).1 (smA r e o).2.1
def smC (r : List UInt8) (e o : Int) : List UInt8 × Int × Rul := rl (smB r e o).1 (smB r e o).2.1
theorem rdSummer {t r : List UInt8} {e : Int} (h : r <:+ t) (ht : small t) (n s : List UInt8) (o a : Int) (b c : Rul) (ho : -4000000 ≤ o ∧ o ≤ 4000000) :
    F_rdSummer (sc t r e, (), (n, s, o, a, b, c)) = some (sc t (smC r e o).1 (smC r e o).2.1, (n, (nm r e).2.2, o, (smA r e o).2.2, (smB r e o).2.2, (smC r e o).2.2)) := by
  have h1 := suf_nm (e := e) h
  have h2 : (smA r e o).1 <:+ t := suf_ahd h1
  have h3 : (smB r e o).1 <:+ t := suf_rl h2
  have hB : F_rdRule (sc t (smA r e o).1 (smA r e o).2.1, ()) = some (sc t (smB r e o).1 (smB r e o).2.1, (smB r e o).2.2) := rdRule h2 ht
  have hC : F_rdRule (sc t (smB r e o).1 (smB r e o).2.1, ()) = some (sc t (smC r e o).1 (smC r e o).2.1, (smC r e o).2.2) := rdRule h3 ht
  rw [e_rdSummer, rdName h ht]
  simp only [Option.bind_some]
  rw [scPeek h1]
  simp only [Option.bind_some]
  rw [wrap_i64 (by omega) (by omega)]
  cases hq : rd (nm r e).1 (nm r e).2.1 with
  | nil =>
    have hA : smA r e o = ((nm r e).1, (nm r e).2.1, o + 3600) := by unfold smA ahd; rw [hq]
    rw [hA] at hB
    simp only [cond_false]
    rw [hB]
    simp only [Option.bind_some]
    rw [hC, hA]
    rfl
  | cons x l =>
    simp only [cond_true, cond_dec]
    by_cases hx : x ≠ 44
    · have hA : smA r e o = ofs (nm r e).1 (nm r e).2.1 := by unfold smA ahd; rw [hq]; simp only; rw [if_pos hx]
      rw [if_pos hx, rdOffset h1 ht]
      simp only [Option.bind_some]
      rw [← hA, hB]
      simp only [Option.bind_some]
      rw [hC]
      rfl
    · have hA : smA r e o = ((nm r e).1, (nm r e).2.1, o + 3600) := by unfold smA ahd; rw [hq]; simp only; rw [if_neg hx]
      rw [hA] at hB
      rw [if_neg hx]
      rw [hB]
      simp only [Option.bind_some]
      rw [hC, hA]
      rfl
end Go.Sm
/- Plain Lean: the check of a plan; plans as the program reads them. -/
set_option linter.unusedVariables false
set_option linter.unusedSimpArgs false
namespace Go.Sm
open Go.Proofs

def shB (o : Int) : Bool := decide (-89999 ≤ o ∧ o ≤ 89999)
theorem pxShifts (o : Int) : F_pxShifts o = some (shB o) := by
  rw [e_pxShifts, cond_dec]
  unfold shB
  by_cases h : -89999 ≤ o
  · rw [if_pos h]; simp [h]
  · rw [if_neg h]; simp [h]
def isNo (b : Rul) : Bool := decide (b.1 = 0) && (decide (b.2.1 = 0) && (decide (b.2.2.1 = 0) && (decide (b.2.2.2.1 = 0) && (decide (b.2.2.2.2 = 0) && true))))
def idleB (a : Int) (b c : Rul) : Bool := decide (a = 0) && (isNo b && isNo c)
theorem pxIdle (p : Pln) : F_pxIdle p = some (idleB p.2.2.2.1 p.2.2.2.2.1 p.2.2.2.2.2) := by
  rw [e_pxIdle]
  unfold idleB
  cases decide (p.2.2.2.1 = 0) with
  | false => rfl
  | true =>
    rw [cond_true, Bool.true_and]
    show (bif isNo p.2.2.2.2.1 then some (isNo p.2.2.2.2.2) else some false) = _
    cases isNo p.2.2.2.2.1 <;> rfl
def rckR (b : Rul) : Int := rck b.1 b.2.1 b.2.2.1 b.2.2.2.1 b.2.2.2.2
theorem ruleCheckR (b : Rul) : F_ruleCheck b = some (rckR b) := ruleCheck _ _ _ _ _
/-- What is wrong with a plan. -/
def pck (p : Pln) : Int :=
  if nameB p.1 = false then 2
  else if p.2.1 ≠ [] then
    (if nameB p.2.1 = false then 2 else if shB p.2.2.1 = false then 1 else if shB p.2.2.2.1 = false then 1 else if rckR p.2.2.2.2.1 ≠ 0 then rckR p.2.2.2.2.1 else rckR p.2.2.2.2.2)
  else if idleB p.2.2.2.1 p.2.2.2.2.1 p.2.2.2.2.2 = false then 2 else if shB p.2.2.1 = false then 1 else if shB p.2.2.2.1 = false then 1 else 0
theorem pxCheck (p : Pln) (h1 : small p.1) (h2 : small p.2.1) : F_pxCheck p = some (pck p) := by
  have hch : F_pxChanges p = some (decide (p.2.1 ≠ [])) := e_pxChanges p
  rw [e_pxCheck, pxName _ h1]
  unfold pck
  simp only [Option.bind_some]
  cases hn : nameB p.1 with
  | false => rfl
  | true =>
    simp only [Bool.not_true, cond_false, Bool.true_eq_false, if_false]
    rw [hch]
    simp only [Option.bind_some]
    by_cases hs : p.2.1 ≠ []
    · rw [if_pos hs, decide_eq_true hs]
      simp only [cond_true, Bool.not_true, cond_false]
      rw [pxName _ h2]
      simp only [Option.bind_some]
      cases hm : nameB p.2.1 with
      | false => rfl
      | true =>
        simp only [Bool.not_true, cond_false, Bool.true_eq_false, if_false]
        rw [pxShifts]
        simp only [Option.bind_some]
        cases shB p.2.2.1 with
        | false => rfl
        | true =>
          simp only [Bool.not_true, cond_false, Bool.true_eq_false, if_false]
          rw [pxShifts]
          simp only [Option.bind_some]
          cases shB p.2.2.2.1 with
          | false => rfl
          | true =>
            simp only [Bool.not_true, cond_false, Bool.true_eq_false, if_false]
            rw [ruleCheckR]
            simp only [Option.bind_some, cond_dec]
            by_cases hr : rckR p.2.2.2.2.1 ≠ 0
            · rw [if_pos hr, if_pos hr]
            · rw [if_neg hr, if_neg hr, ruleCheckR]
              rfl
    · rw [if_neg hs, decide_eq_false hs]
      simp only [cond_false, Bool.not_false, cond_true]
      rw [pxIdle]
      simp only [Option.bind_some]
      cases idleB p.2.2.2.1 p.2.2.2.2.1 p.2.2.2.2.2 with
      | false => rfl
      | true =>
        simp only [Bool.not_true, cond_false, Bool.true_eq_false, if_false]
        rw [pxShifts]
        simp only [Option.bind_some]
        cases shB p.2.2.1 with
        | false => rfl
        | true =>
          simp only [Bool.not_true, cond_false, Bool.true_eq_false, if_false]
          rw [pxShifts]
          simp only [Option.bind_some]
          cases shB p.2.2.2.1 with
          | false => rfl
          | true => rfl
end Go.Sm
/- Plain Lean: right plans (program and reference). -/
set_option linter.unusedVariables false
set_option linter.unusedSimpArgs false
namespace Go.Sm
open Go.Proofs

theorem pck_zero {p : Pln} (h : pck p = 0) : nameB p.1 = true ∧ (-89999 ≤ p.2.2.1 ∧ p.2.2.1 ≤ 89999) ∧ (-89999 ≤ p.2.2.2.1 ∧ p.2.2.2.1 ≤ 89999) ∧
    ((p.2.1 = [] ∧ p.2.2.2.1 = 0 ∧ isNo p.2.2.2.2.1 = true ∧ isNo p.2.2.2.2.2 = true) ∨ (p.2.1 ≠ [] ∧ nameB p.2.1 = true ∧ rckR p.2.2.2.2.1 = 0 ∧ rckR p.2.2.2.2.2 = 0)) := by
  unfold pck at h
  split at h
  · cases h
  · rename_i h1
    have h1 : nameB p.1 = true := by simpa using h1
    split at h
    · rename_i h2
      split at h
      · cases h
      · rename_i h3
        have h3 : nameB p.2.1 = true := by simpa using h3
        split at h
        · cases h
        · rename_i h4
          have h4 : -89999 ≤ p.2.2.1 ∧ p.2.2.1 ≤ 89999 := by simpa [shB] using h4
          split at h
          · cases h
          · rename_i h5
            have h5 : -89999 ≤ p.2.2.2.1 ∧ p.2.2.2.1 ≤ 89999 := by simpa [shB] using h5
            split at h
            · rename_i h6; exact absurd h h6
            · rename_i h6
              exact ⟨h1, h4, h5, .inr ⟨h2, h3, Decidable.not_not.1 h6, h⟩⟩
    · rename_i h2
      have h2 : p.2.1 = [] := by simpa using h2
      split at h
      · cases h
      · rename_i h3
        split at h
        · cases h
        · rename_i h4
          have h4 : -89999 ≤ p.2.2.1 ∧ p.2.2.1 ≤ 89999 := by simpa [shB] using h4
          split at h
          · cases h
          · rename_i h5
            have h5 : -89999 ≤ p.2.2.2.1 ∧ p.2.2.2.1 ≤ 89999 := by simpa [shB] using h5
            have h3 : p.2.2.2.1 = 0 ∧ isNo p.2.2.2.2.1 = true ∧ isNo p.2.2.2.2.2 = true := by
              have : idleB p.2.2.2.1 p.2.2.2.2.1 p.2.2.2.2.2 = true := by simpa using h3
              unfold idleB at this
              simpa using this
            exact ⟨h1, h4, h5, .inl ⟨h2, h3⟩⟩
theorem nameB_len {s : List UInt8} (h : nameB s = true) : s.length ≤ 16 := by
  unfold nameB at h
  rw [Bool.and_eq_true, decide_eq_true_eq] at h
  exact h.1.2
theorem r6CheckR (r : Rul) : F_r6Check r = some (rckR r) := r6Check _ _ _ _ _
theorem shB_tree {α : Type} (o : Int) (x y : α) : (bif decide (o < (-89999 : Int)) then x else bif decide ((89999 : Int) < o) then x else y) = bif shB o then y else x := by
  unfold shB
  by_cases h1 : o < -89999
  · rw [decide_eq_true h1, decide_eq_false (show ¬ (-89999 ≤ o ∧ o ≤ 89999) by omega)]; rfl
  · rw [decide_eq_false h1]
    by_cases h2 : 89999 < o
    · rw [decide_eq_true h2, decide_eq_false (show ¬ (-89999 ≤ o ∧ o ≤ 89999) by omega)]; rfl
    · rw [decide_eq_false h2, decide_eq_true (show -89999 ≤ o ∧ o ≤ 89999 by omega)]; rfl
theorem r7Check (p : Pln) (h1 : small p.1) (h2 : small p.2.1) : F_r7Check p = some (pck p) := by
  rw [e_r7Check, r7Name _ h1]
  simp only [Option.bind_some]
  unfold pck
  cases hn : nameB p.1 with
  | false => rfl
  | true =>
    simp only [Bool.not_true, cond_false, Bool.true_eq_false, if_false]
    rw [cond_dec]
    by_cases hs : p.2.1 ≠ []
    · have hl : 0 < p.2.1.length := List.length_pos_iff.2 hs
      rw [if_neg (by omega), if_pos hs, cond_dec, if_pos (by omega), r7Name _ h2]
      simp only [Option.bind_some]
      cases hm : nameB p.2.1 with
      | false => rfl
      | true =>
        simp only [Bool.not_true, cond_false, Bool.true_eq_false, if_false]
        rw [shB_tree, shB_tree]
        cases shB p.2.2.1 with
        | false => rfl
        | true =>
          simp only [cond_true, Bool.true_eq_false, if_false]
          cases shB p.2.2.2.1 with
          | false => rfl
          | true =>
            simp only [cond_true, Bool.true_eq_false, if_false]
            rw [cond_dec, if_neg (by omega), r6CheckR]
            simp only [Option.bind_some]
            rw [cond_dec]
            by_cases hr : rckR p.2.2.2.2.1 ≠ 0
            · rw [if_pos hr, if_pos hr]
            · rw [if_neg hr, if_neg hr, r6CheckR]
              rfl
    · have hl : p.2.1 = [] := by simpa using hs
      have hl0 : ((p.2.1.length : Nat) : Int) = 0 := by rw [hl]; rfl
      rw [if_pos hl0, if_neg hs, cond_dec]
      unfold idleB
      by_cases ha : p.2.2.2.1 ≠ 0
      · rw [if_pos ha, decide_eq_false ha]
        rfl
      · rw [if_neg ha, decide_eq_true (Decidable.not_not.1 ha), Bool.true_and]
        show (bif !(isNo p.2.2.2.2.1) then some 2 else bif !(isNo p.2.2.2.2.2) then some 2 else _) = _
        cases isNo p.2.2.2.2.1 with
        | false => rfl
        | true =>
          cases isNo p.2.2.2.2.2 with
          | false => rfl
          | true =>
            simp only [Bool.not_true, cond_false, Bool.and_true, Bool.true_eq_false, if_false]
            rw [cond_dec, if_neg (by omega), shB_tree, shB_tree]
            cases shB p.2.2.1 with
            | false => rfl
            | true =>
              simp only [cond_true, Bool.true_eq_false, if_false]
              cases shB p.2.2.2.1 with
              | false => rfl
              | true =>
                simp only [cond_true, Bool.true_eq_false, if_false]
                rw [cond_dec, if_pos hl0]
end Go.Sm
/- Plain Lean: loops by their index. -/
set_option linter.unusedVariables false
set_option linter.unusedSimpArgs false
namespace Go.Sm
open Go.Proofs

theorem wrap_up {i : Nat} (h : i < 9223372036854775807) : IntKind.i64.wrap ((i : Int) + 1) = ((i + 1 : Nat) : Int) := by rw [wrap_i64 (by omega) (by omega)]; simp
/-- A loop that ends early where q is false. -/
theorem scan_ix {σ β : Type} {step : σ → Option (σ ⊕ β)} (st : Nat → σ) (q : Nat → Bool) (a b : β) (i0 n : Nat)
    (h1 : ∀ i, i0 ≤ i → i < n → (∀ j, i0 ≤ j → j < i → q j = true) → step (st i) = if q i then some (.inl (st (i + 1))) else some (.inr a))
    (h3 : step (st n) = some (.inr b)) : ∀ k i, i0 ≤ i → i + k = n → (∀ j, i0 ≤ j → j < i → q j = true) → whileO step (st i) = some (if (List.range' i k).all q then b else a) := by
  intro k
  induction k with
  | zero =>
    intro i _ hi _
    obtain rfl : i = n := by omega
    rw [whileO_eq, h3]
    rfl
  | succ k ih =>
    intro i h0 hi hb
    rw [whileO_eq, List.range'_succ, List.all_cons, h1 i h0 (by omega) hb]
    cases hq : q i with
    | true =>
      simp only [if_true, Option.bind_some, Sum.elim_inl, Bool.true_and]
      refine ih (i + 1) (by omega) (by omega) fun j h1 h2 => ?_
      by_cases hj : j = i
      · rw [hj]; exact hq
      · exact hb j h1 (by omega)
    | false => simp
theorem range_all_iff {q : Nat → Bool} {i k : Nat} : (List.range' i k).all q = true ↔ ∀ j, i ≤ j → j < i + k → q j = true := by
  rw [List.all_eq_true]
  constructor
  · intro h j h1 h2
    exact h j (List.mem_range'_1.2 ⟨h1, h2⟩)
  · intro h j hj
    obtain ⟨h1, h2⟩ := List.mem_range'_1.1 hj
    exact h j h1 h2
/-- Elements one by one: by index, or by the list. -/
theorem range_list {γ : Type} (l : List γ) (p : γ → Bool) (q : Nat → Bool) (h : ∀ i (h : i < l.length), q i = p l[i]) : (List.range' 0 l.length).all q = l.all p := by
  rw [Bool.eq_iff_iff, range_all_iff, List.all_eq_true]
  constructor
  · intro hq x hx
    obtain ⟨i, hi, rfl⟩ := List.getElem_of_mem hx
    rw [← h i hi]
    exact hq i (by omega) (by omega)
  · intro hp i _ hi
    have hi' : i < l.length := by omega
    rw [h i hi']
    exact hp _ (List.getElem_mem hi')
/-- The first one that meets p: its place. -/
def firstAt {γ : Type} (p : γ → Bool) (l : List γ) : Nat := (l.takeWhile fun x => !p x).length
theorem firstAt_le {γ : Type} (p : γ → Bool) (l : List γ) : firstAt p l ≤ l.length := (List.takeWhile_prefix _).length_le
theorem firstAt_lt {γ : Type} (p : γ → Bool) : ∀ (l : List γ), firstAt p l < l.length ↔ l.any p = true
  | [] => by simp [firstAt]
  | x :: r => by
    have ih := firstAt_lt p r
    unfold firstAt at ih ⊢
    rw [List.takeWhile_cons, List.any_cons]
    cases hp : p x with
    | true => simp
    | false => simpa using ih
end Go.Sm
/- Plain Lean: a zone's parts. -/
set_option linter.unusedVariables false
set_option linter.unusedSimpArgs false
namespace Go.Sm
open Go.Proofs

abbrev Typ := Int × Bool × List UInt8
abbrev Cor := Int × Int
abbrev Zon := List Int × List Int × List Typ × List Cor × Bool × Pln
theorem index_loop {σ γ α β : Type} {step : σ → Option (σ ⊕ (α ⊕ β))} (st : Nat → σ) (l : List γ) (p : γ → Bool) (f : Nat → α) (b : β)
    (h : ∀ i (h : i < l.length), step (st i) = if p l[i] then some (.inr (.inl (f i))) else some (.inl (st (i + 1)))) (h3 : step (st l.length) = some (.inr (.inr b))) :
    whileO step (st 0) = some (if firstAt p l < l.length then .inl (f (firstAt p l)) else .inr b) := by
  have := scan_loop (step := step) st (fun i => if i < l.length then (Sum.inl (f i) : α ⊕ β) else .inr b) l (fun x => !p x) (fun i hi hp => by
    rw [h i hi, if_neg (by simpa using hp)]) (fun i hi hp => by
    rw [h i hi, if_pos (by simpa using hp), if_pos hi]) (by rw [h3, if_neg (by omega)]) 0 (by omega)
  rw [this]
  simp only [Nat.zero_add, List.drop_zero]
  rfl
def ixI (k n : Nat) : Int := if k < n then k else -1
theorem ixI_any {γ : Type} (p : γ → Bool) (l : List γ) : decide ((0 : Int) ≤ ixI (firstAt p l) l.length) = l.any p := by
  have h := firstAt_lt p l
  unfold ixI
  cases ha : l.any p with
  | true => rw [ha] at h; rw [if_pos (h.2 rfl)]; simp
  | false => rw [ha] at h; rw [if_neg (by simpa using h)]; rfl
abbrev midL (n : Nat) : Prop := n ≤ 9223372036854775807
def strangeB (n : Nat) (k : Int) : Bool := decide (k < 0) || decide ((n : Int) ≤ k)
def farB (t : Typ) : Bool := decide (t.1 < -89999) || decide (89999 < t.1)
def earlyB (c : Cor) : Bool := decide (c.1 < 0)
theorem zStrange (k : Int) (z : Zon) : F_zStrange (k, z) = some (strangeB z.2.2.1.length k, z) := by
  rw [e_zStrange]
  unfold strangeB
  cases decide (k < 0) <;> rfl
theorem zFar (t : Typ) : F_zFar t = some (farB t) := by
  obtain ⟨o, m, s⟩ := t
  rw [e_zFar]
  unfold farB
  cases decide (o < -89999) <;> rfl
theorem zEarly (c : Cor) : F_zEarly c = some (earlyB c) := by
  obtain ⟨a, t⟩ := c
  exact e_zEarly a t
theorem cnStrange (l : List Int) (z : Zon) (hl : midL l.length) : F_cnStrange (l, z) = some (l.any (strangeB z.2.2.1.length), z) := by
  rw [e_cnStrange, e_ixStrange]
  have := index_loop (step := sp_ixStrange_0) (fun i => (l, z, (l.length : Int), (i : Int))) l (strangeB z.2.2.1.length) (fun i => ((i : Int), z)) z (fun i hi => by
    rw [es_ixStrange_0, cond_dec, if_pos (by omega), getI_at hi]
    simp only [Option.bind_some]
    rw [zStrange]
    simp only [Option.bind_some]
    rw [wrap_up (by omega)]
    cases strangeB z.2.2.1.length l[i] <;> rfl) (by rw [es_ixStrange_0, cond_dec, if_neg (by omega)])
  have hw : w_ixStrange_0 (l, z, (l.length : Int), (0 : Int)) = _ := this
  rw [hw, ← ixI_any]
  unfold ixI
  simp only [Option.bind_some]
  split <;> simp
theorem cnFar (l : List Typ) (hl : midL l.length) : F_cnFar (l, ()) = some (l.any farB) := by
  rw [e_cnFar, e_ixFar]
  have := index_loop (step := sp_ixFar_0) (fun i => (l, (), (l.length : Int), (i : Int))) l farB (fun i => (i : Int)) () (fun i hi => by
    rw [es_ixFar_0, cond_dec, if_pos (by omega), getI_at hi]
    simp only [Option.bind_some]
    rw [zFar]
    simp only [Option.bind_some]
    rw [wrap_up (by omega)]
    cases farB l[i] <;> rfl) (by rw [es_ixFar_0, cond_dec, if_neg (by omega)])
  have hw : w_ixFar_0 (l, (), (l.length : Int), (0 : Int)) = _ := this
  rw [hw, ← ixI_any]
  unfold ixI
  simp only [Option.bind_some]
  split <;> simp
theorem cnEarly (l : List Cor) (hl : midL l.length) : F_cnEarly (l, ()) = some (l.any earlyB) := by
  rw [e_cnEarly, e_ixEarly]
  have := index_loop (step := sp_ixEarly_0) (fun i => (l, (), (l.length : Int), (i : Int))) l earlyB (fun i => (i : Int)) () (fun i hi => by
    rw [es_ixEarly_0, cond_dec, if_pos (by omega), getI_at hi]
    simp only [Option.bind_some]
    rw [zEarly]
    simp only [Option.bind_some]
    rw [wrap_up (by omega)]
    cases earlyB l[i] <;> rfl) (by rw [es_ixEarly_0, cond_dec, if_neg (by omega)])
  have hw : w_ixEarly_0 (l, (), (l.length : Int), (0 : Int)) = _ := this
  rw [hw, ← ixI_any]
  unfold ixI
  simp only [Option.bind_some]
  split <;> simp
def unB (t : Typ) : Bool := !nameB t.2.2
abbrev smT (l : List Typ) : Prop := ∀ t ∈ l, t.2.2.length ≤ 60
theorem smT.at {l : List Typ} (h : smT l) {i : Nat} (hi : i < l.length) : small l[i].2.2 := by
  have := h _ (List.getElem_mem hi)
  unfold small
  omega
theorem cnUnnamed (l : List Typ) (hl : midL l.length) (hs : smT l) : F_cnUnnamed (l, ()) = some (l.any unB) := by
  rw [e_cnUnnamed, e_ixUnnamed]
  have := index_loop (step := sp_ixUnnamed_0) (fun i => (l, (), (l.length : Int), (i : Int))) l unB (fun i => (i : Int)) () (fun i hi => by
    rw [es_ixUnnamed_0, cond_dec, if_pos (by omega), getI_at hi]
    simp only [Option.bind_some]
    have hu : F_zUnnamed l[i] = some (unB l[i]) := by
      have hsm := hs.at hi
      generalize l[i] = t at hsm ⊢
      obtain ⟨o, m, s⟩ := t
      rw [e_zUnnamed, pxName s hsm]
      rfl
    rw [hu]
    simp only [Option.bind_some]
    rw [wrap_up (by omega)]
    cases unB l[i] <;> rfl) (by rw [es_ixUnnamed_0, cond_dec, if_neg (by omega)])
  have hw : w_ixUnnamed_0 (l, (), (l.length : Int), (0 : Int)) = _ := this
  rw [hw, ← ixI_any]
  unfold ixI
  simp only [Option.bind_some]
  split <;> simp
def usualB (t : Typ) : Bool := !t.2.1
theorem ixUsual (l : List Typ) (hl : midL l.length) : F_ixUsual (l, ()) = some (ixI (firstAt usualB l) l.length) := by
  rw [e_ixUsual]
  have := index_loop (step := sp_ixUsual_0) (fun i => (l, (), (l.length : Int), (i : Int))) l usualB (fun i => (i : Int)) () (fun i hi => by
    rw [es_ixUsual_0, cond_dec, if_pos (by omega), getI_at hi]
    simp only [Option.bind_some]
    have hu : F_zUsual l[i] = some (usualB l[i]) := by
      generalize l[i] = t
      obtain ⟨o, m, s⟩ := t
      exact e_zUsual o m s
    rw [hu]
    simp only [Option.bind_some]
    rw [wrap_up (by omega)]
    cases usualB l[i] <;> rfl) (by rw [es_ixUsual_0, cond_dec, if_neg (by omega)])
  have hw : w_ixUsual_0 (l, (), (l.length : Int), (0 : Int)) = _ := this
  rw [hw]
  unfold ixI
  simp only [Option.bind_some]
  split <;> rfl
theorem cnStr (l : List (List UInt8)) (s : List UInt8) (hl : midL l.length) : F_cnStr (l, s) = some (l.any fun x => decide (s = x)) := by
  rw [e_cnStr, e_ixStr]
  have := index_loop (step := sp_ixStr_0) (fun i => (l, s, (l.length : Int), (i : Int))) l (fun x => decide (s = x)) (fun i => (i : Int)) () (fun i hi => by
    rw [es_ixStr_0, cond_dec, if_pos (by omega), getI_at hi]
    simp only [Option.bind_some]
    rw [wrap_up (by omega)]
    cases decide (s = l[i]) <;> rfl) (by rw [es_ixStr_0, cond_dec, if_neg (by omega)])
  have hw : w_ixStr_0 (l, s, (l.length : Int), (0 : Int)) = _ := this
  rw [hw, ← ixI_any]
  unfold ixI
  simp only [Option.bind_some]
  split <;> simp
/-- The names, each once. -/
def addN (o : List (List UInt8)) (t : Typ) : List (List UInt8) := if o.any (fun x => decide (t.2.2 = x)) then o else o ++ [t.2.2]
def namesL (l : List Typ) : List (List UInt8) := l.foldl addN []
theorem addN_len (o : List (List UInt8)) (t : Typ) : (addN o t).length ≤ o.length + 1 := by
  unfold addN
  split <;> simp
theorem room16 {o : List (List UInt8)} {s : List UInt8} (h : o.length ≤ 1000000) : roomB o.length [s].length 16 = true := by
  unfold roomB
  simp only [List.length_singleton, decide_eq_true_eq]
  omega
theorem zNames (z : Zon) (hl : z.2.2.1.length ≤ 1000000) : F_zNames z = some (namesL z.2.2.1) := by
  rw [e_zNames]
  generalize hlq : z.2.2.1 = l at hl
  have := fold_loop (step := sp_zNames_0) (fun i o => (o, l, (l.length : Int), (i : Int))) (fun o => o) l addN (fun i o => o.length ≤ i) (fun i hi o ho => by
    refine ⟨Nat.le_trans (addN_len _ _) (by omega), ?_⟩
    rw [es_zNames_0, cond_dec, if_pos (by omega), getI_at hi]
    simp only [Option.bind_some]
    rw [cnStr _ _ (by unfold midL; omega)]
    simp only [Option.bind_some]
    rw [wrap_up (by omega), room16 (by omega)]
    unfold addN
    cases o.any fun x => decide (l[i].2.2 = x) <;> rfl) (fun o _ => by rw [es_zNames_0, cond_dec, if_neg (by omega)]) 0 [] (by omega) (by simp)
  have hw : w_zNames_0 ([], l, (l.length : Int), (0 : Int)) = _ := this
  rw [hw]
  simp only [Option.bind_some, List.drop_zero]
  rfl
theorem namesL_small {l : List Typ} (hs : smT l) : ∀ s ∈ namesL l, s.length ≤ 60 := by
  have main : ∀ (r : List Typ) (o : List (List UInt8)), (∀ t ∈ r, t.2.2.length ≤ 60) → (∀ s ∈ o, s.length ≤ 60) → ∀ s ∈ r.foldl addN o, s.length ≤ 60 := by
    intro r
    induction r with
    | nil => intro o _ ho; exact ho
    | cons t r ih =>
      intro o hr ho
      rw [List.foldl_cons]
      refine ih _ (fun t' ht' => hr t' (by simp [ht'])) ?_
      unfold addN
      split
      · exact ho
      · intro s hs'
        rcases List.mem_append.1 hs' with h | h
        · exact ho s h
        · simp at h; rw [h]; exact hr t (by simp)
  exact main l [] hs (by simp)
theorem namesL_len (l : List Typ) : (namesL l).length ≤ l.length := by
  have main : ∀ (r : List Typ) (o : List (List UInt8)), (r.foldl addN o).length ≤ o.length + r.length := by
    intro r
    induction r with
    | nil => intro o; simp
    | cons t r ih =>
      intro o
      rw [List.foldl_cons]
      have := ih (addN o t)
      have := addN_len o t
      simp only [List.length_cons]
      omega
  have := main l []
  simpa [namesL] using this
/-- All names' bytes, with one more each. -/
def wideN (n : Int) (s : List UInt8) : Int := n + ((s.length : Int) + 1)
def wideL (l : List (List UInt8)) : Int := l.foldl wideN 0
theorem zWide (z : Zon) (hl : z.2.2.1.length ≤ 1000000) (hs : smT z.2.2.1) : F_zWide z = some (wideL (namesL z.2.2.1)) := by
  rw [e_zWide, zNames z hl]
  simp only [Option.bind_some]
  have hn := namesL_small hs
  have hc := namesL_len z.2.2.1
  generalize namesL z.2.2.1 = l at hn hc ⊢
  have := fold_loop (step := sp_zWide_0) (fun i w => (w, l, (l.length : Int), (i : Int))) (fun w => w) l wideN (fun i w => 0 ≤ w ∧ w ≤ 100 * i) (fun i hi w hw => by
    have h60 := hn _ (List.getElem_mem hi)
    refine ⟨by unfold wideN; omega, ?_⟩
    rw [es_zWide_0, cond_dec, if_pos (by omega), getI_at hi]
    simp only [Option.bind_some]
    rw [wrap_up (i := l[i].length) (by omega), wrap_i64 (by omega) (by omega), wrap_up (by omega)]
    unfold wideN
    rw [Int.natCast_add]
    rfl) (fun w _ => by rw [es_zWide_0, cond_dec, if_neg (by omega)]) 0 0 (by omega) (by simp)
  have hw : w_zWide_0 (0, l, (l.length : Int), (0 : Int)) = _ := this
  rw [hw]
  simp only [Option.bind_some, List.drop_zero]
  rfl
/-- Do all changes rise? -/
def riseQ (l : List Int) (i : Nat) : Bool := !decide (l.getD i 0 ≤ l.getD (i - 1) 0)
def riseB (l : List Int) : Bool := (List.range' 1 (l.length - 1)).all (riseQ l)
theorem getI_prev {α : Type} {l : List α} {i : Nat} (h1 : 1 ≤ i) (h : i < l.length) : getI l (IntKind.i64.wrap ((i : Int) - 1)) = if i ≤ 9223372036854775807 then some l[i - 1] else getI l (IntKind.i64.wrap ((i : Int) - 1)) := by
  split
  · rw [wrap_i64 (by omega) (by omega), show ((i : Int) - 1) = ((i - 1 : Nat) : Int) by omega, getI_at (by omega)]
  · rfl
theorem rise_loop {σ β : Type} {step : σ → Option (σ ⊕ (β ⊕ Zon))} (z : Zon) (st : Nat → σ) (b : β) (hl : midL z.1.length)
    (h : ∀ i : Nat, step (st i) = bif decide ((i : Int) < (z.1.length : Int)) then (getI z.1 (i : Int)).bind fun x1 => (getI z.1 (IntKind.i64.wrap ((i : Int) - (1 : Int)))).bind fun x2 => bif decide (x1 ≤ x2) then some (.inr (.inl b)) else some (.inl (st (i + 1))) else some (.inr (.inr z))) :
    whileO step (st 1) = some (if riseB z.1 then .inr z else .inl b) := by
  have hq : ∀ i, 1 ≤ i → i < z.1.length → step (st i) = if riseQ z.1 i then some (.inl (st (i + 1))) else some (.inr (.inl b)) := by
    intro i h1 hi
    rw [h, cond_dec, if_pos (by omega), getI_at hi, getI_prev h1 hi, if_pos (by omega)]
    simp only [Option.bind_some]
    unfold riseQ
    rw [List.getD_eq_getElem?_getD, List.getD_eq_getElem?_getD, List.getElem?_eq_getElem hi, List.getElem?_eq_getElem (show i - 1 < z.1.length by omega)]
    simp only [Option.getD_some]
    by_cases hle : z.1[i] ≤ z.1[i - 1]
    · simp [hle]
    · simp [hle]
  have h3 : step (st z.1.length) = some (.inr (.inr z)) := by rw [h, cond_dec, if_neg (by omega)]
  by_cases h0 : z.1.length = 0
  · rw [whileO_eq, h, cond_dec, if_neg (by omega)]
    unfold riseB
    rw [h0]
    rfl
  · exact scan_ix (step := step) st (riseQ z.1) (.inl b) (.inr z) 1 z.1.length (fun i h1 hi _ => hq i h1 hi) h3 (z.1.length - 1) 1 (by omega) (by omega) (fun j _ _ => by omega)
end Go.Sm
/- Zones as the document's; long ones. No condition. -/
set_option linter.unusedVariables false
namespace Go.Sm
open Go.Proofs
/-! ### horologe/horologelaw19.Type -/
noncomputable abbrev ct_law19Type : List (FuncId × Bool × SpecT) := []
theorem cs_law19Type : AllSound Tryz.prog ct_law19Type := trivial
noncomputable def F_law19Type (x : ((Int × Bool × List UInt8))) : Option ((Int × Bool × List UInt8)) := (evalF Tryz.prog (lookT ct_law19Type) (keepT []) (loopsT []) false false Tryz.f18 (codP [pTyp]) 1 (codP [pTyp]) x).run
noncomputable abbrev s_law19Type : SpecT := specF (codP [pTyp]) 1 (codP [pTyp]) F_law19Type
theorem so_law19Type : SoundT Tryz.prog 18 s_law19Type := soundG (P := Tryz.prog) mixed (t := ct_law19Type) cs_law19Type (f := 18) (fn := Tryz.f18) Tryz.func18 (by kernel_rfl) (by kernel_rfl) (by kernel_rfl) (ls := []) (by kernel_rfl) (kp := keepT []) (lps := loopsT []) (bump := false) (ice := false) (A := (codP [pTyp])) (n := 1) (R := (codP [pTyp])) fun _ => lps_nil

theorem e_law19Type (o : Int) (m : Bool) (s : List UInt8) : F_law19Type (o, m, s) = (
  some (o, m, s)) := by kernel_rfl

/-! ### horologe/horologelaw19.Document -/
noncomputable abbrev ct_law19Document : List (FuncId × Bool × SpecT) := [(18, false, s_law19Type), (22, false, s_law17Document)]
theorem cs_law19Document : AllSound Tryz.prog ct_law19Document := ⟨so_law19Type, so_law17Document, trivial⟩
-- loop 0 (key 3) exit 0: [1, 2, 3, 19, 20, 21]
-- loop 0 (key 3) exit 3: [1, 2, 3]
-- loop 1 (key 8) exit 0: [2, 3, 34, 35, 36]
-- loop 1 (key 8) exit 5: [2, 3]
abbrev kp_law19Document : Keep := keepT [(3, 0, [(1, none), (2, none), (3, none), (19, none), (20, none), (21, none)]), (3, 3, [(1, none), (2, none), (3, none)]), (8, 0, [(2, none), (3, none), (34, none), (35, none), (36, none)]), (8, 5, [(2, none), (3, none)])]
noncomputable abbrev b_law19Document_0 : Code := loopAt Tryz.f10 0
noncomputable abbrev b_law19Document_1 : Code := loopAt Tryz.f10 1
noncomputable def sp_law19Document_1 (x : (((List Int) × (List Int) × (List (Int × Bool × List UInt8)) × (List (Int × Int)) × (Bool × (List UInt8 × List UInt8 × Int × Int × (Int × Int × Int × Int × Int) × (Int × Int × Int × Int × Int)))) × ((List Int) × (List Int) × (List (Int × Bool × List UInt8)) × (List (Int × Int)) × (Bool × (List UInt8 × List UInt8 × Int × Int × (Int × Int × Int × Int × Int) × (Int × Int × Int × Int × Int)))) × (List (Int × Int)) × Int × Int)) : Option ((((List Int) × (List Int) × (List (Int × Bool × List UInt8)) × (List (Int × Int)) × (Bool × (List UInt8 × List UInt8 × Int × Int × (Int × Int × Int × Int × Int) × (Int × Int × Int × Int × Int)))) × ((List Int) × (List Int) × (List (Int × Bool × List UInt8)) × (List (Int × Int)) × (Bool × (List UInt8 × List UInt8 × Int × Int × (Int × Int × Int × Int × Int) × (Int × Int × Int × Int × Int)))) × (List (Int × Int)) × Int × Int) ⊕ (((List Int) × (List Int) × (List (Int × Bool × List UInt8)) × (List (Int × Int)) × (Bool × (List UInt8 × List UInt8 × Int × Int × (Int × Int × Int × Int × Int) × (Int × Int × Int × Int × Int)))) × ((List Int) × (List Int) × (List (Int × Bool × List UInt8)) × (List (Int × Int)) × (Bool × (List UInt8 × List UInt8 × Int × Int × (Int × Int × Int × Int × Int) × (Int × Int × Int × Int × Int)))))) := (stepL Tryz.prog (lookT ct_law19Document) kp_law19Document (loopsT []) 0 false b_law19Document_1 (codP [(.boxw [.o cI, .o cI, .o cTyp, .o cCor, .p cTail]), (.boxw [.p (.lst cI), .p (.lst cI), .o cTyp, .o cCor, .p cTail]), (.pure (.lst cCor)), pI, pI]) (exO (.ext 2) (codP [(.boxw [.o cI, .o cI, .o cTyp, .o cCor, .p cTail]), (.boxw [.p (.lst cI), .p (.lst cI), .o cTyp, .o cCor, .p cTail])])) x).run
noncomputable def w_law19Document_1 : (((List Int) × (List Int) × (List (Int × Bool × List UInt8)) × (List (Int × Int)) × (Bool × (List UInt8 × List UInt8 × Int × Int × (Int × Int × Int × Int × Int) × (Int × Int × Int × Int × Int)))) × ((List Int) × (List Int) × (List (Int × Bool × List UInt8)) × (List (Int × Int)) × (Bool × (List UInt8 × List UInt8 × Int × Int × (Int × Int × Int × Int × Int) × (Int × Int × Int × Int × Int)))) × (List (Int × Int)) × Int × Int) → Option (((List Int) × (List Int) × (List (Int × Bool × List UInt8)) × (List (Int × Int)) × (Bool × (List UInt8 × List UInt8 × Int × Int × (Int × Int × Int × Int × Int) × (Int × Int × Int × Int × Int)))) × ((List Int) × (List Int) × (List (Int × Bool × List UInt8)) × (List (Int × Int)) × (Bool × (List UInt8 × List UInt8 × Int × Int × (Int × Int × Int × Int × Int) × (Int × Int × Int × Int × Int))))) := whileO sp_law19Document_1
theorem ew_law19Document_1 (x : (((List Int) × (List Int) × (List (Int × Bool × List UInt8)) × (List (Int × Int)) × (Bool × (List UInt8 × List UInt8 × Int × Int × (Int × Int × Int × Int × Int) × (Int × Int × Int × Int × Int)))) × ((List Int) × (List Int) × (List (Int × Bool × List UInt8)) × (List (Int × Int)) × (Bool × (List UInt8 × List UInt8 × Int × Int × (Int × Int × Int × Int × Int) × (Int × Int × Int × Int × Int)))) × (List (Int × Int)) × Int × Int)) : w_law19Document_1 x = (sp_law19Document_1 x).bind (Sum.elim w_law19Document_1 some) := whileO_eq _ _
noncomputable abbrev l_law19Document_1 : LT := ltF (codP [(.boxw [.o cI, .o cI, .o cTyp, .o cCor, .p cTail]), (.boxw [.p (.lst cI), .p (.lst cI), .o cTyp, .o cCor, .p cTail]), (.pure (.lst cCor)), pI, pI]) (exO (.ext 2) (codP [(.boxw [.o cI, .o cI, .o cTyp, .o cCor, .p cTail]), (.boxw [.p (.lst cI), .p (.lst cI), .o cTyp, .o cCor, .p cTail])])) w_law19Document_1
theorem lo_law19Document_1 : LoopOk Tryz.prog Tryz.f10.ntmps kp_law19Document 0 false b_law19Document_1 l_law19Document_1 := loopG mixed cs_law19Document (lps := loopsT []) (by kernel_rfl) (ls := []) (by kernel_rfl) lps_nil
noncomputable def sp_law19Document_0 (x : ((List Int × List Int × List (Int × Bool × List UInt8) × List (Int × Int) × Bool × (List UInt8 × List UInt8 × Int × Int × (Int × Int × Int × Int × Int) × (Int × Int × Int × Int × Int))) × ((List Int) × (List Int) × (List (Int × Bool × List UInt8)) × (List (Int × Int)) × (Bool × (List UInt8 × List UInt8 × Int × Int × (Int × Int × Int × Int × Int) × (Int × Int × Int × Int × Int)))) × ((List Int) × (List Int) × (List (Int × Bool × List UInt8)) × (List (Int × Int)) × (Bool × (List UInt8 × List UInt8 × Int × Int × (Int × Int × Int × Int × Int) × (Int × Int × Int × Int × Int)))) × (List (Int × Bool × List UInt8)) × Int × Int)) : Option (((List Int × List Int × List (Int × Bool × List UInt8) × List (Int × Int) × Bool × (List UInt8 × List UInt8 × Int × Int × (Int × Int × Int × Int × Int) × (Int × Int × Int × Int × Int))) × ((List Int) × (List Int) × (List (Int × Bool × List UInt8)) × (List (Int × Int)) × (Bool × (List UInt8 × List UInt8 × Int × Int × (Int × Int × Int × Int × Int) × (Int × Int × Int × Int × Int)))) × ((List Int) × (List Int) × (List (Int × Bool × List UInt8)) × (List (Int × Int)) × (Bool × (List UInt8 × List UInt8 × Int × Int × (Int × Int × Int × Int × Int) × (Int × Int × Int × Int × Int)))) × (List (Int × Bool × List UInt8)) × Int × Int) ⊕ ((List Int × List Int × List (Int × Bool × List UInt8) × List (Int × Int) × Bool × (List UInt8 × List UInt8 × Int × Int × (Int × Int × Int × Int × Int) × (Int × Int × Int × Int × Int))) × ((List Int) × (List Int) × (List (Int × Bool × List UInt8)) × (List (Int × Int)) × (Bool × (List UInt8 × List UInt8 × Int × Int × (Int × Int × Int × Int × Int) × (Int × Int × Int × Int × Int)))) × ((List Int) × (List Int) × (List (Int × Bool × List UInt8)) × (List (Int × Int)) × (Bool × (List UInt8 × List UInt8 × Int × Int × (Int × Int × Int × Int × Int) × (Int × Int × Int × Int × Int)))))) := (stepL Tryz.prog (lookT ct_law19Document) kp_law19Document (loopsT []) 0 false b_law19Document_0 (codP [(.boxw [.p cZone]), (.boxw [.o cI, .o cI, .o cTyp, .o cCor, .p cTail]), (.boxw [.p (.lst cI), .p (.lst cI), .o cTyp, .o cCor, .p cTail]), (.pure (.lst cTyp)), pI, pI]) (exO (.ext 0) (codP [(.boxw [.p cZone]), (.boxw [.o cI, .o cI, .o cTyp, .o cCor, .p cTail]), (.boxw [.p (.lst cI), .p (.lst cI), .o cTyp, .o cCor, .p cTail])])) x).run
noncomputable def w_law19Document_0 : ((List Int × List Int × List (Int × Bool × List UInt8) × List (Int × Int) × Bool × (List UInt8 × List UInt8 × Int × Int × (Int × Int × Int × Int × Int) × (Int × Int × Int × Int × Int))) × ((List Int) × (List Int) × (List (Int × Bool × List UInt8)) × (List (Int × Int)) × (Bool × (List UInt8 × List UInt8 × Int × Int × (Int × Int × Int × Int × Int) × (Int × Int × Int × Int × Int)))) × ((List Int) × (List Int) × (List (Int × Bool × List UInt8)) × (List (Int × Int)) × (Bool × (List UInt8 × List UInt8 × Int × Int × (Int × Int × Int × Int × Int) × (Int × Int × Int × Int × Int)))) × (List (Int × Bool × List UInt8)) × Int × Int) → Option ((List Int × List Int × List (Int × Bool × List UInt8) × List (Int × Int) × Bool × (List UInt8 × List UInt8 × Int × Int × (Int × Int × Int × Int × Int) × (Int × Int × Int × Int × Int))) × ((List Int) × (List Int) × (List (Int × Bool × List UInt8)) × (List (Int × Int)) × (Bool × (List UInt8 × List UInt8 × Int × Int × (Int × Int × Int × Int × Int) × (Int × Int × Int × Int × Int)))) × ((List Int) × (List Int) × (List (Int × Bool × List UInt8)) × (List (Int × Int)) × (Bool × (List UInt8 × List UInt8 × Int × Int × (Int × Int × Int × Int × Int) × (Int × Int × Int × Int × Int))))) := whileO sp_law19Document_0
theorem ew_law19Document_0 (x : ((List Int × List Int × List (Int × Bool × List UInt8) × List (Int × Int) × Bool × (List UInt8 × List UInt8 × Int × Int × (Int × Int × Int × Int × Int) × (Int × Int × Int × Int × Int))) × ((List Int) × (List Int) × (List (Int × Bool × List UInt8)) × (List (Int × Int)) × (Bool × (List UInt8 × List UInt8 × Int × Int × (Int × Int × Int × Int × Int) × (Int × Int × Int × Int × Int)))) × ((List Int) × (List Int) × (List (Int × Bool × List UInt8)) × (List (Int × Int)) × (Bool × (List UInt8 × List UInt8 × Int × Int × (Int × Int × Int × Int × Int) × (Int × Int × Int × Int × Int)))) × (List (Int × Bool × List UInt8)) × Int × Int)) : w_law19Document_0 x = (sp_law19Document_0 x).bind (Sum.elim w_law19Document_0 some) := whileO_eq _ _
noncomputable abbrev l_law19Document_0 : LT := ltF (codP [(.boxw [.p cZone]), (.boxw [.o cI, .o cI, .o cTyp, .o cCor, .p cTail]), (.boxw [.p (.lst cI), .p (.lst cI), .o cTyp, .o cCor, .p cTail]), (.pure (.lst cTyp)), pI, pI]) (exO (.ext 0) (codP [(.boxw [.p cZone]), (.boxw [.o cI, .o cI, .o cTyp, .o cCor, .p cTail]), (.boxw [.p (.lst cI), .p (.lst cI), .o cTyp, .o cCor, .p cTail])])) w_law19Document_0
theorem lo_law19Document_0 : LoopOk Tryz.prog Tryz.f10.ntmps kp_law19Document 0 false b_law19Document_0 l_law19Document_0 := loopG mixed cs_law19Document (lps := loopsT []) (by kernel_rfl) (ls := []) (by kernel_rfl) lps_nil
noncomputable def F_law19Document (x : ((List Int × List Int × List (Int × Bool × List UInt8) × List (Int × Int) × Bool × (List UInt8 × List UInt8 × Int × Int × (Int × Int × Int × Int × Int) × (Int × Int × Int × Int × Int))))) : Option ((List Int × List Int × List (Int × Bool × List UInt8) × List (Int × Int) × Bool × (List UInt8 × List UInt8 × Int × Int × (Int × Int × Int × Int × Int) × (Int × Int × Int × Int × Int)))) := (evalF Tryz.prog (lookT ct_law19Document) (kp_law19Document) (loopsT [(3, l_law19Document_0), (8, l_law19Document_1)]) false true Tryz.f10 (codP [pZone]) 1 (codP [pZone]) x).run
noncomputable abbrev s_law19Document : SpecT := specF (codP [pZone]) 1 (codP [pZone]) F_law19Document
theorem so_law19Document : SoundT Tryz.prog 10 s_law19Document := soundG (P := Tryz.prog) mixed (t := ct_law19Document) cs_law19Document (f := 10) (fn := Tryz.f10) Tryz.func10 (by kernel_rfl) (by kernel_rfl) (by kernel_rfl) (ls := [b_law19Document_0, b_law19Document_1]) (by kernel_rfl) (kp := kp_law19Document) (lps := loopsT [(3, l_law19Document_0), (8, l_law19Document_1)]) (bump := false) (ice := true) (A := (codP [pZone])) (n := 1) (R := (codP [pZone])) fun _ => (lps_cons l_law19Document_0 (by kernel_rfl) lo_law19Document_0 (lps_cons l_law19Document_1 (by kernel_rfl) lo_law19Document_1 lps_nil))

theorem es_law19Document_0 (z : List Int × List Int × List (Int × Bool × List UInt8) × List (Int × Int) × Bool × (List UInt8 × List UInt8 × Int × Int × (Int × Int × Int × Int × Int) × (Int × Int × Int × Int × Int))) (a : List Int) (b : List Int) (c : List (Int × Bool × List UInt8)) (d : List (Int × Int)) (q : Bool × List UInt8 × List UInt8 × Int × Int × (Int × Int × Int × Int × Int) × (Int × Int × Int × Int × Int)) (x : List Int) (y : List Int) (u : List (Int × Bool × List UInt8)) (v : List (Int × Int)) (q1 : Bool × List UInt8 × List UInt8 × Int × Int × (Int × Int × Int × Int × Int) × (Int × Int × Int × Int × Int)) (l : List (Int × Bool × List UInt8)) (n i : Int) : sp_law19Document_0 (z, (a, b, c, d, q), (x, y, u, v, q1), l, n, i) = (
  bif decide (i < n) then
    (getI l i).bind fun x1 =>
      (F_law19Type x1).bind fun x2 =>
        bif roomB u.length [(x2.fst, x2.snd.fst, x2.snd.snd)].length (32 : Nat) then
          some (Sum.inl (z, (a, b, c, d, q), (x, y, u ++ [(x2.fst, x2.snd.fst, x2.snd.snd)], v, q1), l, n, IntKind.i64.wrap (i + (1 : Int))))
        else none
  else some (Sum.inr (z, (a, b, c, d, q), x, y, u, v, q1))) := by kernel_rfl

theorem es_law19Document_1 (a : List Int) (b : List Int) (c : List (Int × Bool × List UInt8)) (d : List (Int × Int)) (q : Bool × List UInt8 × List UInt8 × Int × Int × (Int × Int × Int × Int × Int) × (Int × Int × Int × Int × Int)) (x : List Int) (y : List Int) (u : List (Int × Bool × List UInt8)) (v : List (Int × Int)) (q1 : Bool × List UInt8 × List UInt8 × Int × Int × (Int × Int × Int × Int × Int) × (Int × Int × Int × Int × Int)) (l : List (Int × Int)) (n i : Int) : sp_law19Document_1 ((a, b, c, d, q), (x, y, u, v, q1), l, n, i) = (
  bif decide (i < n) then
    (getI l i).bind fun x1 =>
      bif roomB v.length [(x1.fst, x1.snd)].length (16 : Nat) then some (Sum.inl ((a, b, c, d, q), (x, y, u, v ++ [(x1.fst, x1.snd)], q1), l, n, IntKind.i64.wrap (i + (1 : Int)))) else none
  else some (Sum.inr ((a, b, c, d, q), x, y, u, v, q1))) := by kernel_rfl

theorem e_law19Document (z : List Int × List Int × List (Int × Bool × List UInt8) × List (Int × Int) × Bool × (List UInt8 × List UInt8 × Int × Int × (Int × Int × Int × Int × Int) × (Int × Int × Int × Int × Int))) : F_law19Document z = (
  (F_law17Document z.snd.snd.snd.snd.snd).bind fun x1 =>
    (w_law19Document_0
          (z, ([], [], [], [], false, [], [], (0 : Int), (0 : Int), ((0 : Int), (0 : Int), (0 : Int), (0 : Int), (0 : Int)), (0 : Int), (0 : Int), (0 : Int), (0 : Int), (0 : Int)),
            (z.fst, z.snd.fst, [], [], z.snd.snd.snd.snd.fst, x1), z.snd.snd.fst, (↑(List.length z.snd.snd.fst) : Int), (0 : Int))).bind
      fun x2 => (w_law19Document_1 (x2.snd.fst, x2.snd.snd, x2.fst.snd.snd.snd.fst, (↑(List.length x2.fst.snd.snd.snd.fst) : Int), (0 : Int))).bind fun x3 => some x3.snd) := by kernel_rfl


/-! ### horologe/horologelaw19.Long -/
noncomputable abbrev ct_law19Long : List (FuncId × Bool × SpecT) := [(44, false, s_law17LongA)]
theorem cs_law19Long : AllSound Tryz.prog ct_law19Long := ⟨so_law17LongA, trivial⟩
-- loop 0 (key 2) exit 0: [1, 6, 7, 8]
-- loop 0 (key 2) exit 2: [2]
-- loop 0 (key 2) exit 3: [1]
abbrev kp_law19Long : Keep := keepT [(2, 0, [(1, none), (6, none), (7, none), (8, none)]), (2, 2, [(2, none)]), (2, 3, [(1, none)])]
noncomputable abbrev b_law19Long_0 : Code := loopAt Tryz.f9 0
noncomputable def sp_law19Long_0 (x : ((List Int × List Int × List (Int × Bool × List UInt8) × List (Int × Int) × Bool × (List UInt8 × List UInt8 × Int × Int × (Int × Int × Int × Int × Int) × (Int × Int × Int × Int × Int))) × (List (Int × Bool × List UInt8)) × Int × Int)) : Option (((List Int × List Int × List (Int × Bool × List UInt8) × List (Int × Int) × Bool × (List UInt8 × List UInt8 × Int × Int × (Int × Int × Int × Int × Int) × (Int × Int × Int × Int × Int))) × (List (Int × Bool × List UInt8)) × Int × Int) ⊕ ((Bool) ⊕ ((List Int × List Int × List (Int × Bool × List UInt8) × List (Int × Int) × Bool × (List UInt8 × List UInt8 × Int × Int × (Int × Int × Int × Int × Int) × (Int × Int × Int × Int × Int)))))) := (stepL Tryz.prog (lookT ct_law19Long) kp_law19Long (loopsT []) 0 false b_law19Long_0 (codP [(.boxw [.p cZone]), (.pure (.lst cTyp)), pI, pI]) (exS (exO .ret (codP [pB])) (exO (.ext 0) (codP [(.boxw [.p cZone])]))) x).run
noncomputable def w_law19Long_0 : ((List Int × List Int × List (Int × Bool × List UInt8) × List (Int × Int) × Bool × (List UInt8 × List UInt8 × Int × Int × (Int × Int × Int × Int × Int) × (Int × Int × Int × Int × Int))) × (List (Int × Bool × List UInt8)) × Int × Int) → Option ((Bool) ⊕ ((List Int × List Int × List (Int × Bool × List UInt8) × List (Int × Int) × Bool × (List UInt8 × List UInt8 × Int × Int × (Int × Int × Int × Int × Int) × (Int × Int × Int × Int × Int))))) := whileO sp_law19Long_0
theorem ew_law19Long_0 (x : ((List Int × List Int × List (Int × Bool × List UInt8) × List (Int × Int) × Bool × (List UInt8 × List UInt8 × Int × Int × (Int × Int × Int × Int × Int) × (Int × Int × Int × Int × Int))) × (List (Int × Bool × List UInt8)) × Int × Int)) : w_law19Long_0 x = (sp_law19Long_0 x).bind (Sum.elim w_law19Long_0 some) := whileO_eq _ _
noncomputable abbrev l_law19Long_0 : LT := ltF (codP [(.boxw [.p cZone]), (.pure (.lst cTyp)), pI, pI]) (exS (exO .ret (codP [pB])) (exO (.ext 0) (codP [(.boxw [.p cZone])]))) w_law19Long_0
theorem lo_law19Long_0 : LoopOk Tryz.prog Tryz.f9.ntmps kp_law19Long 0 false b_law19Long_0 l_law19Long_0 := loopG mixed cs_law19Long (lps := loopsT []) (by kernel_rfl) (ls := []) (by kernel_rfl) lps_nil
noncomputable def F_law19Long (x : ((List Int × List Int × List (Int × Bool × List UInt8) × List (Int × Int) × Bool × (List UInt8 × List UInt8 × Int × Int × (Int × Int × Int × Int × Int) × (Int × Int × Int × Int × Int))))) : Option (Bool) := (evalF Tryz.prog (lookT ct_law19Long) (kp_law19Long) (loopsT [(2, l_law19Long_0)]) false false Tryz.f9 (codP [pZone]) 1 (codP [pB]) x).run
noncomputable abbrev s_law19Long : SpecT := specF (codP [pZone]) 1 (codP [pB]) F_law19Long
theorem so_law19Long : SoundT Tryz.prog 9 s_law19Long := soundG (P := Tryz.prog) mixed (t := ct_law19Long) cs_law19Long (f := 9) (fn := Tryz.f9) Tryz.func9 (by kernel_rfl) (by kernel_rfl) (by kernel_rfl) (ls := [b_law19Long_0]) (by kernel_rfl) (kp := kp_law19Long) (lps := loopsT [(2, l_law19Long_0)]) (bump := false) (ice := false) (A := (codP [pZone])) (n := 1) (R := (codP [pB])) fun _ => (lps_cons l_law19Long_0 (by kernel_rfl) lo_law19Long_0 lps_nil)

theorem es_law19Long_0 (z : List Int × List Int × List (Int × Bool × List UInt8) × List (Int × Int) × Bool × (List UInt8 × List UInt8 × Int × Int × (Int × Int × Int × Int × Int) × (Int × Int × Int × Int × Int))) (l : List (Int × Bool × List UInt8)) (n i : Int) : sp_law19Long_0 (z, l, n, i) = (
  bif decide (i < n) then
    (getI l i).bind fun x1 => bif decide ((60 : Int) < (↑(List.length x1.snd.snd) : Int)) then some (Sum.inr (Sum.inl true)) else some (Sum.inl (z, l, n, IntKind.i64.wrap (i + (1 : Int))))
  else some (Sum.inr (Sum.inr z))) := by kernel_rfl

theorem e_law19Long (z : List Int × List Int × List (Int × Bool × List UInt8) × List (Int × Int) × Bool × (List UInt8 × List UInt8 × Int × Int × (Int × Int × Int × Int × Int) × (Int × Int × Int × Int × Int))) : F_law19Long z = (
  (w_law19Long_0 (z, z.snd.snd.fst, (↑(List.length z.snd.snd.fst) : Int), (0 : Int))).bind fun x1 =>
    Sum.elim (fun x2 => some x2)
      (fun x2 =>
        bif decide ((60 : Int) < (↑(List.length x2.fst) : Int)) then
          bif decide ((↑(List.length x2.fst) : Int) ≤ (2000 : Int)) then some true
          else
            bif decide ((2010 : Int) < (↑(List.length x2.fst) : Int)) then some true
            else
              bif decide ((40 : Int) < (↑(List.length x2.snd.snd.fst) : Int)) then
                bif decide ((↑(List.length x2.snd.snd.fst) : Int) ≤ (256 : Int)) then some true
                else
                  bif decide ((270 : Int) < (↑(List.length x2.snd.snd.fst) : Int)) then some true
                  else
                    bif decide ((110 : Int) < (↑(List.length x2.snd.snd.snd.fst) : Int)) then some true
                    else bif decide ((2010 : Int) < (↑(List.length x2.snd.fst) : Int)) then some true else (F_law17LongA x2.snd.snd.snd.snd.snd).bind fun x3 => some x3
              else
                bif decide ((270 : Int) < (↑(List.length x2.snd.snd.fst) : Int)) then some true
                else
                  bif decide ((110 : Int) < (↑(List.length x2.snd.snd.snd.fst) : Int)) then some true
                  else bif decide ((2010 : Int) < (↑(List.length x2.snd.fst) : Int)) then some true else (F_law17LongA x2.snd.snd.snd.snd.snd).bind fun x3 => some x3
        else
          bif decide ((2010 : Int) < (↑(List.length x2.fst) : Int)) then some true
          else
            bif decide ((40 : Int) < (↑(List.length x2.snd.snd.fst) : Int)) then
              bif decide ((↑(List.length x2.snd.snd.fst) : Int) ≤ (256 : Int)) then some true
              else
                bif decide ((270 : Int) < (↑(List.length x2.snd.snd.fst) : Int)) then some true
                else
                  bif decide ((110 : Int) < (↑(List.length x2.snd.snd.snd.fst) : Int)) then some true
                  else bif decide ((2010 : Int) < (↑(List.length x2.snd.fst) : Int)) then some true else (F_law17LongA x2.snd.snd.snd.snd.snd).bind fun x3 => some x3
            else
              bif decide ((270 : Int) < (↑(List.length x2.snd.snd.fst) : Int)) then some true
              else
                bif decide ((110 : Int) < (↑(List.length x2.snd.snd.snd.fst) : Int)) then some true
                else bif decide ((2010 : Int) < (↑(List.length x2.snd.fst) : Int)) then some true else (F_law17LongA x2.snd.snd.snd.snd.snd).bind fun x3 => some x3)
      x1) := by kernel_rfl


end Go.Sm
/- Plain Lean: years, months and days as whole numbers. No condition. -/
set_option linter.unusedVariables false
set_option linter.unusedSimpArgs false
namespace Go.Sm

abbrev leap (y : Int) : Prop := y % 4 = 0 ∧ (y % 100 ≠ 0 ∨ y % 400 = 0)
/-- The number of a year's first day. -/
def yS (y : Int) : Int := 365 * (y - 1970) + (y - 1) / 4 - (y - 1) / 100 + (y - 1) / 400 - 477
/-- Days of a year's months ahead of a month (1 to 13). -/
def mC (y m : Int) : Int := if m ≤ 2 then 31 * (m - 1) else (153 * (m - 3) + 2) / 5 + 59 + (if leap y then 1 else 0)
def yL (y : Int) : Int := if leap y then 366 else 365
theorem yS_succ (y : Int) : yS (y + 1) = yS y + yL y := by
  unfold yS yL
  by_cases h : leap y
  · rw [if_pos h]; unfold leap at h; omega
  · rw [if_neg h]; unfold leap at h; omega
theorem yS_400 (y : Int) : yS (y + 400) = yS y + 146097 := by unfold yS; omega
theorem yS_400n (y : Int) : yS (y - 400) = yS y - 146097 := by unfold yS; omega
theorem yS_1970 : yS 1970 = 0 := by decide
theorem yL_400 (y : Int) : yL (y + 400) = yL y := by
  unfold yL
  have : leap (y + 400) ↔ leap y := by unfold leap; omega
  simp only [this]
theorem yL_le (y : Int) : 365 ≤ yL y ∧ yL y ≤ 366 := by unfold yL; split <;> omega
theorem yS_mono {x y : Int} (h : x ≤ y) : yS x + 365 * (y - x) ≤ yS y ∧ yS y ≤ yS x + 366 * (y - x) := by
  obtain ⟨k, rfl⟩ : ∃ k : Nat, y = x + k := ⟨(y - x).toNat, by omega⟩
  clear h
  induction k with
  | zero => simp
  | succ k ih =>
    have h1 := yS_succ (x + k)
    have h2 := yL_le (x + k)
    rw [show x + ((k + 1 : Nat) : Int) = x + k + 1 by omega, h1]
    omega
/-- A day's year. -/
theorem yS_uniq {x y n : Int} (h1 : yS x ≤ n) (h2 : n < yS (x + 1)) (h3 : yS y ≤ n) (h4 : n < yS (y + 1)) : x = y := by
  rcases Int.lt_trichotomy x y with h | h | h
  · have := (yS_mono (x := x + 1) (y := y) (by omega)).1
    omega
  · exact h
  · have := (yS_mono (x := y + 1) (y := x) (by omega)).1
    omega
theorem mC_13 (y : Int) : mC y 13 = yL y := by
  unfold mC yL
  rw [if_neg (by omega)]
  split <;> omega
theorem mC_1 (y : Int) : mC y 1 = 0 := by
  unfold mC
  rw [if_pos (by omega)]
  omega
/-- Days of a month. -/
def mL (y m : Int) : Int := if m = 2 then (if leap y then 29 else 28) else 30 + (m + m / 8) % 2
theorem mC_succ (y m : Int) (h1 : 1 ≤ m) (h2 : m ≤ 12) : mC y (m + 1) = mC y m + mL y m := by
  unfold mC mL
  by_cases hl : leap y
  · rw [if_pos hl, if_pos hl]
    rcases (by omega : m = 1 ∨ m = 2 ∨ m = 3 ∨ m = 4 ∨ m = 5 ∨ m = 6 ∨ m = 7 ∨ m = 8 ∨ m = 9 ∨ m = 10 ∨ m = 11 ∨ m = 12) with rfl | rfl | rfl | rfl | rfl | rfl | rfl | rfl | rfl | rfl | rfl | rfl <;> decide
  · rw [if_neg hl, if_neg hl]
    rcases (by omega : m = 1 ∨ m = 2 ∨ m = 3 ∨ m = 4 ∨ m = 5 ∨ m = 6 ∨ m = 7 ∨ m = 8 ∨ m = 9 ∨ m = 10 ∨ m = 11 ∨ m = 12) with rfl | rfl | rfl | rfl | rfl | rfl | rfl | rfl | rfl | rfl | rfl | rfl <;> decide
theorem mL_le (y m : Int) : 28 ≤ mL y m ∧ mL y m ≤ 31 := by
  unfold mL
  split
  · split <;> omega
  · omega
/-- The year of a day, counted from 1 March of a year that 400 divides. -/
theorem civil (f o : Int) (h0 : 0 ≤ f) (h1 : f ≤ 146096) (ho : o = (f - f / 1460 + f / 36524 - f / 146096) / 365) :
    0 ≤ o ∧ o ≤ 399 ∧ 365 * o + o / 4 - o / 100 ≤ f ∧ f < 365 * (o + 1) + (o + 1) / 4 - (o + 1) / 100 + (o + 1) / 400 := by
  by_cases he : f = 146096
  · subst he
    have : o = 399 := by omega
    subst this
    decide
  · have e0 : f / 146096 = 0 := by omega
    rw [e0] at ho
    obtain ⟨c, hc⟩ : ∃ c, c = f / 36524 := ⟨_, rfl⟩
    obtain ⟨d, hd⟩ : ∃ d, d = f / 1460 := ⟨_, rfl⟩
    rw [← hc, ← hd] at ho
    have hc4 : c = 0 ∨ c = 1 ∨ c = 2 ∨ c = 3 := by omega
    have hdc : 0 ≤ d - c := by omega
    have hlo : 100 * c ≤ o := by rcases hc4 with h | h | h | h <;> subst h <;> omega
    have hhi : o < 100 * (c + 1) := by rcases hc4 with h | h | h | h <;> subst h <;> omega
    have ho4 : o / 4 ≤ d := by omega
    have ho1 : o / 100 = c := by omega
    have hu4 : d ≤ (o + 1) / 4 := by omega
    refine ⟨by omega, by omega, by omega, ?_⟩
    by_cases hl : o + 1 = 100 * (c + 1)
    · have : (o + 1) / 100 = c + 1 := by omega
      have : (o + 1) / 4 = 25 * (c + 1) := by omega
      have : 0 ≤ (o + 1) / 400 := by omega
      omega
    · have : (o + 1) / 100 = c := by omega
      have : 0 ≤ (o + 1) / 400 := by omega
      omega
end Go.Sm
