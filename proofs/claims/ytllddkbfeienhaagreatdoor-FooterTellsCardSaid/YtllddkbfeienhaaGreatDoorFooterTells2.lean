/- The references of rules and plans. No condition. -/
import Derived.Test.YtllddkbfeienhaaGreatDoorFooterTells1
set_option linter.unusedVariables false
namespace Go.Sm
open Go.Proofs


/-! ### horologe/horologeref02.Raw -/
noncomputable abbrev ct_r2Raw : List (FuncId × Bool × SpecT) := []
theorem cs_r2Raw : AllSound Tryz.prog ct_r2Raw := trivial
-- loop 0 (key 2) exit 0: [0, 1, 5]
-- loop 0 (key 2) exit 3: [1, 5]
-- loop 1 (key 5) exit 0: [1, 5]
-- loop 1 (key 5) exit 5: [5]
abbrev kp_r2Raw : Keep := keepT [(2, 0, [(0, none), (1, none), (5, none)]), (2, 3, [(1, none), (5, none)]), (5, 0, [(1, none), (5, none)]), (5, 5, [(5, none)])]
noncomputable abbrev b_r2Raw_0 : Code := loopAt Tryz.f162 0
noncomputable abbrev b_r2Raw_1 : Code := loopAt Tryz.f162 1
noncomputable def sp_r2Raw_1 (x : (Int × (List UInt8))) : Option ((Int × (List UInt8)) ⊕ ((List UInt8))) := (stepL Tryz.prog (lookT ct_r2Raw) kp_r2Raw (loopsT []) 0 false b_r2Raw_1 (codP [pI, pS]) (exO (.ext 2) (codP [pS])) x).run
noncomputable def w_r2Raw_1 : (Int × (List UInt8)) → Option ((List UInt8)) := whileO sp_r2Raw_1
theorem ew_r2Raw_1 (x : (Int × (List UInt8))) : w_r2Raw_1 x = (sp_r2Raw_1 x).bind (Sum.elim w_r2Raw_1 some) := whileO_eq _ _
noncomputable abbrev l_r2Raw_1 : LT := ltF (codP [pI, pS]) (exO (.ext 2) (codP [pS])) w_r2Raw_1
theorem lo_r2Raw_1 : LoopOk Tryz.prog Tryz.f162.ntmps kp_r2Raw 0 false b_r2Raw_1 l_r2Raw_1 := loopG mixed cs_r2Raw (lps := loopsT []) (by kernel_rfl) (ls := []) (by kernel_rfl) lps_nil
noncomputable def sp_r2Raw_0 (x : (Int × Int × (List UInt8))) : Option ((Int × Int × (List UInt8)) ⊕ (Int × (List UInt8))) := (stepL Tryz.prog (lookT ct_r2Raw) kp_r2Raw (loopsT []) 0 false b_r2Raw_0 (codP [pI, pI, pS]) (exO (.ext 0) (codP [pI, pS])) x).run
noncomputable def w_r2Raw_0 : (Int × Int × (List UInt8)) → Option (Int × (List UInt8)) := whileO sp_r2Raw_0
theorem ew_r2Raw_0 (x : (Int × Int × (List UInt8))) : w_r2Raw_0 x = (sp_r2Raw_0 x).bind (Sum.elim w_r2Raw_0 some) := whileO_eq _ _
noncomputable abbrev l_r2Raw_0 : LT := ltF (codP [pI, pI, pS]) (exO (.ext 0) (codP [pI, pS])) w_r2Raw_0
theorem lo_r2Raw_0 : LoopOk Tryz.prog Tryz.f162.ntmps kp_r2Raw 0 false b_r2Raw_0 l_r2Raw_0 := loopG mixed cs_r2Raw (lps := loopsT []) (by kernel_rfl) (ls := []) (by kernel_rfl) lps_nil
noncomputable def F_r2Raw (x : (Int × Int)) : Option ((List UInt8)) := (evalF Tryz.prog (lookT ct_r2Raw) (kp_r2Raw) (loopsT [(2, l_r2Raw_0), (5, l_r2Raw_1)]) false false Tryz.f162 (codP [pI, pI]) 1 (codP [pS]) x).run
noncomputable abbrev s_r2Raw : SpecT := specF (codP [pI, pI]) 1 (codP [pS]) F_r2Raw
theorem so_r2Raw : SoundT Tryz.prog 162 s_r2Raw := soundG (P := Tryz.prog) mixed (t := ct_r2Raw) cs_r2Raw (f := 162) (fn := Tryz.f162) Tryz.func162 (by kernel_rfl) (by kernel_rfl) (by kernel_rfl) (ls := [b_r2Raw_0, b_r2Raw_1]) (by kernel_rfl) (kp := kp_r2Raw) (lps := loopsT [(2, l_r2Raw_0), (5, l_r2Raw_1)]) (bump := false) (ice := false) (A := (codP [pI, pI])) (n := 1) (R := (codP [pS])) fun _ => (lps_cons l_r2Raw_0 (by kernel_rfl) lo_r2Raw_0 (lps_cons l_r2Raw_1 (by kernel_rfl) lo_r2Raw_1 lps_nil))

theorem es_r2Raw_0 (n w : Int) (s : List UInt8) : sp_r2Raw_0 (n, w, s) = (
  bif decide ((0 : Int) < n) then
    bif decide ([byteI (IntKind.i64.wrap ((48 : Int) + n.tmod (10 : Int)))].length + s.length ≤ (9223372036854775807 : Nat)) then
      some (Sum.inl (IntKind.i64.wrap (n.tdiv (10 : Int)), w, [byteI (IntKind.i64.wrap ((48 : Int) + n.tmod (10 : Int)))] ++ s))
    else none
  else some (Sum.inr (w, s))) := by kernel_rfl

theorem es_r2Raw_1 (w : Int) (s : List UInt8) : sp_r2Raw_1 (w, s) = (
  bif decide ((↑s.length : Int) < w) then bif decide ((1 : Nat) + s.length ≤ (9223372036854775807 : Nat)) then some (Sum.inl (w, [(48 : UInt8)] ++ s)) else none
  else bif decide ((↑s.length : Int) = (0 : Int)) then bif decide ((1 : Nat) + s.length ≤ (9223372036854775807 : Nat)) then some (Sum.inl (w, [(48 : UInt8)] ++ s)) else none else some (Sum.inr s)) := by kernel_rfl

theorem e_r2Raw (n w : Int) : F_r2Raw (n, w) = (
  (w_r2Raw_0 (n, w, [])).bind fun x1 => (w_r2Raw_1 x1).bind fun x2 => some x2) := by kernel_rfl


/-! ### horologe/horologeref16.Check -/
noncomputable abbrev ct_r6Check : List (FuncId × Bool × SpecT) := []
theorem cs_r6Check : AllSound Tryz.prog ct_r6Check := trivial
noncomputable def F_r6Check (x : ((Int × Int × Int × Int × Int))) : Option (Int) := (evalF Tryz.prog (lookT ct_r6Check) (keepT []) (loopsT []) false false Tryz.f58 (codP [pRule]) 1 (codP [pI]) x).run
noncomputable abbrev s_r6Check : SpecT := specF (codP [pRule]) 1 (codP [pI]) F_r6Check
theorem so_r6Check : SoundT Tryz.prog 58 s_r6Check := soundG (P := Tryz.prog) mixed (t := ct_r6Check) cs_r6Check (f := 58) (fn := Tryz.f58) Tryz.func58 (by kernel_rfl) (by kernel_rfl) (by kernel_rfl) (ls := []) (by kernel_rfl) (kp := keepT []) (lps := loopsT []) (bump := false) (ice := false) (A := (codP [pRule])) (n := 1) (R := (codP [pI])) fun _ => lps_nil

theorem e_r6Check (r : Int × Int × Int × Int × Int) : F_r6Check r = (
  bif decide ((-604799 : Int) ≤ r.snd.snd.snd.snd) then
    bif decide (r.fst = (1 : Int)) then
      bif decide (r.snd.snd.snd.snd ≤ (604799 : Int)) then
        bif decide ((1 : Int) ≤ r.snd.snd.snd.fst) then
          bif decide (r.snd.snd.snd.fst ≤ (365 : Int)) then bif decide (r.snd.fst = (0 : Int)) then bif !decide (r.snd.snd.fst = (0 : Int)) then some (1 : Int) else some (0 : Int) else some (1 : Int)
          else some (1 : Int)
        else some (1 : Int)
      else some (1 : Int)
    else
      bif decide (r.fst = (2 : Int)) then
        bif decide (r.snd.snd.snd.snd ≤ (604799 : Int)) then
          bif decide ((0 : Int) ≤ r.snd.snd.snd.fst) then
            bif decide (r.snd.snd.snd.fst ≤ (365 : Int)) then bif decide (r.snd.fst = (0 : Int)) then bif !decide (r.snd.snd.fst = (0 : Int)) then some (1 : Int) else some (0 : Int) else some (1 : Int)
            else some (1 : Int)
          else some (1 : Int)
        else some (1 : Int)
      else
        bif decide (r.fst = (3 : Int)) then
          bif decide (r.snd.snd.snd.snd ≤ (604799 : Int)) then
            bif decide ((1 : Int) ≤ r.snd.fst) then
              bif decide (r.snd.fst ≤ (12 : Int)) then
                bif decide ((1 : Int) ≤ r.snd.snd.fst) then
                  bif decide (r.snd.snd.fst ≤ (5 : Int)) then
                    bif decide ((0 : Int) ≤ r.snd.snd.snd.fst) then bif !decide (r.snd.snd.snd.fst ≤ (6 : Int)) then some (1 : Int) else some (0 : Int) else some (1 : Int)
                  else some (1 : Int)
                else some (1 : Int)
              else some (1 : Int)
            else some (1 : Int)
          else some (1 : Int)
        else some (11 : Int)
  else bif decide (r.fst = (1 : Int)) then some (1 : Int) else bif decide (r.fst = (2 : Int)) then some (1 : Int) else bif decide (r.fst = (3 : Int)) then some (1 : Int) else some (11 : Int)) := by kernel_rfl


/-! ### horologe/horologeref16.Clock -/
noncomputable abbrev ct_r6Clock : List (FuncId × Bool × SpecT) := [(162, false, s_r2Raw)]
theorem cs_r6Clock : AllSound Tryz.prog ct_r6Clock := ⟨so_r2Raw, trivial⟩
noncomputable def F_r6Clock (x : (Int)) : Option ((List UInt8)) := (evalF Tryz.prog (lookT ct_r6Clock) (keepT []) (loopsT []) false false Tryz.f119 (codP [pI]) 1 (codP [pS]) x).run
noncomputable abbrev s_r6Clock : SpecT := specF (codP [pI]) 1 (codP [pS]) F_r6Clock
theorem so_r6Clock : SoundT Tryz.prog 119 s_r6Clock := soundG (P := Tryz.prog) mixed (t := ct_r6Clock) cs_r6Clock (f := 119) (fn := Tryz.f119) Tryz.func119 (by kernel_rfl) (by kernel_rfl) (by kernel_rfl) (ls := []) (by kernel_rfl) (kp := keepT []) (lps := loopsT []) (bump := false) (ice := false) (A := (codP [pI])) (n := 1) (R := (codP [pS])) fun _ => lps_nil

theorem e_r6Clock (t : Int) : F_r6Clock t = (
  bif decide (t < (0 : Int)) then
    (F_r2Raw (IntKind.i64.wrap ((IntKind.i64.wrap ((0 : Int) - t)).tdiv (3600 : Int)), (1 : Int))).bind fun x1 =>
      bif decide ((1 : Nat) + x1.length ≤ (9223372036854775807 : Nat)) then
        bif decide ((IntKind.i64.wrap ((0 : Int) - t)).tmod (3600 : Int) ≠ (0 : Int)) then
          (F_r2Raw ((IntKind.i64.wrap ((IntKind.i64.wrap ((0 : Int) - t)).tdiv (60 : Int))).tmod (60 : Int), (2 : Int))).bind fun x2 =>
            bif decide ((1 : Nat) + x2.length ≤ (9223372036854775807 : Nat)) then
              bif decide (([(45 : UInt8)] ++ x1).length + ([(58 : UInt8)] ++ x2).length ≤ (9223372036854775807 : Nat)) then
                bif decide ((IntKind.i64.wrap ((0 : Int) - t)).tmod (60 : Int) ≠ (0 : Int)) then
                  (F_r2Raw ((IntKind.i64.wrap ((0 : Int) - t)).tmod (60 : Int), (2 : Int))).bind fun x3 =>
                    bif decide ((1 : Nat) + x3.length ≤ (9223372036854775807 : Nat)) then
                      bif decide (([(45 : UInt8)] ++ x1 ++ ([(58 : UInt8)] ++ x2)).length + ([(58 : UInt8)] ++ x3).length ≤ (9223372036854775807 : Nat)) then
                        some ([(45 : UInt8)] ++ x1 ++ ([(58 : UInt8)] ++ x2) ++ ([(58 : UInt8)] ++ x3))
                      else none
                    else none
                else some ([(45 : UInt8)] ++ x1 ++ ([(58 : UInt8)] ++ x2))
              else none
            else none
        else
          bif decide ((IntKind.i64.wrap ((0 : Int) - t)).tmod (60 : Int) ≠ (0 : Int)) then
            (F_r2Raw ((IntKind.i64.wrap ((0 : Int) - t)).tmod (60 : Int), (2 : Int))).bind fun x2 =>
              bif decide ((1 : Nat) + x2.length ≤ (9223372036854775807 : Nat)) then
                bif decide (([(45 : UInt8)] ++ x1).length + ([(58 : UInt8)] ++ x2).length ≤ (9223372036854775807 : Nat)) then some ([(45 : UInt8)] ++ x1 ++ ([(58 : UInt8)] ++ x2)) else none
              else none
          else some ([(45 : UInt8)] ++ x1)
      else none
  else
    (F_r2Raw (IntKind.i64.wrap (t.tdiv (3600 : Int)), (1 : Int))).bind fun x1 =>
      bif decide ((0 : Nat) + x1.length ≤ (9223372036854775807 : Nat)) then
        bif decide (t.tmod (3600 : Int) ≠ (0 : Int)) then
          (F_r2Raw ((IntKind.i64.wrap (t.tdiv (60 : Int))).tmod (60 : Int), (2 : Int))).bind fun x2 =>
            bif decide ((1 : Nat) + x2.length ≤ (9223372036854775807 : Nat)) then
              bif decide (([] ++ x1).length + ([(58 : UInt8)] ++ x2).length ≤ (9223372036854775807 : Nat)) then
                bif decide (t.tmod (60 : Int) ≠ (0 : Int)) then
                  (F_r2Raw (t.tmod (60 : Int), (2 : Int))).bind fun x3 =>
                    bif decide ((1 : Nat) + x3.length ≤ (9223372036854775807 : Nat)) then
                      bif decide (([] ++ x1 ++ ([(58 : UInt8)] ++ x2)).length + ([(58 : UInt8)] ++ x3).length ≤ (9223372036854775807 : Nat)) then
                        some ([] ++ x1 ++ ([(58 : UInt8)] ++ x2) ++ ([(58 : UInt8)] ++ x3))
                      else none
                    else none
                else some ([] ++ x1 ++ ([(58 : UInt8)] ++ x2))
              else none
            else none
        else
          bif decide (t.tmod (60 : Int) ≠ (0 : Int)) then
            (F_r2Raw (t.tmod (60 : Int), (2 : Int))).bind fun x2 =>
              bif decide ((1 : Nat) + x2.length ≤ (9223372036854775807 : Nat)) then
                bif decide (([] ++ x1).length + ([(58 : UInt8)] ++ x2).length ≤ (9223372036854775807 : Nat)) then some ([] ++ x1 ++ ([(58 : UInt8)] ++ x2)) else none
              else none
          else some ([] ++ x1)
      else none) := by kernel_rfl





/-! ### horologe/horologeref16.Put -/
noncomputable abbrev ct_r6Put : List (FuncId × Bool × SpecT) := [(162, false, s_r2Raw), (119, false, s_r6Clock)]
theorem cs_r6Put : AllSound Tryz.prog ct_r6Put := ⟨so_r2Raw, so_r6Clock, trivial⟩
noncomputable def F_r6Put (x : ((Int × Int × Int × Int × Int))) : Option ((List UInt8)) := (evalF Tryz.prog (lookT ct_r6Put) (keepT []) (loopsT []) false false Tryz.f120 (codP [pRule]) 1 (codP [pS]) x).run
noncomputable abbrev s_r6Put : SpecT := specF (codP [pRule]) 1 (codP [pS]) F_r6Put
theorem so_r6Put : SoundT Tryz.prog 120 s_r6Put := soundG (P := Tryz.prog) mixed (t := ct_r6Put) cs_r6Put (f := 120) (fn := Tryz.f120) Tryz.func120 (by kernel_rfl) (by kernel_rfl) (by kernel_rfl) (ls := []) (by kernel_rfl) (kp := keepT []) (lps := loopsT []) (bump := false) (ice := false) (A := (codP [pRule])) (n := 1) (R := (codP [pS])) fun _ => lps_nil

theorem e_r6Put (r : Int × Int × Int × Int × Int) : F_r6Put r = (
  (F_r2Raw (r.snd.snd.snd.fst, (1 : Int))).bind fun x1 =>
    bif decide (r.fst = (1 : Int)) then
      bif decide ((1 : Nat) + x1.length ≤ (9223372036854775807 : Nat)) then
        bif decide (r.fst = (3 : Int)) then
          (F_r2Raw (r.snd.fst, (1 : Int))).bind fun x2 =>
            bif decide ((1 : Nat) + x2.length ≤ (9223372036854775807 : Nat)) then
              bif decide (([(77 : UInt8)] ++ x2).length + (1 : Nat) ≤ (9223372036854775807 : Nat)) then
                (F_r2Raw (r.snd.snd.fst, (1 : Int))).bind fun x3 =>
                  bif decide (([(77 : UInt8)] ++ x2 ++ [(46 : UInt8)]).length + x3.length ≤ (9223372036854775807 : Nat)) then
                    bif decide (([(77 : UInt8)] ++ x2 ++ [(46 : UInt8)] ++ x3).length + (1 : Nat) ≤ (9223372036854775807 : Nat)) then
                      bif decide (([(77 : UInt8)] ++ x2 ++ [(46 : UInt8)] ++ x3 ++ [(46 : UInt8)]).length + ([(74 : UInt8)] ++ x1).length ≤ (9223372036854775807 : Nat)) then
                        bif decide (r.snd.snd.snd.snd ≠ (7200 : Int)) then
                          (F_r6Clock r.snd.snd.snd.snd).bind fun x4 =>
                            bif decide ((1 : Nat) + x4.length ≤ (9223372036854775807 : Nat)) then
                              bif
                                  decide
                                    (([(77 : UInt8)] ++ x2 ++ [(46 : UInt8)] ++ x3 ++ [(46 : UInt8)] ++ ([(74 : UInt8)] ++ x1)).length + ([(47 : UInt8)] ++ x4).length ≤ (9223372036854775807 : Nat)) then
                                some ([(77 : UInt8)] ++ x2 ++ [(46 : UInt8)] ++ x3 ++ [(46 : UInt8)] ++ ([(74 : UInt8)] ++ x1) ++ ([(47 : UInt8)] ++ x4))
                              else none
                            else none
                        else some ([(77 : UInt8)] ++ x2 ++ [(46 : UInt8)] ++ x3 ++ [(46 : UInt8)] ++ ([(74 : UInt8)] ++ x1))
                      else none
                    else none
                  else none
              else none
            else none
        else
          bif decide (r.snd.snd.snd.snd ≠ (7200 : Int)) then
            (F_r6Clock r.snd.snd.snd.snd).bind fun x2 =>
              bif decide ((1 : Nat) + x2.length ≤ (9223372036854775807 : Nat)) then
                bif decide (([(74 : UInt8)] ++ x1).length + ([(47 : UInt8)] ++ x2).length ≤ (9223372036854775807 : Nat)) then some ([(74 : UInt8)] ++ x1 ++ ([(47 : UInt8)] ++ x2)) else none
              else none
          else some ([(74 : UInt8)] ++ x1)
      else none
    else
      bif decide (r.fst = (3 : Int)) then
        (F_r2Raw (r.snd.fst, (1 : Int))).bind fun x2 =>
          bif decide ((1 : Nat) + x2.length ≤ (9223372036854775807 : Nat)) then
            bif decide (([(77 : UInt8)] ++ x2).length + (1 : Nat) ≤ (9223372036854775807 : Nat)) then
              (F_r2Raw (r.snd.snd.fst, (1 : Int))).bind fun x3 =>
                bif decide (([(77 : UInt8)] ++ x2 ++ [(46 : UInt8)]).length + x3.length ≤ (9223372036854775807 : Nat)) then
                  bif decide (([(77 : UInt8)] ++ x2 ++ [(46 : UInt8)] ++ x3).length + (1 : Nat) ≤ (9223372036854775807 : Nat)) then
                    bif decide (([(77 : UInt8)] ++ x2 ++ [(46 : UInt8)] ++ x3 ++ [(46 : UInt8)]).length + x1.length ≤ (9223372036854775807 : Nat)) then
                      bif decide (r.snd.snd.snd.snd ≠ (7200 : Int)) then
                        (F_r6Clock r.snd.snd.snd.snd).bind fun x4 =>
                          bif decide ((1 : Nat) + x4.length ≤ (9223372036854775807 : Nat)) then
                            bif decide (([(77 : UInt8)] ++ x2 ++ [(46 : UInt8)] ++ x3 ++ [(46 : UInt8)] ++ x1).length + ([(47 : UInt8)] ++ x4).length ≤ (9223372036854775807 : Nat)) then
                              some ([(77 : UInt8)] ++ x2 ++ [(46 : UInt8)] ++ x3 ++ [(46 : UInt8)] ++ x1 ++ ([(47 : UInt8)] ++ x4))
                            else none
                          else none
                      else some ([(77 : UInt8)] ++ x2 ++ [(46 : UInt8)] ++ x3 ++ [(46 : UInt8)] ++ x1)
                    else none
                  else none
                else none
            else none
          else none
      else
        bif decide (r.snd.snd.snd.snd ≠ (7200 : Int)) then
          (F_r6Clock r.snd.snd.snd.snd).bind fun x2 =>
            bif decide ((1 : Nat) + x2.length ≤ (9223372036854775807 : Nat)) then
              bif decide (x1.length + ([(47 : UInt8)] ++ x2).length ≤ (9223372036854775807 : Nat)) then some (x1 ++ ([(47 : UInt8)] ++ x2)) else none
            else none
        else some x1) := by kernel_rfl



/-! ### horologe/horologeref17.letter -/
noncomputable abbrev ct_r7letter : List (FuncId × Bool × SpecT) := []
theorem cs_r7letter : AllSound Tryz.prog ct_r7letter := trivial
noncomputable def F_r7letter (x : (UInt8)) : Option (Bool) := (evalF Tryz.prog (lookT ct_r7letter) (keepT []) (loopsT []) false false Tryz.f98 (codP [pU]) 1 (codP [pB]) x).run
noncomputable abbrev s_r7letter : SpecT := specF (codP [pU]) 1 (codP [pB]) F_r7letter
theorem so_r7letter : SoundT Tryz.prog 98 s_r7letter := soundG (P := Tryz.prog) mixed (t := ct_r7letter) cs_r7letter (f := 98) (fn := Tryz.f98) Tryz.func98 (by kernel_rfl) (by kernel_rfl) (by kernel_rfl) (ls := []) (by kernel_rfl) (kp := keepT []) (lps := loopsT []) (bump := false) (ice := false) (A := (codP [pU])) (n := 1) (R := (codP [pB])) fun _ => lps_nil

theorem e_r7letter (b : UInt8) : F_r7letter b = (
  bif decide ((65 : UInt8) ≤ b) then bif decide (b ≤ (90 : UInt8)) then some true else bif decide ((97 : UInt8) ≤ b) then some (decide (b ≤ (122 : UInt8))) else some false
  else bif decide ((97 : UInt8) ≤ b) then some (decide (b ≤ (122 : UInt8))) else some false) := by kernel_rfl


/-! ### horologe/horologeref17.figure -/
noncomputable abbrev ct_r7figure : List (FuncId × Bool × SpecT) := []
theorem cs_r7figure : AllSound Tryz.prog ct_r7figure := trivial
noncomputable def F_r7figure (x : (UInt8)) : Option (Bool) := (evalF Tryz.prog (lookT ct_r7figure) (keepT []) (loopsT []) false false Tryz.f99 (codP [pU]) 1 (codP [pB]) x).run
noncomputable abbrev s_r7figure : SpecT := specF (codP [pU]) 1 (codP [pB]) F_r7figure
theorem so_r7figure : SoundT Tryz.prog 99 s_r7figure := soundG (P := Tryz.prog) mixed (t := ct_r7figure) cs_r7figure (f := 99) (fn := Tryz.f99) Tryz.func99 (by kernel_rfl) (by kernel_rfl) (by kernel_rfl) (ls := []) (by kernel_rfl) (kp := keepT []) (lps := loopsT []) (bump := false) (ice := false) (A := (codP [pU])) (n := 1) (R := (codP [pB])) fun _ => lps_nil

theorem e_r7figure (b : UInt8) : F_r7figure b = (
  bif decide ((48 : UInt8) ≤ b) then some (decide (b ≤ (57 : UInt8))) else some false) := by kernel_rfl


/-! ### horologe/horologeref17.Name -/
noncomputable abbrev ct_r7Name : List (FuncId × Bool × SpecT) := [(98, false, s_r7letter), (99, false, s_r7figure)]
theorem cs_r7Name : AllSound Tryz.prog ct_r7Name := ⟨so_r7letter, so_r7figure, trivial⟩
-- loop 0 (key 2) exit 0: [0, 3]
-- loop 0 (key 2) exit 2: [2]
-- loop 0 (key 2) exit 3: [0]
abbrev kp_r7Name : Keep := keepT [(2, 0, [(0, none), (3, none)]), (2, 2, [(2, none)]), (2, 3, [(0, none)])]
noncomputable abbrev b_r7Name_0 : Code := loopAt Tryz.f53 0
noncomputable def sp_r7Name_0 (x : ((List UInt8) × Int)) : Option (((List UInt8) × Int) ⊕ ((Bool) ⊕ ((List UInt8)))) := (stepL Tryz.prog (lookT ct_r7Name) kp_r7Name (loopsT []) 0 false b_r7Name_0 (codP [pS, pI]) (exS (exO .ret (codP [pB])) (exO (.ext 0) (codP [pS]))) x).run
noncomputable def w_r7Name_0 : ((List UInt8) × Int) → Option ((Bool) ⊕ ((List UInt8))) := whileO sp_r7Name_0
theorem ew_r7Name_0 (x : ((List UInt8) × Int)) : w_r7Name_0 x = (sp_r7Name_0 x).bind (Sum.elim w_r7Name_0 some) := whileO_eq _ _
noncomputable abbrev l_r7Name_0 : LT := ltF (codP [pS, pI]) (exS (exO .ret (codP [pB])) (exO (.ext 0) (codP [pS]))) w_r7Name_0
theorem lo_r7Name_0 : LoopOk Tryz.prog Tryz.f53.ntmps kp_r7Name 0 false b_r7Name_0 l_r7Name_0 := loopG mixed cs_r7Name (lps := loopsT []) (by kernel_rfl) (ls := []) (by kernel_rfl) lps_nil
noncomputable def F_r7Name (x : ((List UInt8))) : Option (Bool) := (evalF Tryz.prog (lookT ct_r7Name) (kp_r7Name) (loopsT [(2, l_r7Name_0)]) false false Tryz.f53 (codP [pS]) 1 (codP [pB]) x).run
noncomputable abbrev s_r7Name : SpecT := specF (codP [pS]) 1 (codP [pB]) F_r7Name
theorem so_r7Name : SoundT Tryz.prog 53 s_r7Name := soundG (P := Tryz.prog) mixed (t := ct_r7Name) cs_r7Name (f := 53) (fn := Tryz.f53) Tryz.func53 (by kernel_rfl) (by kernel_rfl) (by kernel_rfl) (ls := [b_r7Name_0]) (by kernel_rfl) (kp := kp_r7Name) (lps := loopsT [(2, l_r7Name_0)]) (bump := false) (ice := false) (A := (codP [pS])) (n := 1) (R := (codP [pB])) fun _ => (lps_cons l_r7Name_0 (by kernel_rfl) lo_r7Name_0 lps_nil)

theorem es_r7Name_0 (s : List UInt8) (i : Int) : sp_r7Name_0 (s, i) = (
  bif decide (i < (↑s.length : Int)) then
    (getI s i).bind fun x1 =>
      (F_r7letter x1).bind fun x2 =>
        bif !x2 then
          (getI s i).bind fun x3 =>
            (F_r7figure x3).bind fun x4 =>
              bif !x4 then
                (getI s i).bind fun x5 =>
                  bif decide (x5 ≠ (43 : UInt8)) then
                    (getI s i).bind fun x6 => bif decide (x6 ≠ (45 : UInt8)) then some (Sum.inr (Sum.inl false)) else some (Sum.inl (s, IntKind.i64.wrap (i + (1 : Int))))
                  else some (Sum.inl (s, IntKind.i64.wrap (i + (1 : Int))))
              else some (Sum.inl (s, IntKind.i64.wrap (i + (1 : Int))))
        else some (Sum.inl (s, IntKind.i64.wrap (i + (1 : Int))))
  else some (Sum.inr (Sum.inr s))) := by kernel_rfl

theorem e_r7Name (s : List UInt8) : F_r7Name s = (
  (w_r7Name_0 (s, (0 : Int))).bind fun x1 => Sum.elim (fun x2 => some x2) (fun x2 => bif decide ((3 : Int) ≤ (↑x2.length : Int)) then some (decide ((↑x2.length : Int) ≤ (16 : Int))) else some false) x1) := by kernel_rfl


/-! ### horologe/horologeref17.Check -/
noncomputable abbrev ct_r7Check : List (FuncId × Bool × SpecT) := [(53, false, s_r7Name), (58, false, s_r6Check)]
theorem cs_r7Check : AllSound Tryz.prog ct_r7Check := ⟨so_r7Name, so_r6Check, trivial⟩
noncomputable def F_r7Check (x : ((List UInt8 × List UInt8 × Int × Int × (Int × Int × Int × Int × Int) × (Int × Int × Int × Int × Int)))) : Option (Int) := (evalF Tryz.prog (lookT ct_r7Check) (keepT []) (loopsT []) false false Tryz.f21 (codP [pPlan]) 1 (codP [pI]) x).run
noncomputable abbrev s_r7Check : SpecT := specF (codP [pPlan]) 1 (codP [pI]) F_r7Check
theorem so_r7Check : SoundT Tryz.prog 21 s_r7Check := soundG (P := Tryz.prog) mixed (t := ct_r7Check) cs_r7Check (f := 21) (fn := Tryz.f21) Tryz.func21 (by kernel_rfl) (by kernel_rfl) (by kernel_rfl) (ls := []) (by kernel_rfl) (kp := keepT []) (lps := loopsT []) (bump := false) (ice := false) (A := (codP [pPlan])) (n := 1) (R := (codP [pI])) fun _ => lps_nil

theorem e_r7Check (p : List UInt8 × List UInt8 × Int × Int × (Int × Int × Int × Int × Int) × (Int × Int × Int × Int × Int)) : F_r7Check p = (
  (F_r7Name p.fst).bind fun x1 =>
    bif !x1 then some (2 : Int)
    else
      bif decide ((↑(List.length p.snd.fst) : Int) = (0 : Int)) then
        bif decide (p.snd.snd.snd.fst ≠ (0 : Int)) then some (2 : Int)
        else
          bif
              !(decide (p.snd.snd.snd.snd.fst.fst = (0 : Int)) &&
                  (decide (p.snd.snd.snd.snd.fst.snd.fst = (0 : Int)) &&
                    (decide (p.snd.snd.snd.snd.fst.snd.snd.fst = (0 : Int)) &&
                      (decide (p.snd.snd.snd.snd.fst.snd.snd.snd.fst = (0 : Int)) && (decide (p.snd.snd.snd.snd.fst.snd.snd.snd.snd = (0 : Int)) && true))))) then
            some (2 : Int)
          else
            bif
                !(decide (p.snd.snd.snd.snd.snd.fst = (0 : Int)) &&
                    (decide (p.snd.snd.snd.snd.snd.snd.fst = (0 : Int)) &&
                      (decide (p.snd.snd.snd.snd.snd.snd.snd.fst = (0 : Int)) &&
                        (decide (p.snd.snd.snd.snd.snd.snd.snd.snd.fst = (0 : Int)) && (decide (p.snd.snd.snd.snd.snd.snd.snd.snd.snd = (0 : Int)) && true))))) then
              some (2 : Int)
            else
              bif decide ((0 : Int) < (↑(List.length p.snd.fst) : Int)) then
                (F_r7Name p.snd.fst).bind fun x2 =>
                  bif !x2 then some (2 : Int)
                  else
                    bif decide (p.snd.snd.fst < (-89999 : Int)) then some (1 : Int)
                    else
                      bif decide ((89999 : Int) < p.snd.snd.fst) then some (1 : Int)
                      else
                        bif decide (p.snd.snd.snd.fst < (-89999 : Int)) then some (1 : Int)
                        else
                          bif decide ((89999 : Int) < p.snd.snd.snd.fst) then some (1 : Int)
                          else
                            bif decide ((↑(List.length p.snd.fst) : Int) = (0 : Int)) then some (0 : Int)
                            else (F_r6Check p.snd.snd.snd.snd.fst).bind fun x3 => bif decide (x3 ≠ (0 : Int)) then some x3 else (F_r6Check p.snd.snd.snd.snd.snd).bind fun x4 => some x4
              else
                bif decide (p.snd.snd.fst < (-89999 : Int)) then some (1 : Int)
                else
                  bif decide ((89999 : Int) < p.snd.snd.fst) then some (1 : Int)
                  else
                    bif decide (p.snd.snd.snd.fst < (-89999 : Int)) then some (1 : Int)
                    else
                      bif decide ((89999 : Int) < p.snd.snd.snd.fst) then some (1 : Int)
                      else
                        bif decide ((↑(List.length p.snd.fst) : Int) = (0 : Int)) then some (0 : Int)
                        else (F_r6Check p.snd.snd.snd.snd.fst).bind fun x2 => bif decide (x2 ≠ (0 : Int)) then some x2 else (F_r6Check p.snd.snd.snd.snd.snd).bind fun x3 => some x3
      else
        bif decide ((0 : Int) < (↑(List.length p.snd.fst) : Int)) then
          (F_r7Name p.snd.fst).bind fun x2 =>
            bif !x2 then some (2 : Int)
            else
              bif decide (p.snd.snd.fst < (-89999 : Int)) then some (1 : Int)
              else
                bif decide ((89999 : Int) < p.snd.snd.fst) then some (1 : Int)
                else
                  bif decide (p.snd.snd.snd.fst < (-89999 : Int)) then some (1 : Int)
                  else
                    bif decide ((89999 : Int) < p.snd.snd.snd.fst) then some (1 : Int)
                    else
                      bif decide ((↑(List.length p.snd.fst) : Int) = (0 : Int)) then some (0 : Int)
                      else (F_r6Check p.snd.snd.snd.snd.fst).bind fun x3 => bif decide (x3 ≠ (0 : Int)) then some x3 else (F_r6Check p.snd.snd.snd.snd.snd).bind fun x4 => some x4
        else
          bif decide (p.snd.snd.fst < (-89999 : Int)) then some (1 : Int)
          else
            bif decide ((89999 : Int) < p.snd.snd.fst) then some (1 : Int)
            else
              bif decide (p.snd.snd.snd.fst < (-89999 : Int)) then some (1 : Int)
              else
                bif decide ((89999 : Int) < p.snd.snd.snd.fst) then some (1 : Int)
                else
                  bif decide ((↑(List.length p.snd.fst) : Int) = (0 : Int)) then some (0 : Int)
                  else (F_r6Check p.snd.snd.snd.snd.fst).bind fun x2 => bif decide (x2 ≠ (0 : Int)) then some x2 else (F_r6Check p.snd.snd.snd.snd.snd).bind fun x3 => some x3) := by kernel_rfl


/-! ### horologe/horologeref17.quoted -/
noncomputable abbrev ct_r7quoted : List (FuncId × Bool × SpecT) := [(98, false, s_r7letter)]
theorem cs_r7quoted : AllSound Tryz.prog ct_r7quoted := ⟨so_r7letter, trivial⟩
-- loop 0 (key 2) exit 0: [0, 3]
-- loop 0 (key 2) exit 2: [2]
-- loop 0 (key 2) exit 3: [0]
abbrev kp_r7quoted : Keep := keepT [(2, 0, [(0, none), (3, none)]), (2, 2, [(2, none)]), (2, 3, [(0, none)])]
noncomputable abbrev b_r7quoted_0 : Code := loopAt Tryz.f118 0
noncomputable def sp_r7quoted_0 (x : ((List UInt8) × Int)) : Option (((List UInt8) × Int) ⊕ (((List UInt8)) ⊕ ((List UInt8)))) := (stepL Tryz.prog (lookT ct_r7quoted) kp_r7quoted (loopsT []) 0 false b_r7quoted_0 (codP [pS, pI]) (exS (exO .ret (codP [pS])) (exO (.ext 0) (codP [pS]))) x).run
noncomputable def w_r7quoted_0 : ((List UInt8) × Int) → Option (((List UInt8)) ⊕ ((List UInt8))) := whileO sp_r7quoted_0
theorem ew_r7quoted_0 (x : ((List UInt8) × Int)) : w_r7quoted_0 x = (sp_r7quoted_0 x).bind (Sum.elim w_r7quoted_0 some) := whileO_eq _ _
noncomputable abbrev l_r7quoted_0 : LT := ltF (codP [pS, pI]) (exS (exO .ret (codP [pS])) (exO (.ext 0) (codP [pS]))) w_r7quoted_0
theorem lo_r7quoted_0 : LoopOk Tryz.prog Tryz.f118.ntmps kp_r7quoted 0 false b_r7quoted_0 l_r7quoted_0 := loopG mixed cs_r7quoted (lps := loopsT []) (by kernel_rfl) (ls := []) (by kernel_rfl) lps_nil
noncomputable def F_r7quoted (x : ((List UInt8))) : Option ((List UInt8)) := (evalF Tryz.prog (lookT ct_r7quoted) (kp_r7quoted) (loopsT [(2, l_r7quoted_0)]) false false Tryz.f118 (codP [pS]) 1 (codP [pS]) x).run
noncomputable abbrev s_r7quoted : SpecT := specF (codP [pS]) 1 (codP [pS]) F_r7quoted
theorem so_r7quoted : SoundT Tryz.prog 118 s_r7quoted := soundG (P := Tryz.prog) mixed (t := ct_r7quoted) cs_r7quoted (f := 118) (fn := Tryz.f118) Tryz.func118 (by kernel_rfl) (by kernel_rfl) (by kernel_rfl) (ls := [b_r7quoted_0]) (by kernel_rfl) (kp := kp_r7quoted) (lps := loopsT [(2, l_r7quoted_0)]) (bump := false) (ice := false) (A := (codP [pS])) (n := 1) (R := (codP [pS])) fun _ => (lps_cons l_r7quoted_0 (by kernel_rfl) lo_r7quoted_0 lps_nil)

theorem es_r7quoted_0 (s : List UInt8) (i : Int) : sp_r7quoted_0 (s, i) = (
  bif decide (i < (↑s.length : Int)) then
    (getI s i).bind fun x1 =>
      (F_r7letter x1).bind fun x2 =>
        bif !x2 then
          bif decide ((1 : Nat) + s.length ≤ (9223372036854775807 : Nat)) then
            bif decide (([(60 : UInt8)] ++ s).length + (1 : Nat) ≤ (9223372036854775807 : Nat)) then some (Sum.inr (Sum.inl ([(60 : UInt8)] ++ s ++ [(62 : UInt8)]))) else none
          else none
        else some (Sum.inl (s, IntKind.i64.wrap (i + (1 : Int))))
  else some (Sum.inr (Sum.inr s))) := by kernel_rfl

theorem e_r7quoted (s : List UInt8) : F_r7quoted s = (
  (w_r7quoted_0 (s, (0 : Int))).bind fun x1 => Sum.elim (fun x2 => some x2) (fun x2 => some x2) x1) := by kernel_rfl


/-! ### horologe/horologeref17.Put -/
noncomputable abbrev ct_r7Put : List (FuncId × Bool × SpecT) := [(118, false, s_r7quoted), (119, false, s_r6Clock), (120, false, s_r6Put)]
theorem cs_r7Put : AllSound Tryz.prog ct_r7Put := ⟨so_r7quoted, so_r6Clock, so_r6Put, trivial⟩
noncomputable def F_r7Put (x : ((List UInt8 × List UInt8 × Int × Int × (Int × Int × Int × Int × Int) × (Int × Int × Int × Int × Int)))) : Option ((List UInt8)) := (evalF Tryz.prog (lookT ct_r7Put) (keepT []) (loopsT []) false false Tryz.f77 (codP [pPlan]) 1 (codP [pS]) x).run
noncomputable abbrev s_r7Put : SpecT := specF (codP [pPlan]) 1 (codP [pS]) F_r7Put
theorem so_r7Put : SoundT Tryz.prog 77 s_r7Put := soundG (P := Tryz.prog) mixed (t := ct_r7Put) cs_r7Put (f := 77) (fn := Tryz.f77) Tryz.func77 (by kernel_rfl) (by kernel_rfl) (by kernel_rfl) (ls := []) (by kernel_rfl) (kp := keepT []) (lps := loopsT []) (bump := false) (ice := false) (A := (codP [pPlan])) (n := 1) (R := (codP [pS])) fun _ => lps_nil

theorem e_r7Put (p : List UInt8 × List UInt8 × Int × Int × (Int × Int × Int × Int × Int) × (Int × Int × Int × Int × Int)) : F_r7Put p = (
  (F_r7quoted p.fst).bind fun x1 =>
    (F_r6Clock (IntKind.i64.wrap ((0 : Int) - p.snd.snd.fst))).bind fun x2 =>
      bif decide (x1.length + x2.length ≤ (9223372036854775807 : Nat)) then
        bif decide ((↑(List.length p.snd.fst) : Int) = (0 : Int)) then some (x1 ++ x2)
        else
          (F_r7quoted p.snd.fst).bind fun x3 =>
            bif decide ((x1 ++ x2).length + x3.length ≤ (9223372036854775807 : Nat)) then
              bif decide (IntKind.i64.wrap (p.snd.snd.snd.fst - p.snd.snd.fst) ≠ (3600 : Int)) then
                (F_r6Clock (IntKind.i64.wrap ((0 : Int) - p.snd.snd.snd.fst))).bind fun x4 =>
                  bif decide ((x1 ++ x2 ++ x3).length + x4.length ≤ (9223372036854775807 : Nat)) then
                    bif decide ((x1 ++ x2 ++ x3 ++ x4).length + (1 : Nat) ≤ (9223372036854775807 : Nat)) then
                      (F_r6Put p.snd.snd.snd.snd.fst).bind fun x5 =>
                        bif decide ((x1 ++ x2 ++ x3 ++ x4 ++ [(44 : UInt8)]).length + x5.length ≤ (9223372036854775807 : Nat)) then
                          bif decide ((x1 ++ x2 ++ x3 ++ x4 ++ [(44 : UInt8)] ++ x5).length + (1 : Nat) ≤ (9223372036854775807 : Nat)) then
                            (F_r6Put p.snd.snd.snd.snd.snd).bind fun x6 =>
                              bif decide ((x1 ++ x2 ++ x3 ++ x4 ++ [(44 : UInt8)] ++ x5 ++ [(44 : UInt8)]).length + x6.length ≤ (9223372036854775807 : Nat)) then
                                some (x1 ++ x2 ++ x3 ++ x4 ++ [(44 : UInt8)] ++ x5 ++ [(44 : UInt8)] ++ x6)
                              else none
                          else none
                        else none
                    else none
                  else none
              else
                bif decide ((x1 ++ x2 ++ x3).length + (1 : Nat) ≤ (9223372036854775807 : Nat)) then
                  (F_r6Put p.snd.snd.snd.snd.fst).bind fun x4 =>
                    bif decide ((x1 ++ x2 ++ x3 ++ [(44 : UInt8)]).length + x4.length ≤ (9223372036854775807 : Nat)) then
                      bif decide ((x1 ++ x2 ++ x3 ++ [(44 : UInt8)] ++ x4).length + (1 : Nat) ≤ (9223372036854775807 : Nat)) then
                        (F_r6Put p.snd.snd.snd.snd.snd).bind fun x5 =>
                          bif decide ((x1 ++ x2 ++ x3 ++ [(44 : UInt8)] ++ x4 ++ [(44 : UInt8)]).length + x5.length ≤ (9223372036854775807 : Nat)) then
                            some (x1 ++ x2 ++ x3 ++ [(44 : UInt8)] ++ x4 ++ [(44 : UInt8)] ++ x5)
                          else none
                      else none
                    else none
                else none
            else none
      else none) := by kernel_rfl



end Go.Sm
/- Plain Lean: clocks and rules as the program reads them. -/
set_option linter.unusedVariables false
set_option linter.unusedSimpArgs false
namespace Go.Sm
open Go.Proofs

theorem ruleIn (x l h : Int) : F_ruleIn (x, l, h) = some (decide (l ≤ x ∧ x ≤ h)) := by
  rw [e_ruleIn, cond_dec]
  by_cases h1 : l ≤ x <;> simp [h1]
theorem scNew (s : List UInt8) : F_scNew s = some (sc s s 0, ()) := by
  rw [e_scNew]
  unfold sc
  simp
theorem fgV_nn (l m : Nat) (r : List UInt8) (e : Int) (k : Nat) (hk : m ≤ k) : 0 ≤ fgV l m r e ∧ fgV l m r e < 10 ^ k := by
  have := figNum_lt m r k (by simpa using hk)
  have h10 : (0 : Int) < 10 ^ k := Int.pow_pos (by omega)
  unfold fgV
  split
  · constructor
    · omega
    · exact_mod_cast this
  · exact ⟨by omega, h10⟩
theorem tk_false {b : UInt8} {r : List UInt8} {e : Int} (h : tkB b r e = false) : tk b r e = r := by
  unfold tk
  rw [h]
  rfl
/-- A colon and two figures: what is left, the error, the number, whether the colon stood there. -/
def pt (r : List UInt8) (e : Int) : List UInt8 × Int × Int × Bool :=
  if tkB 58 r e then (fgR 2 2 (tk 58 r e) e, fgE 2 2 (tk 58 r e) e, fgV 2 2 (tk 58 r e) e, true) else (r, e, 0, false)
theorem suf_pt {t r : List UInt8} {e : Int} (h : r <:+ t) : (pt r e).1 <:+ t := by
  unfold pt
  split
  · exact suf_fgR _ _ (suf_tk _ h)
  · exact h
theorem pt_range (r : List UInt8) (e : Int) : 0 ≤ (pt r e).2.2.1 ∧ (pt r e).2.2.1 < 100 := by
  unfold pt
  split
  · exact fgV_nn 2 2 _ _ 2 (by omega)
  · exact ⟨by simp, by simp⟩
theorem rulePart {t r : List UInt8} {e : Int} (h : r <:+ t) (ht : small t) : F_rulePart (sc t r e, ()) = some (sc t (pt r e).1 (pt r e).2.1, (pt r e).2.2) := by
  have hf := scFigures (e := e) (suf_tk 58 (e := e) h) ht 2 2 (by omega) (by omega) (by omega)
  rw [show ((2 : Nat) : Int) = 2 from rfl] at hf
  rw [e_rulePart, scTake h ht]
  simp only [Option.bind_some]
  unfold pt
  cases hb : tkB 58 r e with
  | true =>
    simp only [Bool.not_true, cond_false]
    rw [hf]
    rfl
  | false =>
    rw [tk_false hb]
    rfl
/-- A clock's text: sign, hours, minutes, seconds. -/
def clkR (s : List UInt8) : List UInt8 := if tkB 45 s 0 then tk 45 s 0 else tk 43 s 0
def clkA (s : List UInt8) : List UInt8 × Int × Int := (fgR 1 3 (clkR s) 0, fgE 1 3 (clkR s) 0, fgV 1 3 (clkR s) 0)
def clkB (s : List UInt8) : List UInt8 × Int × Int × Bool := pt (clkA s).1 (clkA s).2.1
def clkC (s : List UInt8) : List UInt8 × Int × Int × Bool := if (clkB s).2.2.2 then pt (clkB s).1 (clkB s).2.1 else ((clkB s).1, (clkB s).2.1, 0, false)
def clkN (s : List UInt8) : Int := (clkA s).2.2 * 3600 + (clkB s).2.2.1 * 60 + (clkC s).2.2.1
def clk (s : List UInt8) (m : Int) : Int × Int :=
  if (clkC s).2.1 ≠ 0 ∨ (clkC s).1 ≠ [] then (0, 2)
  else if m < (clkA s).2.2 ∨ 60 ≤ (clkB s).2.2.1 ∨ 60 ≤ (clkC s).2.2.1 then (0, 1)
  else (if tkB 45 s 0 then -clkN s else clkN s, 0)
theorem suf_clkR (s : List UInt8) : clkR s <:+ s := by
  unfold clkR
  split
  · exact suf_tk _ (List.suffix_refl s)
  · exact suf_tk _ (List.suffix_refl s)
theorem suf_clkA (s : List UInt8) : (clkA s).1 <:+ s := suf_fgR _ _ (suf_clkR s)
theorem suf_clkB (s : List UInt8) : (clkB s).1 <:+ s := suf_pt (suf_clkA s)
/-- What stands at the end of a clock. -/
def clkEnd (e : Int) (r : List UInt8) : Int := if e ≠ 0 then e else if r = [] then 0 else 2
theorem clkEnd_ne (e : Int) (r : List UInt8) : clkEnd e r ≠ 0 ↔ e ≠ 0 ∨ r ≠ [] := by
  unfold clkEnd
  by_cases h : e = 0
  · by_cases h2 : r = [] <;> simp [h, h2]
  · simp [h]
theorem clk_tail (s : List UInt8) (m : Int) (hA : 0 ≤ (clkA s).2.2 ∧ (clkA s).2.2 < 1000) (hB : 0 ≤ (clkB s).2.2.1 ∧ (clkB s).2.2.1 < 100) (hC : 0 ≤ (clkC s).2.2.1 ∧ (clkC s).2.2.1 < 100) (bl : Bool) (hbl : bl = tkB 45 s 0) :
    (if clkEnd (clkC s).2.1 (clkC s).1 ≠ 0 then some ((0 : Int), (2 : Int))
      else if m < (clkA s).2.2 then some (0, 1) else if 60 ≤ (clkB s).2.2.1 then some (0, 1) else if 60 ≤ (clkC s).2.2.1 then some (0, 1)
      else bif bl then some (IntKind.i64.wrap (0 - IntKind.i64.wrap (IntKind.i64.wrap (IntKind.i64.wrap ((clkA s).2.2 * 3600) + IntKind.i64.wrap ((clkB s).2.2.1 * 60)) + (clkC s).2.2.1)), 0)
      else some (IntKind.i64.wrap (IntKind.i64.wrap (IntKind.i64.wrap ((clkA s).2.2 * 3600) + IntKind.i64.wrap ((clkB s).2.2.1 * 60)) + (clkC s).2.2.1), 0)) = some (clk s m) := by
  subst hbl
  unfold clk clkN
  rw [wrap_i64 (x := (clkA s).2.2 * 3600) (by omega) (by omega), wrap_i64 (x := (clkB s).2.2.1 * 60) (by omega) (by omega), wrap_i64 (x := (clkA s).2.2 * 3600 + (clkB s).2.2.1 * 60) (by omega) (by omega),
    wrap_i64 (x := (clkA s).2.2 * 3600 + (clkB s).2.2.1 * 60 + (clkC s).2.2.1) (by omega) (by omega), wrap_i64 (x := 0 - _) (by omega) (by omega)]
  by_cases h1 : clkEnd (clkC s).2.1 (clkC s).1 ≠ 0
  · rw [if_pos h1, if_pos ((clkEnd_ne _ _).1 h1)]
  · rw [if_neg h1, if_neg (fun h => h1 ((clkEnd_ne _ _).2 h))]
    by_cases h2 : m < (clkA s).2.2
    · rw [if_pos h2, if_pos (.inl h2)]
    · rw [if_neg h2]
      by_cases h3 : 60 ≤ (clkB s).2.2.1
      · rw [if_pos h3, if_pos (.inr (.inl h3))]
      · rw [if_neg h3]
        by_cases h4 : 60 ≤ (clkC s).2.2.1
        · rw [if_pos h4, if_pos (.inr (.inr h4))]
        · rw [if_neg h4, if_neg (by omega)]
          cases tkB 45 s 0
          · rfl
          · simp
theorem ruleParseClock (s : List UInt8) (m : Int) (hs : small s) (h0 : 0 ≤ m) (h1 : m ≤ 999) : F_ruleParseClock (s, m) = some (clk s m) := by
  have hA : 0 ≤ (clkA s).2.2 ∧ (clkA s).2.2 < 1000 := fgV_nn 1 3 _ _ 3 (by omega)
  have hB : 0 ≤ (clkB s).2.2.1 ∧ (clkB s).2.2.1 < 100 := pt_range _ _
  have hC : 0 ≤ (clkC s).2.2.1 ∧ (clkC s).2.2.1 < 100 := by
    unfold clkC
    split
    · exact pt_range _ _
    · exact ⟨by simp, by simp⟩
  have hfig : F_scFigures (sc s (clkR s) 0, (), (1 : Int), (3 : Int)) = some (sc s (clkA s).1 (clkA s).2.1, (clkA s).2.2) := scFigures (suf_clkR s) hs 1 3 (by omega) (by omega) (by omega)
  have hpB : F_rulePart (sc s (clkA s).1 (clkA s).2.1, ()) = some (sc s (clkB s).1 (clkB s).2.1, (clkB s).2.2) := rulePart (suf_clkA s) hs
  have hpC := rulePart (e := (clkB s).2.1) (suf_clkB s) hs
  have htail := fun bl hbl => clk_tail s m hA hB hC bl hbl
  have hend : ∀ r e, r <:+ s → F_scEnd (sc s r e, ()) = some (sc s r e, clkEnd e r) := fun r e h => scEnd h
  rw [e_ruleParseClock, ruleIn]
  simp only [Option.bind_some]
  rw [decide_eq_true ⟨h0, h1⟩]
  simp only [Bool.not_true, cond_false]
  rw [scNew]
  simp only [Option.bind_some]
  rw [scTake (List.suffix_refl s) hs]
  simp only [Option.bind_some]
  cases hb : tkB 45 s 0 with
  | true =>
    have hR : tk 45 s 0 = clkR s := by unfold clkR; rw [hb]; rfl
    have ht := htail true hb.symm
    simp only [Bool.not_true, cond_false, hR, cond_true] at ht ⊢
    rw [hfig]
    simp only [Option.bind_some]
    rw [hpB]
    simp only [Option.bind_some]
    cases hm : (clkB s).2.2.2 with
    | true =>
      have hCe : clkC s = pt (clkB s).1 (clkB s).2.1 := by unfold clkC; rw [hm]; rfl
      rw [← hCe] at hpC
      simp only [cond_true]
      rw [hpC]
      simp only [Option.bind_some]
      rw [hend _ _ (by rw [hCe]; exact suf_pt (suf_clkB s))]
      simp only [Option.bind_some, cond_dec]
      exact ht
    | false =>
      have hCe : clkC s = ((clkB s).1, (clkB s).2.1, 0, false) := by unfold clkC; rw [hm]; rfl
      simp only [cond_false]
      rw [hend _ _ (suf_clkB s)]
      simp only [Option.bind_some, cond_dec]
      rw [hCe] at ht
      simpa using ht
  | false =>
    have hR : tk 43 s 0 = clkR s := by unfold clkR; rw [hb]; rfl
    have ht := htail false hb.symm
    have h43 := scTake (e := 0) (List.suffix_refl s) hs 43
    rw [tk_false hb]
    simp only [Bool.not_false, cond_true, cond_false] at ht ⊢
    rw [h43]
    simp only [Option.bind_some, hR]
    rw [hfig]
    simp only [Option.bind_some]
    rw [hpB]
    simp only [Option.bind_some]
    cases hm : (clkB s).2.2.2 with
    | true =>
      have hCe : clkC s = pt (clkB s).1 (clkB s).2.1 := by unfold clkC; rw [hm]; rfl
      rw [← hCe] at hpC
      simp only [cond_true]
      rw [hpC]
      simp only [Option.bind_some]
      rw [hend _ _ (by rw [hCe]; exact suf_pt (suf_clkB s))]
      simp only [Option.bind_some, cond_dec]
      exact ht
    | false =>
      have hCe : clkC s = ((clkB s).1, (clkB s).2.1, 0, false) := by unfold clkC; rw [hm]; rfl
      simp only [cond_false]
      rw [hend _ _ (suf_clkB s)]
      simp only [Option.bind_some, cond_dec]
      rw [hCe] at ht
      simpa using ht
end Go.Sm
/- Plain Lean: rules: the checks (program and reference), the cut at a byte, weekly rules. -/
set_option linter.unusedVariables false
set_option linter.unusedSimpArgs false
namespace Go.Sm
open Go.Proofs

abbrev may (k m w d : Int) : Prop := (k = 1 ∧ 1 ≤ d ∧ d ≤ 365 ∧ m = 0 ∧ w = 0) ∨ (k = 2 ∧ 0 ≤ d ∧ d ≤ 365 ∧ m = 0 ∧ w = 0) ∨ (k = 3 ∧ 1 ≤ m ∧ m ≤ 12 ∧ 1 ≤ w ∧ w ≤ 5 ∧ 0 ≤ d ∧ d ≤ 6)
/-- What is wrong with a rule. -/
def rck (k m w d t : Int) : Int := if 1 ≤ k ∧ k ≤ 3 then (if may k m w d ∧ -604799 ≤ t ∧ t ≤ 604799 then 0 else 1) else 11
theorem ite_some {α : Type} (p : Prop) [Decidable p] (a b : α) : (if p then some a else some b) = some (if p then a else b) := by
  by_cases h : p <;> simp [h]
theorem ruleMay (k m w d t : Int) (h : 1 ≤ k ∧ k ≤ 3) : F_ruleMay (k, m, w, d, t) = some (decide (may k m w d)) := by
  rw [e_ruleMay]
  show (bif decide (k = 1) then (F_ruleIn (d, 1, 365)).bind fun x1 => bif x1 then bif decide (m = 0) then some (decide (w = 0)) else some false else some false
    else bif decide (k = 2) then (F_ruleIn (d, 0, 365)).bind fun x1 => bif x1 then bif decide (m = 0) then some (decide (w = 0)) else some false else some false
    else (F_ruleIn (m, 1, 12)).bind fun x1 => bif x1 then (F_ruleIn (w, 1, 5)).bind fun x2 => bif x2 then (F_ruleIn (d, 0, 6)).bind fun x3 => some x3 else some false else some false) = some (decide (may k m w d))
  simp only [ruleIn, Option.bind_some, cond_dec, ite_some, Option.some.injEq]
  rw [Bool.eq_iff_iff]
  by_cases h1 : k = 1
  · rw [if_pos h1]
    by_cases hd : 1 ≤ d ∧ d ≤ 365
    · rw [if_pos hd]
      by_cases hm : m = 0
      · rw [if_pos hm, decide_eq_true_eq, decide_eq_true_eq]; omega
      · rw [if_neg hm, decide_eq_true_eq]; simp only [Bool.false_eq_true, false_iff]; omega
    · rw [if_neg hd, decide_eq_true_eq]; simp only [Bool.false_eq_true, false_iff]; omega
  · rw [if_neg h1]
    by_cases h2 : k = 2
    · rw [if_pos h2]
      by_cases hd : 0 ≤ d ∧ d ≤ 365
      · rw [if_pos hd]
        by_cases hm : m = 0
        · rw [if_pos hm, decide_eq_true_eq, decide_eq_true_eq]; omega
        · rw [if_neg hm, decide_eq_true_eq]; simp only [Bool.false_eq_true, false_iff]; omega
      · rw [if_neg hd, decide_eq_true_eq]; simp only [Bool.false_eq_true, false_iff]; omega
    · rw [if_neg h2]
      by_cases hm : 1 ≤ m ∧ m ≤ 12
      · rw [if_pos hm]
        by_cases hw : 1 ≤ w ∧ w ≤ 5
        · rw [if_pos hw, decide_eq_true_eq, decide_eq_true_eq]; omega
        · rw [if_neg hw, decide_eq_true_eq]; simp only [Bool.false_eq_true, false_iff]; omega
      · rw [if_neg hm, decide_eq_true_eq]; simp only [Bool.false_eq_true, false_iff]; omega
theorem ruleCheck (k m w d t : Int) : F_ruleCheck (k, m, w, d, t) = some (rck k m w d t) := by
  rw [e_ruleCheck]
  show ((F_ruleIn (k, 1, 3)).bind fun x1 => bif !x1 then some 11 else (F_ruleMay (k, m, w, d, t)).bind fun x2 => bif !x2 then some 1 else (F_ruleIn (t, -604799, 604799)).bind fun x3 => bif !x3 then some 1 else some 0) = some (rck k m w d t)
  unfold rck
  by_cases h : 1 ≤ k ∧ k ≤ 3
  · rw [ruleMay k m w d t h, ruleIn, ruleIn, decide_eq_true h, if_pos h]
    by_cases h2 : may k m w d
    · by_cases h3 : -604799 ≤ t ∧ t ≤ 604799
      · rw [decide_eq_true h2, decide_eq_true h3, if_pos ⟨h2, h3⟩]; rfl
      · rw [decide_eq_true h2, decide_eq_false h3, if_neg (fun q => h3 q.2)]; rfl
    · rw [decide_eq_false h2, if_neg (fun q => h2 q.1)]; rfl
  · rw [ruleIn, decide_eq_false h, if_neg h]; rfl
theorem r6Check (k m w d t : Int) : F_r6Check (k, m, w, d, t) = some (rck k m w d t) := by
  rw [e_r6Check]
  unfold rck
  simp only [cond_dec]
  by_cases ht : -604799 ≤ t
  · rw [if_pos ht]
    by_cases h1 : k = 1
    · rw [if_pos h1, if_pos (show 1 ≤ k ∧ k ≤ 3 by omega)]
      by_cases hq : may k m w d ∧ -604799 ≤ t ∧ t ≤ 604799
      · rw [if_pos hq, if_pos (by omega), if_pos (by omega), if_pos (by omega), if_pos (by omega), decide_eq_true (show w = 0 by omega)]; rfl
      · rw [if_neg hq]
        repeat' split
        all_goals first | rfl | skip
        cases hw : decide (w = 0) with
        | false => rfl
        | true => exact absurd (of_decide_eq_true hw) (by omega)
    · rw [if_neg h1]
      by_cases h2 : k = 2
      · rw [if_pos h2, if_pos (show 1 ≤ k ∧ k ≤ 3 by omega)]
        by_cases hq : may k m w d ∧ -604799 ≤ t ∧ t ≤ 604799
        · rw [if_pos hq, if_pos (by omega), if_pos (by omega), if_pos (by omega), if_pos (by omega), decide_eq_true (show w = 0 by omega)]; rfl
        · rw [if_neg hq]
          repeat' split
          all_goals first | rfl | skip
          cases hw : decide (w = 0) with
          | false => rfl
          | true => exact absurd (of_decide_eq_true hw) (by omega)
      · rw [if_neg h2]
        by_cases h3 : k = 3
        · rw [if_pos h3, if_pos (show 1 ≤ k ∧ k ≤ 3 by omega)]
          by_cases hq : may k m w d ∧ -604799 ≤ t ∧ t ≤ 604799
          · rw [if_pos hq, if_pos (by omega), if_pos (by omega), if_pos (by omega), if_pos (by omega), if_pos (by omega), if_pos (by omega), decide_eq_true (show d ≤ 6 by omega)]; rfl
          · rw [if_neg hq]
            repeat' split
            all_goals first | rfl | skip
            cases hw : decide (d ≤ 6) with
            | false => rfl
            | true => exact absurd (of_decide_eq_true hw) (by omega)
        · rw [if_neg h3, if_neg (by omega)]
  · rw [if_neg ht]
    by_cases h0 : 1 ≤ k ∧ k ≤ 3
    · rw [if_pos h0, if_neg (show ¬ (may k m w d ∧ -604799 ≤ t ∧ t ≤ 604799) by omega)]
      repeat' split
      all_goals first | rfl | omega
    · rw [if_neg h0, if_neg (show ¬ k = 1 by omega), if_neg (show ¬ k = 2 by omega), if_neg (show ¬ k = 3 by omega)]
/-- What stands ahead of a byte, and behind it. -/
def cutB (c : UInt8) (s : List UInt8) : List UInt8 × List UInt8 × Bool := if s.contains c then (s.takeWhile (· != c), (s.dropWhile (· != c)).drop 1, true) else (s, [], false)
theorem cut (s : List UInt8) (c : UInt8) (hs : small s) : F_Cut (s, [c]) = some (cutB c s) := by
  unfold small at hs
  rw [e_Cut, e_sliteCut]
  simp only [cond_dec, indexByte_eq]
  unfold cutB
  cases hc : s.contains c with
  | true =>
    have hle := (List.takeWhile_prefix (p := (· != c)) (l := s)).length_le
    have hlt : (s.takeWhile (· != c)).length < s.length := by
      apply Nat.lt_of_le_of_ne hle
      intro he
      have : s.takeWhile (· != c) = s := List.IsPrefix.eq_of_length (List.takeWhile_prefix _) he
      have hm : c ∈ s := by simpa using hc
      rw [← this] at hm
      have := List.all_eq_true.1 (takeWhile_all (· != c) s) c hm
      simp at this
    have h1 := subI_nat s (a := 0) (b := (s.takeWhile (· != c)).length) (by omega) hle
    have h2 := subI_nat s (a := (s.takeWhile (· != c)).length + 1) (b := s.length) (by omega) (Nat.le_refl _)
    rw [List.drop_zero, Int.natCast_zero, take_takeWhile] at h1
    rw [List.take_length, ← List.drop_drop, drop_takeWhile] at h2
    simp only [if_true]
    rw [if_pos (by omega), h1, wrap_i64 (by simp; omega) (by simp; omega)]
    simp only [Option.bind_some, List.length_singleton]
    rw [show ((((s.takeWhile (· != c)).length : Nat) : Int) + ((1 : Nat) : Int)) = (((s.takeWhile (· != c)).length + 1 : Nat) : Int) by omega, h2]
    rfl
  | false =>
    simp only [Bool.false_eq_true, if_false]
    rw [if_neg (by omega)]
    rfl
end Go.Sm
/- Plain Lean: the program's reading of a rule. -/
set_option linter.unusedVariables false
set_option linter.unusedSimpArgs false
namespace Go.Sm
open Go.Proofs

/-- Figures and a point, by turns: what is left, the error. -/
def fgQ (l m : Nat) (q : List UInt8 × Int) : List UInt8 × Int := (fgR l m q.1 q.2, fgE l m q.1 q.2)
def muQ (c : UInt8) (q : List UInt8 × Int) : List UInt8 × Int := (tk c q.1 q.2, muE c q.1 q.2)
theorem suf_fgQ {t : List UInt8} {q : List UInt8 × Int} (l m : Nat) (h : q.1 <:+ t) : (fgQ l m q).1 <:+ t := suf_fgR l m h
theorem suf_muQ {t : List UInt8} {q : List UInt8 × Int} (c : UInt8) (h : q.1 <:+ t) : (muQ c q).1 <:+ t := suf_tk c h
def wk1 (q : List UInt8 × Int) := muQ 46 (fgQ 1 2 q)
def wk2 (q : List UInt8 × Int) := muQ 46 (fgQ 1 1 (wk1 q))
def wk3 (q : List UInt8 × Int) := fgQ 1 1 (wk2 q)
theorem ruleWeekly {t : List UInt8} {q : List UInt8 × Int} (h : q.1 <:+ t) (ht : small t) :
    F_ruleWeekly (sc t q.1 q.2, ()) = some (sc t (wk3 q).1 (wk3 q).2, (3, fgV 1 2 q.1 q.2, fgV 1 1 (wk1 q).1 (wk1 q).2, fgV 1 1 (wk2 q).1 (wk2 q).2, 0)) := by
  have f1 : F_scFigures (sc t q.1 q.2, (), (1 : Int), (2 : Int)) = some (sc t (fgQ 1 2 q).1 (fgQ 1 2 q).2, fgV 1 2 q.1 q.2) := scFigures h ht 1 2 (by omega) (by omega) (by omega)
  have m1 : F_scMust (sc t (fgQ 1 2 q).1 (fgQ 1 2 q).2, (), [46]) = some (sc t (wk1 q).1 (wk1 q).2, ()) := scMust1 (suf_fgQ 1 2 h) ht 46 (by decide) (by decide)
  have s1 : (wk1 q).1 <:+ t := suf_muQ 46 (suf_fgQ 1 2 h)
  have f2 : F_scFigures (sc t (wk1 q).1 (wk1 q).2, (), (1 : Int), (1 : Int)) = some (sc t (fgQ 1 1 (wk1 q)).1 (fgQ 1 1 (wk1 q)).2, fgV 1 1 (wk1 q).1 (wk1 q).2) := scFigures s1 ht 1 1 (by omega) (by omega) (by omega)
  have m2 : F_scMust (sc t (fgQ 1 1 (wk1 q)).1 (fgQ 1 1 (wk1 q)).2, (), [46]) = some (sc t (wk2 q).1 (wk2 q).2, ()) := scMust1 (suf_fgQ 1 1 s1) ht 46 (by decide) (by decide)
  have s2 : (wk2 q).1 <:+ t := suf_muQ 46 (suf_fgQ 1 1 s1)
  have f3 : F_scFigures (sc t (wk2 q).1 (wk2 q).2, (), (1 : Int), (1 : Int)) = some (sc t (wk3 q).1 (wk3 q).2, fgV 1 1 (wk2 q).1 (wk2 q).2) := scFigures s2 ht 1 1 (by omega) (by omega) (by omega)
  rw [e_ruleWeekly, f1]
  simp only [Option.bind_some]
  rw [m1]
  simp only [Option.bind_some]
  rw [f2]
  simp only [Option.bind_some]
  rw [m2]
  simp only [Option.bind_some]
  rw [f3]
  rfl
abbrev Rul := Int × Int × Int × Int × Int
def noRule : Rul := (0, 0, 0, 0, 0)
/-- A rule's date: what is left, the error, kind, month, week, day. -/
def dat (d : List UInt8) : (List UInt8 × Int) × Int × Int × Int × Int :=
  if tkB 74 d 0 then (fgQ 1 3 (tk 74 d 0, 0), 1, 0, 0, fgV 1 3 (tk 74 d 0) 0)
  else if tkB 77 d 0 then (wk3 (tk 77 d 0, 0), 3, fgV 1 2 (tk 77 d 0) 0, fgV 1 1 (wk1 (tk 77 d 0, 0)).1 (wk1 (tk 77 d 0, 0)).2, fgV 1 1 (wk2 (tk 77 d 0, 0)).1 (wk2 (tk 77 d 0, 0)).2)
  else (fgQ 1 3 (d, 0), 2, 0, 0, fgV 1 3 d 0)
/-- A rule with its time. -/
def fin (x : Int × Int × Int × Int) (t : Int) : Rul × Int := if rck x.1 x.2.1 x.2.2.1 x.2.2.2 t ≠ 0 then (noRule, rck x.1 x.2.1 x.2.2.1 x.2.2.2 t) else ((x.1, x.2.1, x.2.2.1, x.2.2.2, t), 0)
def rul (s : List UInt8) : Rul × Int :=
  if clkEnd (dat (cutB 47 s).1).1.2 (dat (cutB 47 s).1).1.1 ≠ 0 then (noRule, 2)
  else if (cutB 47 s).2.2 then (if (clk (cutB 47 s).2.1 167).2 ≠ 0 then (noRule, (clk (cutB 47 s).2.1 167).2) else fin (dat (cutB 47 s).1).2 (clk (cutB 47 s).2.1 167).1)
  else fin (dat (cutB 47 s).1).2 7200
theorem small_cut {s : List UInt8} (c : UInt8) (hs : small s) : small (cutB c s).1 ∧ small (cutB c s).2.1 := by
  unfold small cutB at *
  have h1 := (List.takeWhile_prefix (p := (· != c)) (l := s)).length_le
  have h2 := (List.dropWhile_suffix (p := (· != c)) (l := s)).length_le
  split
  · simp; omega
  · simp; omega
theorem rul_tail {t r : List UInt8} {e : Int} (h : r <:+ t) (b : Bool) (c : List UInt8) (hc : small c) (k m w d : Int) :
    ((F_scEnd (sc t r e, ())).bind fun x5 =>
      bif decide (x5.snd ≠ (0 : Int)) then some (((0 : Int), (0 : Int), (0 : Int), (0 : Int), (0 : Int)), (2 : Int))
      else
        bif b then
          (F_ruleParseClock (c, (167 : Int))).bind fun x6 =>
            bif decide (x6.snd ≠ (0 : Int)) then some (((0 : Int), (0 : Int), (0 : Int), (0 : Int), (0 : Int)), x6.snd)
            else
              (F_ruleCheck (k, m, w, d, x6.fst)).bind fun x7 =>
                bif decide (x7 ≠ (0 : Int)) then some (((0 : Int), (0 : Int), (0 : Int), (0 : Int), (0 : Int)), x7) else some ((k, m, w, d, x6.fst), (0 : Int))
        else
          (F_ruleCheck (k, m, w, d, (7200 : Int))).bind fun x6 =>
            bif decide (x6 ≠ (0 : Int)) then some (((0 : Int), (0 : Int), (0 : Int), (0 : Int), (0 : Int)), x6) else some ((k, m, w, d, (7200 : Int)), (0 : Int))) =
    some (if clkEnd e r ≠ 0 then (noRule, 2) else if b then (if (clk c 167).2 ≠ 0 then (noRule, (clk c 167).2) else fin (k, m, w, d) (clk c 167).1) else fin (k, m, w, d) 7200) := by
  have hend : F_scEnd (sc t r e, ()) = some (sc t r e, clkEnd e r) := scEnd h
  rw [hend]
  simp only [Option.bind_some, cond_dec]
  by_cases h1 : clkEnd e r ≠ 0
  · rw [if_pos h1, if_pos h1]; rfl
  · rw [if_neg h1, if_neg h1]
    cases b with
    | true =>
      simp only [cond_true, if_true]
      rw [ruleParseClock c 167 hc (by omega) (by omega)]
      simp only [Option.bind_some]
      by_cases h2 : (clk c 167).2 ≠ 0
      · rw [if_pos h2, if_pos h2]; rfl
      · rw [if_neg h2, if_neg h2, ruleCheck]
        simp only [Option.bind_some]
        unfold fin
        simp only
        by_cases h3 : rck k m w d (clk c 167).1 ≠ 0
        · rw [if_pos h3, if_pos h3]; rfl
        · rw [if_neg h3, if_neg h3]
    | false =>
      simp only [cond_false, Bool.false_eq_true, if_false]
      rw [ruleCheck]
      simp only [Option.bind_some]
      unfold fin
      simp only
      by_cases h3 : rck k m w d 7200 ≠ 0
      · rw [if_pos h3, if_pos h3]; rfl
      · rw [if_neg h3, if_neg h3]
theorem ruleParse (s : List UInt8) (hs : small s) : F_ruleParse s = some (rul s) := by
  obtain ⟨hd, hc⟩ := small_cut 47 hs
  rw [e_ruleParse, cut s 47 hs]
  simp only [Option.bind_some]
  unfold rul dat
  generalize (cutB 47 s).1 = x at *
  generalize (cutB 47 s).2.1 = c at *
  generalize (cutB 47 s).2.2 = b at *
  rw [scNew]
  simp only [Option.bind_some]
  rw [scTake (List.suffix_refl x) hd]
  simp only [Option.bind_some]
  cases hJ : tkB 74 x 0 with
  | true =>
    have hf : F_scFigures (sc x (tk 74 x 0) 0, (), (1 : Int), (3 : Int)) = some (sc x (fgQ 1 3 (tk 74 x 0, 0)).1 (fgQ 1 3 (tk 74 x 0, 0)).2, fgV 1 3 (tk 74 x 0) 0) := scFigures (suf_tk 74 (List.suffix_refl x)) hd 1 3 (by omega) (by omega) (by omega)
    simp only [cond_true, if_true]
    rw [hf]
    simp only [Option.bind_some]
    exact rul_tail (suf_fgQ 1 3 (suf_tk 74 (List.suffix_refl x))) b c hc 1 0 0 (fgV 1 3 (tk 74 x 0) 0)
  | false =>
    simp only [cond_false, Bool.false_eq_true, if_false]
    rw [tk_false hJ, scTake (List.suffix_refl x) hd]
    simp only [Option.bind_some]
    cases hM : tkB 77 x 0 with
    | true =>
      have hw := ruleWeekly (q := (tk 77 x 0, 0)) (suf_tk 77 (List.suffix_refl x)) hd
      simp only [cond_true, if_true]
      rw [hw]
      simp only [Option.bind_some]
      exact rul_tail (suf_fgQ 1 1 (suf_muQ 46 (suf_fgQ 1 1 (suf_muQ 46 (suf_fgQ 1 2 (suf_tk 77 (List.suffix_refl x))))))) b c hc 3 _ _ _
    | false =>
      have hf : F_scFigures (sc x x 0, (), (1 : Int), (3 : Int)) = some (sc x (fgQ 1 3 (x, 0)).1 (fgQ 1 3 (x, 0)).2, fgV 1 3 x 0) := scFigures (List.suffix_refl x) hd 1 3 (by omega) (by omega) (by omega)
      simp only [cond_false, Bool.false_eq_true, if_false]
      rw [tk_false hM, hf]
      simp only [Option.bind_some]
      exact rul_tail (suf_fgQ 1 3 (List.suffix_refl x)) b c hc 2 0 0 (fgV 1 3 x 0)
end Go.Sm
/- Plain Lean: names and checks of plans. -/
set_option linter.unusedVariables false
set_option linter.unusedSimpArgs false
namespace Go.Sm
open Go.Proofs

def letters : List UInt8 := [(65 : UInt8), (66 : UInt8), (67 : UInt8), (68 : UInt8), (69 : UInt8), (70 : UInt8), (71 : UInt8), (72 : UInt8), (73 : UInt8), (74 : UInt8), (75 : UInt8), (76 : UInt8), (77 : UInt8), (78 : UInt8), (79 : UInt8), (80 : UInt8), (81 : UInt8), (82 : UInt8), (83 : UInt8), (84 : UInt8), (85 : UInt8), (86 : UInt8), (87 : UInt8), (88 : UInt8), (89 : UInt8), (90 : UInt8), (97 : UInt8), (98 : UInt8), (99 : UInt8), (100 : UInt8), (101 : UInt8), (102 : UInt8), (103 : UInt8), (104 : UInt8), (105 : UInt8), (106 : UInt8), (107 : UInt8), (108 : UInt8), (109 : UInt8), (110 : UInt8), (111 : UInt8), (112 : UInt8), (113 : UInt8), (114 : UInt8), (115 : UInt8), (116 : UInt8), (117 : UInt8), (118 : UInt8), (119 : UInt8), (120 : UInt8), (121 : UInt8), (122 : UInt8)]
def named : List UInt8 := [(65 : UInt8), (66 : UInt8), (67 : UInt8), (68 : UInt8), (69 : UInt8), (70 : UInt8), (71 : UInt8), (72 : UInt8), (73 : UInt8), (74 : UInt8), (75 : UInt8), (76 : UInt8), (77 : UInt8), (78 : UInt8), (79 : UInt8), (80 : UInt8), (81 : UInt8), (82 : UInt8), (83 : UInt8), (84 : UInt8), (85 : UInt8), (86 : UInt8), (87 : UInt8), (88 : UInt8), (89 : UInt8), (90 : UInt8), (97 : UInt8), (98 : UInt8), (99 : UInt8), (100 : UInt8), (101 : UInt8), (102 : UInt8), (103 : UInt8), (104 : UInt8), (105 : UInt8), (106 : UInt8), (107 : UInt8), (108 : UInt8), (109 : UInt8), (110 : UInt8), (111 : UInt8), (112 : UInt8), (113 : UInt8), (114 : UInt8), (115 : UInt8), (116 : UInt8), (117 : UInt8), (118 : UInt8), (119 : UInt8), (120 : UInt8), (121 : UInt8), (122 : UInt8), (48 : UInt8), (49 : UInt8), (50 : UInt8), (51 : UInt8), (52 : UInt8), (53 : UInt8), (54 : UInt8), (55 : UInt8), (56 : UInt8), (57 : UInt8), (43 : UInt8), (45 : UInt8)]
def clocks : List UInt8 := [(48 : UInt8), (49 : UInt8), (50 : UInt8), (51 : UInt8), (52 : UInt8), (53 : UInt8), (54 : UInt8), (55 : UInt8), (56 : UInt8), (57 : UInt8), (43 : UInt8), (45 : UInt8), (58 : UInt8)]
theorem low_named : low named := by unfold low; decide
theorem low_letters : low letters := by unfold low; decide
/-- Is it a name? -/
def nameB (s : List UInt8) : Bool := decide (3 ≤ s.length ∧ s.length ≤ 16) && s.all fun c => named.contains c
theorem pxName (s : List UInt8) (hs : small s) : F_pxName s = some (nameB s) := by
  have h := pxOf s named hs low_named
  unfold named at h
  rw [e_pxName, h]
  simp only [cond_dec, Option.bind_some]
  unfold nameB
  by_cases h1 : 3 ≤ s.length
  · rw [if_pos (by omega)]
    by_cases h2 : s.length ≤ 16
    · rw [if_pos (by omega), decide_eq_true ⟨h1, h2⟩, Bool.true_and]
      rfl
    · rw [if_neg (by omega), decide_eq_false (by omega), Bool.false_and]
  · rw [if_neg (by omega), decide_eq_false (by omega), Bool.false_and]
end Go.Sm
/- Plain Lean: the program's reader of plans. -/
set_option linter.unusedVariables false
set_option linter.unusedSimpArgs false
namespace Go.Sm
open Go.Proofs

/-- A failure, if there was none before. -/
def fl (x e : Int) : Int := if e = 0 then x else e
/-- A name: what is left, the error, the name. -/
def nm (r : List UInt8) (e : Int) : List UInt8 × Int × List UInt8 :=
  if tkB 60 r e then
    (if nameB ((rd (tk 60 r e) e).takeWhile (· != 62)) then
      (tk 62 (wl (· != 62) (tk 60 r e) e) e, if tkB 62 (wl (· != 62) (tk 60 r e) e) e then e else fl 2 e, (rd (tk 60 r e) e).takeWhile (· != 62))
    else (wl (· != 62) (tk 60 r e) e, fl 2 e, (rd (tk 60 r e) e).takeWhile (· != 62)))
  else (wl (runP letters) r e, if nameB ((rd r e).takeWhile (runP letters)) then e else fl 2 e, (rd r e).takeWhile (runP letters))
theorem small_tw {s : List UInt8} (p : UInt8 → Bool) (h : small s) : small (s.takeWhile p) := by
  have := (List.takeWhile_prefix (p := p) (l := s)).length_le
  unfold small at *
  omega
theorem rdName {t r : List UInt8} {e : Int} (h : r <:+ t) (ht : small t) : F_rdName (sc t r e, ()) = some (sc t (nm r e).1 (nm r e).2.1, (nm r e).2.2) := by
  have hrun := scRun (e := e) h ht letters
  unfold letters at hrun
  rw [e_rdName, scTake h ht]
  simp only [Option.bind_some]
  unfold nm
  cases hb : tkB 60 r e with
  | false =>
    rw [tk_false hb]
    simp only [Bool.not_false, cond_true, Bool.false_eq_true, if_false]
    rw [hrun]
    simp only [Option.bind_some]
    rw [pxName _ (small_tw _ (small_rd h ht))]
    simp only [Option.bind_some]
    show _ = some (sc t (wl (runP letters) r e) _, _)
    cases hn : nameB ((rd r e).takeWhile (runP letters)) with
    | true =>
      unfold letters at hn
      rw [hn]
      rfl
    | false =>
      unfold letters at hn
      rw [hn]
      simp only [Bool.not_false, cond_true]
      rw [scFail]
      rfl
  | true =>
    have h1 := suf_tk 60 (e := e) h
    simp only [Bool.not_true, cond_false, if_true]
    rw [scUntil h1 ht]
    simp only [Option.bind_some]
    rw [pxName _ (small_tw _ (small_rd h1 ht))]
    simp only [Option.bind_some]
    cases hn : nameB ((rd (tk 60 r e) e).takeWhile (· != 62)) with
    | false =>
      simp only [Bool.not_false, cond_true, Bool.false_eq_true, if_false]
      rw [scFail]
      rfl
    | true =>
      simp only [Bool.not_true, cond_false, if_true]
      rw [scTake (suf_wl _ h1) ht]
      simp only [Option.bind_some]
      cases hq : tkB 62 (wl (· != 62) (tk 60 r e) e) e with
      | true => rfl
      | false =>
        simp only [Bool.not_false, cond_true]
        rw [scFail]
        rfl
theorem clk_range (s : List UInt8) (m : Int) : -4000000 ≤ (clk s m).1 ∧ (clk s m).1 ≤ 4000000 := by
  have hA : 0 ≤ (clkA s).2.2 ∧ (clkA s).2.2 < 1000 := fgV_nn 1 3 _ _ 3 (by omega)
  have hB : 0 ≤ (clkB s).2.2.1 ∧ (clkB s).2.2.1 < 100 := pt_range _ _
  have hC : 0 ≤ (clkC s).2.2.1 ∧ (clkC s).2.2.1 < 100 := by
    unfold clkC
    split
    · exact pt_range _ _
    · exact ⟨by simp, by simp⟩
  unfold clk clkN
  split
  · simp
  · split
    · simp
    · split
      · simp only; omega
      · simp only; omega
/-- An offset: what is left, the error, the offset. -/
def ofs (r : List UInt8) (e : Int) : List UInt8 × Int × Int :=
  (wl (runP clocks) r e, if e ≠ 0 then e else (clk ((rd r e).takeWhile (runP clocks)) 24).2, if e ≠ 0 then 0 else -(clk ((rd r e).takeWhile (runP clocks)) 24).1)
theorem rdOffset {t r : List UInt8} {e : Int} (h : r <:+ t) (ht : small t) : F_rdOffset (sc t r e, ()) = some (sc t (ofs r e).1 (ofs r e).2.1, (ofs r e).2.2) := by
  have hrun := scRun (e := e) h ht clocks
  unfold clocks at hrun
  rw [e_rdOffset, hrun]
  simp only [Option.bind_some]
  rw [scErr]
  simp only [Option.bind_some, cond_dec]
  unfold ofs
  by_cases h0 : e ≠ 0
  · rw [if_pos h0, if_pos h0, if_pos h0]
    rfl
  · rw [if_neg h0, if_neg h0, if_neg h0]
    have h0 : e = 0 := by omega
    subst h0
    have hc := ruleParseClock ((rd r 0).takeWhile (runP clocks)) 24 (small_tw _ (small_rd h ht)) (by omega) (by omega)
    have hr := clk_range ((rd r 0).takeWhile (runP clocks)) 24
    unfold clocks at hc hr ⊢
    rw [hc]
    simp only [Option.bind_some]
    rw [wrap_i64 (by omega) (by omega), Int.zero_sub]
    by_cases h1 : (clk ((rd r 0).takeWhile (runP clocks)) 24).2 ≠ 0
    · unfold clocks at h1
      rw [if_pos h1, scFail]
      rfl
    · unfold clocks at h1
      rw [if_neg h1]
      have h1 := Decidable.not_not.1 h1
      rw [h1]
/-- A comma and a rule: what is left, the error, the rule. -/
def rlE (r : List UInt8) (e : Int) : Int := if tkB 44 r e then e else fl 2 e
def rlS (r : List UInt8) (e : Int) : List UInt8 := (rd (tk 44 r e) (rlE r e)).takeWhile (· != 44)
def rl (r : List UInt8) (e : Int) : List UInt8 × Int × Rul :=
  (wl (· != 44) (tk 44 r e) (rlE r e), if rlE r e ≠ 0 then rlE r e else (rul (rlS r e)).2, if rlE r e ≠ 0 then noRule else (rul (rlS r e)).1)
theorem rl_tail {t r : List UInt8} {e : Int} (h : r <:+ t) (ht : small t) : ((F_scUntil (sc t r e, (), (44 : UInt8))).bind fun x2 =>
        (F_scErr (x2.fst, ())).bind fun x3 =>
          bif decide (x3.snd ≠ (0 : Int)) then some (x3.fst, (0 : Int), (0 : Int), (0 : Int), (0 : Int), (0 : Int))
          else (F_ruleParse x2.snd).bind fun x4 => bif decide (x4.snd ≠ (0 : Int)) then (F_scFail (x3.fst, (), x4.snd)).bind fun x5 => some (x5.fst, x4.fst) else some (x3.fst, x4.fst)) =
      some (sc t (wl (· != 44) r e) (if e ≠ 0 then e else (rul ((rd r e).takeWhile (· != 44))).2), if e ≠ 0 then noRule else (rul ((rd r e).takeWhile (· != 44))).1) := by
  rw [scUntil h ht]
  simp only [Option.bind_some]
  rw [scErr]
  simp only [Option.bind_some, cond_dec]
  by_cases h0 : e ≠ 0
  · rw [if_pos h0, if_pos h0, if_pos h0]
    rfl
  · rw [if_neg h0, if_neg h0, if_neg h0]
    have h0 : e = 0 := by omega
    subst h0
    rw [ruleParse _ (small_tw _ (small_rd h ht))]
    simp only [Option.bind_some]
    by_cases h1 : (rul ((rd r 0).takeWhile (· != 44))).2 ≠ 0
    · rw [if_pos h1, scFail]
      rfl
    · rw [if_neg h1]
      have h1 := Decidable.not_not.1 h1
      rw [h1]
theorem rdRule {t r : List UInt8} {e : Int} (h : r <:+ t) (ht : small t) : F_rdRule (sc t r e, ()) = some (sc t (rl r e).1 (rl r e).2.1, (rl r e).2.2) := by
  rw [e_rdRule, scTake h ht]
  simp only [Option.bind_some]
  unfold rl rlS rlE
  cases hb : tkB 44 r e with
  | true =>
    simp only [Bool.not_true, cond_false, if_true]
    exact rl_tail (suf_tk 44 h) ht
  | false =>
    simp only [Bool.not_false, cond_true, Bool.false_eq_true, if_false]
    rw [scFail]
    simp only [Option.bind_some]
    exact rl_tail (suf_tk 44 h) ht
end Go.Sm
/- Plain Lean: the summer part of a plan. -/
set_option linter.unusedVariables false
set_option linter.unusedSimpArgs false
namespace Go.Sm
open Go.Proofs

theorem suf_nm {t r : List UInt8} {e : Int} (h : r <:+ t) : (nm r e).1 <:+ t := by
  unfold nm
  split
  · split
    · exact suf_tk _ (suf_wl _ (suf_tk _ h))
    · exact suf_wl _ (suf_tk _ h)
  · exact suf_wl _ h
theorem suf_ofs {t r : List UInt8} {e : Int} (h : r <:+ t) : (ofs r e).1 <:+ t := suf_wl _ h
theorem suf_rl {t r : List UInt8} {e : Int} (h : r <:+ t) : (rl r e).1 <:+ t := suf_wl _ (suf_tk _ h)
/-- The summer's offset, told or not. -/
def ahd (r : List UInt8) (e o : Int) : List UInt8 × Int × Int :=
  match rd r e with
  | [] => (r, e, o + 3600)
  | b :: _ => if b ≠ 44 then ofs r e else (r, e, o + 3600)
theorem suf_ahd {t r : List UInt8} {e o : Int} (h : r <:+ t) : (ahd r e o).1 <:+ t := by
  unfold ahd
  split
  · exact h
  · split
    · exact suf_ofs h
    · exact h
abbrev Pln := List UInt8 × List UInt8 × Int × Int × Rul × Rul
def smA (r : List UInt8) (e o : Int) : List UInt8 × Int × Int := ahd (nm r e).1 (nm r e).2.1 o
def smB (r : List UInt8) (e o : Int) : List UInt8 × Int × Rul := rl (smA r e o).1 (smA r e o).2.1
def smC (r : List UInt8) (e o : Int) : List UInt8 × Int × Rul := rl (smB r e o).1 (smB r e o).2.1
theorem rdSummer {t r : List UInt8} {e : Int} (h : r <:+ t) (ht : small t) (n s : List UInt8) (o a : Int) (b c : Rul) (ho : -4000000 ≤ o ∧ o ≤ 4000000) :
    F_rdSummer (sc t r e, (), (n, s, o, a, b, c)) = some (sc t (smC r e o).1 (smC r e o).2.1, (n, (nm r e).2.2, o, (smA r e o).2.2, (smB r e o).2.2, (smC r e o).2.2)) := by
  have h1 := suf_nm (e := e) h
  have h2 : (smA r e o).1 <:+ t := suf_ahd h1
  have h3 : (smB r e o).1 <:+ t := suf_rl h2
  have hB : F_rdRule (sc t (smA r e o).1 (smA r e o).2.1, ()) = some (sc t (smB r e o).1 (smB r e o).2.1, (smB r e o).2.2) := rdRule h2 ht
  have hC : F_rdRule (sc t (smB r e o).1 (smB r e o).2.1, ()) = some (sc t (smC r e o).1 (smC r e o).2.1, (smC r e o).2.2) := rdRule h3 ht
  rw [e_rdSummer, rdName h ht]
  simp only [Option.bind_some]
  rw [scPeek h1]
  simp only [Option.bind_some]
  rw [wrap_i64 (by omega) (by omega)]
  cases hq : rd (nm r e).1 (nm r e).2.1 with
  | nil =>
    have hA : smA r e o = ((nm r e).1, (nm r e).2.1, o + 3600) := by unfold smA ahd; rw [hq]
    rw [hA] at hB
    simp only [cond_false]
    rw [hB]
    simp only [Option.bind_some]
    rw [hC, hA]
    rfl
  | cons x l =>
    simp only [cond_true, cond_dec]
    by_cases hx : x ≠ 44
    · have hA : smA r e o = ofs (nm r e).1 (nm r e).2.1 := by unfold smA ahd; rw [hq]; simp only; rw [if_pos hx]
      rw [if_pos hx, rdOffset h1 ht]
      simp only [Option.bind_some]
      rw [← hA, hB]
      simp only [Option.bind_some]
      rw [hC]
      rfl
    · have hA : smA r e o = ((nm r e).1, (nm r e).2.1, o + 3600) := by unfold smA ahd; rw [hq]; simp only; rw [if_neg hx]
      rw [hA] at hB
      rw [if_neg hx]
      rw [hB]
      simp only [Option.bind_some]
      rw [hC, hA]
      rfl
end Go.Sm
/- Plain Lean: the check of a plan; plans as the program reads them. -/
set_option linter.unusedVariables false
set_option linter.unusedSimpArgs false
namespace Go.Sm
open Go.Proofs

def shB (o : Int) : Bool := decide (-89999 ≤ o ∧ o ≤ 89999)
theorem pxShifts (o : Int) : F_pxShifts o = some (shB o) := by
  rw [e_pxShifts, cond_dec]
  unfold shB
  by_cases h : -89999 ≤ o
  · rw [if_pos h]; simp [h]
  · rw [if_neg h]; simp [h]
def isNo (b : Rul) : Bool := decide (b.1 = 0) && (decide (b.2.1 = 0) && (decide (b.2.2.1 = 0) && (decide (b.2.2.2.1 = 0) && (decide (b.2.2.2.2 = 0) && true))))
def idleB (a : Int) (b c : Rul) : Bool := decide (a = 0) && (isNo b && isNo c)
theorem pxIdle (p : Pln) : F_pxIdle p = some (idleB p.2.2.2.1 p.2.2.2.2.1 p.2.2.2.2.2) := by
  rw [e_pxIdle]
  unfold idleB
  cases decide (p.2.2.2.1 = 0) with
  | false => rfl
  | true =>
    rw [cond_true, Bool.true_and]
    show (bif isNo p.2.2.2.2.1 then some (isNo p.2.2.2.2.2) else some false) = _
    cases isNo p.2.2.2.2.1 <;> rfl
def rckR (b : Rul) : Int := rck b.1 b.2.1 b.2.2.1 b.2.2.2.1 b.2.2.2.2
theorem ruleCheckR (b : Rul) : F_ruleCheck b = some (rckR b) := ruleCheck _ _ _ _ _
/-- What is wrong with a plan. -/
def pck (p : Pln) : Int :=
  if nameB p.1 = false then 2
  else if p.2.1 ≠ [] then
    (if nameB p.2.1 = false then 2 else if shB p.2.2.1 = false then 1 else if shB p.2.2.2.1 = false then 1 else if rckR p.2.2.2.2.1 ≠ 0 then rckR p.2.2.2.2.1 else rckR p.2.2.2.2.2)
  else if idleB p.2.2.2.1 p.2.2.2.2.1 p.2.2.2.2.2 = false then 2 else if shB p.2.2.1 = false then 1 else if shB p.2.2.2.1 = false then 1 else 0
theorem pxCheck (p : Pln) (h1 : small p.1) (h2 : small p.2.1) : F_pxCheck p = some (pck p) := by
  have hch : F_pxChanges p = some (decide (p.2.1 ≠ [])) := e_pxChanges p
  rw [e_pxCheck, pxName _ h1]
  unfold pck
  simp only [Option.bind_some]
  cases hn : nameB p.1 with
  | false => rfl
  | true =>
    simp only [Bool.not_true, cond_false, Bool.true_eq_false, if_false]
    rw [hch]
    simp only [Option.bind_some]
    by_cases hs : p.2.1 ≠ []
    · rw [if_pos hs, decide_eq_true hs]
      simp only [cond_true, Bool.not_true, cond_false]
      rw [pxName _ h2]
      simp only [Option.bind_some]
      cases hm : nameB p.2.1 with
      | false => rfl
      | true =>
        simp only [Bool.not_true, cond_false, Bool.true_eq_false, if_false]
        rw [pxShifts]
        simp only [Option.bind_some]
        cases shB p.2.2.1 with
        | false => rfl
        | true =>
          simp only [Bool.not_true, cond_false, Bool.true_eq_false, if_false]
          rw [pxShifts]
          simp only [Option.bind_some]
          cases shB p.2.2.2.1 with
          | false => rfl
          | true =>
            simp only [Bool.not_true, cond_false, Bool.true_eq_false, if_false]
            rw [ruleCheckR]
            simp only [Option.bind_some, cond_dec]
            by_cases hr : rckR p.2.2.2.2.1 ≠ 0
            · rw [if_pos hr, if_pos hr]
            · rw [if_neg hr, if_neg hr, ruleCheckR]
              rfl
    · rw [if_neg hs, decide_eq_false hs]
      simp only [cond_false, Bool.not_false, cond_true]
      rw [pxIdle]
      simp only [Option.bind_some]
      cases idleB p.2.2.2.1 p.2.2.2.2.1 p.2.2.2.2.2 with
      | false => rfl
      | true =>
        simp only [Bool.not_true, cond_false, Bool.true_eq_false, if_false]
        rw [pxShifts]
        simp only [Option.bind_some]
        cases shB p.2.2.1 with
        | false => rfl
        | true =>
          simp only [Bool.not_true, cond_false, Bool.true_eq_false, if_false]
          rw [pxShifts]
          simp only [Option.bind_some]
          cases shB p.2.2.2.1 with
          | false => rfl
          | true => rfl
end Go.Sm
/- Plain Lean: the program's dates, the days of rules, years of seconds. -/
set_option linter.unusedVariables false
set_option linter.unusedSimpArgs false
namespace Go.Sm
open Go.Proofs

theorem yS_march (z E : Int) : yS (z + E * 400 + 1) = E * 146097 + 365 * z + z / 4 - z / 100 + z / 400 + 306 - 719468 := by
  have h4 : (z + E * 400 + 1 - 1) / 4 = z / 4 + E * 100 := by omega
  have h100 : (z + E * 400 + 1 - 1) / 100 = z / 100 + E * 4 := by omega
  have h400 : (z + E * 400 + 1 - 1) / 400 = z / 400 + E := by omega
  unfold yS
  rw [h4, h100, h400]
  omega
theorem dayDate (n : Int) (h1 : yS (-9999) ≤ n) (h2 : n < yS 10000) : ∃ y m d, F_dayDate n = some (y, m, d, 0) ∧ yS y ≤ n ∧ n < yS (y + 1) := by
  have a1 : yS (-9999) = -4371587 := by decide
  have a2 : yS 10000 = 2932897 := by decide
  rw [e_dayDate, dayFirst]
  simp only [Option.bind_some]
  rw [cond_dec, if_neg (by omega), dayLast]
  simp only [Option.bind_some]
  rw [cond_dec, if_neg (by omega), wrap_i64 (x := n + 719468) (by omega) (by omega), dayFloorC _ (by omega)]
  simp only [Option.bind_some]
  generalize hE : (n + 719468) / 146097 = E
  rw [wrap_i64 (x := E * 146097) (by omega) (by omega), wrap_i64 (x := n + 719468 - E * 146097) (by omega) (by omega)]
  generalize hF : n + 719468 - E * 146097 = f
  have hf0 : 0 ≤ f ∧ f ≤ 146096 := by omega
  rw [tdiv_nn (a := f) (b := 1460) (by omega), tdiv_nn (a := f) (b := 36524) (by omega), tdiv_nn (a := f) (b := 146096) (by omega), wrap_i64 (x := f / 1460) (by omega) (by omega), wrap_i64 (x := f / 36524) (by omega) (by omega), wrap_i64 (x := f / 146096) (by omega) (by omega), wrap_i64 (x := f - f / 1460) (by omega) (by omega), wrap_i64 (x := f - f / 1460 + f / 36524) (by omega) (by omega), wrap_i64 (x := f - f / 1460 + f / 36524 - f / 146096) (by omega) (by omega), tdiv_nn (a := f - f / 1460 + f / 36524 - f / 146096) (by omega)]
  generalize hO : (f - f / 1460 + f / 36524 - f / 146096) / 365 = o
  obtain ⟨o0, o1, o2, o3⟩ := civil f o hf0.1 hf0.2 hO.symm
  rw [wrap_i64 (x := o) (by omega) (by omega), wrap_i64 (x := 365 * o) (by omega) (by omega), tdiv_nn (a := o) (b := 4) (by omega), tdiv_nn (a := o) (b := 100) (by omega), wrap_i64 (x := o / 4) (by omega) (by omega), wrap_i64 (x := o / 100) (by omega) (by omega), wrap_i64 (x := 365 * o + o / 4) (by omega) (by omega), wrap_i64 (x := 365 * o + o / 4 - o / 100) (by omega) (by omega), wrap_i64 (x := f - (365 * o + o / 4 - o / 100)) (by omega) (by omega)]
  generalize hR : f - (365 * o + o / 4 - o / 100) = r
  have hr0 : 0 ≤ r ∧ r ≤ 366 := by omega
  rw [wrap_i64 (x := 5 * r) (by omega) (by omega), wrap_i64 (x := 5 * r + 2) (by omega) (by omega), tdiv_nn (a := 5 * r + 2) (b := 153) (by omega), wrap_i64 (x := (5 * r + 2) / 153) (by omega) (by omega), wrap_i64 (x := (5 * r + 2) / 153 + 3) (by omega) (by omega), wrap_i64 (x := E * 400) (by omega) (by omega), wrap_i64 (x := o + E * 400) (by omega) (by omega), cond_dec]
  by_cases hm : 12 < (5 * r + 2) / 153 + 3
  · rw [if_pos hm, wrap_i64 (x := o + E * 400 + 1) (by omega) (by omega)]
    refine ⟨_, _, _, rfl, ?_, ?_⟩
    · have : 306 ≤ r := by omega
      rw [yS_march]
      omega
    · rw [show o + E * 400 + 1 + 1 = (o + 1) + E * 400 + 1 by omega, yS_march]
      omega
  · rw [if_neg hm]
    have : r < 306 := by omega
    refine ⟨_, _, _, rfl, ?_, ?_⟩
    · rw [show o + E * 400 = (o - 1) + E * 400 + 1 by omega, yS_march]
      clear o3 hm hO
      omega
    · rw [yS_march]
      omega
theorem dayDate_bad (n : Int) (h : ¬ (yS (-9999) ≤ n ∧ n < yS 10000)) : F_dayDate n = some (0, 0, 0, 13) := by
  rw [e_dayDate, dayFirst]
  simp only [Option.bind_some]
  rw [cond_dec]
  by_cases h1 : n < yS (-9999)
  · rw [if_pos h1]
  · rw [if_neg h1, dayLast]
    simp only [Option.bind_some]
    rw [cond_dec, if_pos (by omega)]
theorem numDiv (a : Int) (h : -9223372036854775808 ≤ a ∧ a ≤ 9223372036854775807) : F_numDiv (a, (86400 : Int)) = some (a / 86400, 0) := by
  have key : (bif decide (a.tmod 86400 ≠ (0 : Int)) then
          bif !decide (a < (0 : Int)) == decide ((86400 : Int) < (0 : Int)) then some (IntKind.i64.wrap (IntKind.i64.wrap (a.tdiv 86400) - (1 : Int)), (0 : Int)) else some (IntKind.i64.wrap (a.tdiv 86400), (0 : Int))
        else some (IntKind.i64.wrap (a.tdiv 86400), (0 : Int))) = some (a / 86400, 0) := by
    rw [cond_dec]
    by_cases h0 : 0 ≤ a
    · rw [tmod_nn h0, tdiv_nn h0, decide_eq_false (show ¬ a < 0 by omega), wrap_i64 (x := a / 86400) (by omega) (by omega)]
      by_cases h1 : a % 86400 ≠ 0
      · rw [if_pos h1]; rfl
      · rw [if_neg h1]
    · rw [tmod_ng (by omega), tdiv_ng (by omega), decide_eq_true (show a < 0 by omega), wrap_i64 (x := -(-a / 86400)) (by omega) (by omega)]
      by_cases h1 : -(-a % 86400) ≠ 0
      · rw [if_pos h1]
        show some (IntKind.i64.wrap (-(-a / 86400) - 1), (0 : Int)) = _
        rw [wrap_i64 (by omega) (by omega)]
        congr 2
        omega
      · rw [if_neg h1]
        congr 2
        omega
  rw [e_numDiv, cond_dec, if_neg (by omega), cond_dec]
  by_cases hm : a = -9223372036854775808
  · rw [if_pos hm, cond_dec, if_neg (by omega), cond_dec, if_neg (by omega), cond_dec, if_neg (by omega)]
    exact key
  · rw [if_neg hm, cond_dec, if_neg (by omega), cond_dec, if_neg (by omega)]
    exact key
theorem numMod (a : Int) : ∃ r, F_numMod (a, (86400 : Int)) = some (r, 0) := by
  rw [e_numMod, cond_dec, if_neg (by omega), cond_dec, if_neg (by omega), cond_dec, if_neg (by omega), cond_dec]
  split
  · cases (!decide (a.tmod 86400 < 0) == decide ((86400 : Int) < 0)) with
    | true => exact ⟨_, rfl⟩
    | false => exact ⟨_, rfl⟩
  · exact ⟨_, rfl⟩
abbrev i64 (t : Int) : Prop := -9223372036854775808 ≤ t ∧ t ≤ 9223372036854775807
theorem ftYear_ok (t y : Int) (ht : i64 t) (hy : -9999 ≤ y ∧ y ≤ 9999) (h1 : yS y ≤ t / 86400) (h2 : t / 86400 < yS (y + 1)) : F_ftYear t = some (y, 0) := by
  have b1 := (yS_mono (x := -9999) (y := y) hy.1).1
  have b2 := (yS_mono (x := y + 1) (y := 10000) (by omega)).1
  obtain ⟨y', m, d, hd, h3, h4⟩ := dayDate (t / 86400) (by omega) (by omega)
  have := yS_uniq h1 h2 h3 h4
  subst this
  obtain ⟨r, hr⟩ := numMod t
  have hs : F_numSplit (t, (86400 : Int)) = some (t / 86400, r, 0) := by
    rw [e_numSplit, cond_dec, if_neg (by omega), numDiv t ht]
    simp only [Option.bind_some]
    rw [cond_dec, if_neg (by simp), hr]
    rfl
  rw [e_ftYear, hs]
  simp only [Option.bind_some]
  rw [cond_dec, if_neg (by simp), hd]
  rfl
abbrev dated (t : Int) : Prop := yS (-9999) ≤ t / 86400 ∧ t / 86400 < yS 10000
theorem ftYear_bad (t : Int) (ht : i64 t) (h : ¬ dated t) : F_ftYear t = some (0, 13) := by
  obtain ⟨r, hr⟩ := numMod t
  have hs : F_numSplit (t, (86400 : Int)) = some (t / 86400, r, 0) := by
    rw [e_numSplit, cond_dec, if_neg (by omega), numDiv t ht]
    simp only [Option.bind_some]
    rw [cond_dec, if_neg (by simp), hr]
    rfl
  rw [e_ftYear, hs]
  simp only [Option.bind_some]
  rw [cond_dec, if_neg (by simp), dayDate_bad _ h]
  rfl
/-- The year of a day that is a date's. -/
theorem year_ex (n : Int) (h : yS (-9999) ≤ n ∧ n < yS 10000) : ∃ y, (-9999 ≤ y ∧ y ≤ 9999) ∧ yS y ≤ n ∧ n < yS (y + 1) := by
  obtain ⟨y, m, d, _, h1, h2⟩ := dayDate n h.1 h.2
  refine ⟨y, ?_, h1, h2⟩
  constructor
  · by_cases hc : -9999 ≤ y
    · exact hc
    · have := (yS_mono (x := y + 1) (y := -9999) (by omega)).1
      omega
  · by_cases hc : y ≤ 9999
    · exact hc
    · have := (yS_mono (x := 10000) (y := y) (by omega)).1
      omega

/-! ### Days of rules -/
theorem leap_mod (y : Int) : leap (y.tmod 400 + 2000) ↔ leap y := by
  unfold leap
  by_cases h : 0 ≤ y
  · rw [tmod_nn h]; omega
  · rw [tmod_ng (by omega)]; omega
theorem mL_mod (y m : Int) : mL (y.tmod 400 + 2000) m = mL y m := by
  unfold mL
  by_cases h : leap y
  · rw [if_pos h, if_pos ((leap_mod y).2 h)]
  · rw [if_neg h, if_neg (fun q => h ((leap_mod y).1 q))]
theorem tmod_range (y : Int) : -400 < y.tmod 400 ∧ y.tmod 400 < 400 := by
  by_cases h : 0 ≤ y
  · rw [tmod_nn h]; omega
  · rw [tmod_ng (by omega)]; omega
theorem mC_le (y m : Int) (h1 : 1 ≤ m) (h2 : m ≤ 13) : 0 ≤ mC y m ∧ mC y m ≤ 366 := by
  unfold mC
  split
  · omega
  · split <;> omega
theorem month_loop (y w : Int) (hw : w ≤ 13) : ∀ (k : Nat) (n m : Int), 1 ≤ m → m + k = w → (-100000000 ≤ n ∧ n ≤ 100000000 + 400 * m) → w_ruleMonth_0 (y, w, n, m) = some (.inr (n + mC y w - mC y m))
  | 0, n, m, hm, hk, hn => by
    obtain rfl : m = w := by omega
    rw [ew_ruleMonth_0, es_ruleMonth_0, cond_dec, if_neg (by omega)]
    simp only [Option.bind_some, Sum.elim_inr]
    congr 2
    omega
  | k + 1, n, m, hm, hk, hn => by
    have hr := tmod_range y
    have hl := mL_le y m
    rw [ew_ruleMonth_0, es_ruleMonth_0, cond_dec, if_pos (by omega), wrap_i64 (x := y.tmod 400 + 2000) (by omega) (by omega), dayMonth _ m (by omega) (by omega), mL_mod]
    simp only [Option.bind_some]
    rw [cond_dec, if_neg (by simp), wrap_i64 (x := n + mL y m) (by omega) (by omega), wrap_i64 (x := m + 1) (by omega) (by omega)]
    simp only [Option.bind_some, Sum.elim_inl]
    rw [month_loop y w hw k (n + mL y m) (m + 1) (by omega) (by omega) (by omega), mC_succ y m (by omega) (by omega)]
    congr 2
    omega
theorem yS_big {y : Int} (h : -20000 ≤ y ∧ y ≤ 20000) : -9000000 ≤ yS y ∧ yS y ≤ 9000000 := by unfold yS; omega
theorem ruleMonth (y w : Int) (hy : -20000 ≤ y ∧ y ≤ 20000) (hw : 1 ≤ w ∧ w ≤ 13) : F_ruleMonth (y, w) = some (yS y + mC y w, 0) := by
  have hb := yS_big hy
  rw [e_ruleMonth, dayStart y hy]
  simp only [Option.bind_some]
  rw [cond_dec, if_neg (by simp), month_loop y w hw.2 (w - 1).toNat (yS y) 1 (by omega) (by omega) (by omega), mC_1]
  simp only [Option.bind_some, Sum.elim_inr]
  congr 2
  omega
/-- The day of a weekly rule. -/
def wkD (y m w d : Int) : Int :=
  if yS y + mC y (m + 1) ≤ yS y + mC y m + (d - ((yS y + mC y m + 3) % 7 + 1) % 7 + 7) % 7 + 7 * (w - 1) then yS y + mC y m + (d - ((yS y + mC y m + 3) % 7 + 1) % 7 + 7) % 7 + 7 * (w - 1) - 7
  else yS y + mC y m + (d - ((yS y + mC y m + 3) % 7 + 1) % 7 + 7) % 7 + 7 * (w - 1)
theorem ruleWeek (k m w d t y : Int) (hy : -20000 ≤ y ∧ y ≤ 20000) (hm : 1 ≤ m ∧ m ≤ 12) (hw : 1 ≤ w ∧ w ≤ 5) (hd : 0 ≤ d ∧ d ≤ 6) : F_ruleWeek ((k, m, w, d, t), y) = some (wkD y m w d, 0) := by
  have hb := yS_big hy
  have h1 := mC_le y m (by omega) (by omega)
  have h2 := mC_le y (m + 1) (by omega) (by omega)
  rw [e_ruleWeek, ruleMonth y m hy (by omega)]
  simp only [Option.bind_some]
  rw [cond_dec, if_neg (by simp), wrap_i64 (x := m + 1) (by omega) (by omega), ruleMonth y (m + 1) hy (by omega)]
  simp only [Option.bind_some]
  rw [cond_dec, if_neg (by simp), dayWeekday]
  simp only [Option.bind_some]
  unfold wkD
  have hF : -9000000 ≤ yS y + mC y m ∧ yS y + mC y m ≤ 9000400 := by omega
  generalize yS y + mC y m = F at hF ⊢
  generalize yS y + mC y (m + 1) = N
  rw [tmod_nn (a := (F + 3) % 7 + 1) (by omega)]
  simp only [wrap_add_l, wrap_add_r, wrap_sub_l, wrap_sub_r, wrap_mul_l, wrap_mul_r]
  rw [wrap_i64 (x := d - ((F + 3) % 7 + 1) % 7 + 7) (by omega) (by omega), tmod_nn (a := d - ((F + 3) % 7 + 1) % 7 + 7) (by omega)]
  rw [wrap_i64 (x := F + ((d - ((F + 3) % 7 + 1) % 7 + 7) % 7 + 7 * (w - 1))) (by omega) (by omega), wrap_i64 (x := F + ((d - ((F + 3) % 7 + 1) % 7 + 7) % 7 + 7 * (w - 1)) - 7) (by omega) (by omega), cond_dec, ← Int.add_assoc]
  by_cases hN : N ≤ F + (d - ((F + 3) % 7 + 1) % 7 + 7) % 7 + 7 * (w - 1)
  · rw [if_pos hN, if_pos hN]
  · rw [if_neg hN, if_neg hN]
/-- The day of a rule in a year. -/
def rD (r : Rul) (y : Int) : Int :=
  if r.1 = 3 then wkD y r.2.1 r.2.2.1 r.2.2.2.1 else if r.1 = 1 then (if r.2.2.2.1 < 60 ∨ ¬ leap y then yS y + r.2.2.2.1 - 1 else yS y + r.2.2.2.1) else yS y + r.2.2.2.1
theorem rck_may {r : Rul} (h : rckR r = 0) : may r.1 r.2.1 r.2.2.1 r.2.2.2.1 ∧ -604799 ≤ r.2.2.2.2 ∧ r.2.2.2.2 ≤ 604799 := by
  unfold rckR rck at h
  split at h
  · split at h
    · rename_i h2; exact h2
    · cases h
  · cases h
theorem wkD_range (y m w d : Int) (hm : 1 ≤ m ∧ m ≤ 12) (hw : 1 ≤ w ∧ w ≤ 5) : yS y + mC y m ≤ wkD y m w d ∧ wkD y m w d < yS y + mC y m + mL y m := by
  have h4 := mC_succ y m (by omega) (by omega)
  have h5 := mL_le y m
  unfold wkD
  rw [h4, ← Int.add_assoc]
  generalize yS y + mC y m = F
  split
  · omega
  · omega
/-- Where a rule's day lies. -/
theorem rD_range {r : Rul} (h : rckR r = 0) (y : Int) : yS y - 6 ≤ rD r y ∧ rD r y ≤ yS y + 366 := by
  obtain ⟨hm, _⟩ := rck_may h
  unfold may at hm
  unfold rD
  by_cases h3 : r.1 = 3
  · rw [if_pos h3]
    have h1 := mC_le y r.2.1 (by omega) (by omega)
    have h2 := mC_le y (r.2.1 + 1) (by omega) (by omega)
    have h4 := mC_succ y r.2.1 (by omega) (by omega)
    have h5 := wkD_range y r.2.1 r.2.2.1 r.2.2.2.1 (by omega) (by omega)
    omega
  · rw [if_neg h3]
    split
    · split
      · omega
      · omega
    · omega
/-- A rule's days are nearly a year apart. -/
theorem rD_next {r : Rul} (h : rckR r = 0) (y : Int) : rD r y + 330 ≤ rD r (y + 1) := by
  obtain ⟨hm, _⟩ := rck_may h
  have hy := yS_succ y
  have hL := yL_le y
  unfold may at hm
  unfold rD
  by_cases h3 : r.1 = 3
  · rw [if_pos h3, if_pos h3]
    have h5 := mL_le y r.2.1
    have h8 : mC y r.2.1 - 1 ≤ mC (y + 1) r.2.1 := by
      unfold mC
      split
      · omega
      · split
        · split <;> omega
        · split <;> omega
    have h9 := wkD_range y r.2.1 r.2.2.1 r.2.2.2.1 (by omega) (by omega)
    have h10 := wkD_range (y + 1) r.2.1 r.2.2.1 r.2.2.2.1 (by omega) (by omega)
    omega
  · rw [if_neg h3, if_neg h3]
    split
    · split
      · split <;> omega
      · split <;> omega
    · omega
theorem ruleDay {r : Rul} {y : Int} (h : rckR r = 0) (hy : -10001 ≤ y ∧ y ≤ 10001) : F_ruleDay (r, y) = some (rD r y, 0) := by
  obtain ⟨hm, _⟩ := rck_may h
  unfold may at hm
  obtain ⟨k, m, w, d, t⟩ := r
  have hb := yS_big (y := y) (by omega)
  have hc : F_ruleCheck (k, m, w, d, t) = some 0 := by rw [ruleCheck]; exact congrArg some h
  rw [e_ruleDay, hc]
  simp only [Option.bind_some]
  rw [cond_dec, if_neg (by simp), ruleIn, decide_eq_true (show (-10001 : Int) ≤ y ∧ y ≤ 10001 from hy)]
  simp only [Option.bind_some, Bool.not_true, cond_false]
  rw [cond_dec]
  unfold rD
  simp only at hm ⊢
  by_cases h3 : k = 3
  · rw [if_pos h3, if_pos h3, ruleWeek k m w d t y (by omega) (by omega) (by omega) (by omega)]
    rfl
  · rw [if_neg h3, if_neg h3, dayStart y (by omega)]
    simp only [Option.bind_some]
    rw [cond_dec, if_neg (by simp), cond_dec]
    by_cases h1 : k = 1
    · rw [if_pos h1, if_pos h1, cond_dec, wrap_sub_l, wrap_i64 (x := yS y + d - 1) (by omega) (by omega)]
      by_cases h60 : d < 60
      · rw [if_pos h60, if_pos (.inl h60)]
      · rw [if_neg h60, dayLeap]
        simp only [Option.bind_some]
        by_cases hl : leap y
        · rw [decide_eq_true hl, if_neg (by simp [h60, hl]), wrap_i64 (x := yS y + d) (by omega) (by omega)]
          rfl
        · rw [decide_eq_false hl, if_pos (.inr hl)]
          rfl
    · rw [if_neg h1, if_neg h1, wrap_i64 (x := yS y + d) (by omega) (by omega)]
def rA (r : Rul) (y : Int) : Int := rD r y * 86400 + r.2.2.2.2
theorem ruleAt {r : Rul} {y : Int} (h : rckR r = 0) (hy : -10001 ≤ y ∧ y ≤ 10001) : F_ruleAt (r, y) = some (rA r y, 0) := by
  have hb := yS_big (y := y) (by omega)
  have hr := rD_range h y
  obtain ⟨_, ht⟩ := rck_may h
  have hd := ruleDay h hy
  obtain ⟨k, m, w, d, t⟩ := r
  rw [e_ruleAt, hd]
  simp only [Option.bind_some]
  simp only at ht
  rw [cond_dec, if_neg (by simp), wrap_add_l, wrap_i64 (by omega) (by omega)]
  rfl
end Go.Sm
/- The reference of plans; the law PosixParses. No condition. -/
set_option linter.unusedVariables false
namespace Go.Sm
open Go.Proofs

/-! ### horologe/horologenum.Num -/
noncomputable abbrev ct_lawNum : List (FuncId × Bool × SpecT) := []
theorem cs_lawNum : AllSound Tryz.prog ct_lawNum := trivial
noncomputable def F_lawNum (x : (Int)) : Option (Int) := (evalF Tryz.prog (lookT ct_lawNum) (keepT []) (loopsT []) false false Tryz.f11 (codP [pE]) 1 (codP [pI]) x).run
noncomputable abbrev s_lawNum : SpecT := specF (codP [pE]) 1 (codP [pI]) F_lawNum
theorem so_lawNum : SoundT Tryz.prog 11 s_lawNum := soundG (P := Tryz.prog) mixed (t := ct_lawNum) cs_lawNum (f := 11) (fn := Tryz.f11) Tryz.func11 (by kernel_rfl) (by kernel_rfl) (by kernel_rfl) (ls := []) (by kernel_rfl) (kp := keepT []) (lps := loopsT []) (bump := false) (ice := false) (A := (codP [pE])) (n := 1) (R := (codP [pI])) fun _ => lps_nil

theorem e_lawNum (e : Int) : F_lawNum e = (
  bif decide (e = (0 : Int)) then some (0 : Int) else bif !decide (e = (0 : Int)) then bif decide (e ≠ (0 : Int)) then some e else some (-1 : Int) else some (-1 : Int)) := by kernel_rfl


/-! ### horologe/horologelaw16.Document -/
noncomputable abbrev ct_law16Document : List (FuncId × Bool × SpecT) := []
theorem cs_law16Document : AllSound Tryz.prog ct_law16Document := trivial
noncomputable def F_law16Document (x : ((Int × Int × Int × Int × Int))) : Option ((Int × Int × Int × Int × Int)) := (evalF Tryz.prog (lookT ct_law16Document) (keepT []) (loopsT []) false false Tryz.f59 (codP [pRule]) 1 (codP [pRule]) x).run
noncomputable abbrev s_law16Document : SpecT := specF (codP [pRule]) 1 (codP [pRule]) F_law16Document
theorem so_law16Document : SoundT Tryz.prog 59 s_law16Document := soundG (P := Tryz.prog) mixed (t := ct_law16Document) cs_law16Document (f := 59) (fn := Tryz.f59) Tryz.func59 (by kernel_rfl) (by kernel_rfl) (by kernel_rfl) (ls := []) (by kernel_rfl) (kp := keepT []) (lps := loopsT []) (bump := false) (ice := false) (A := (codP [pRule])) (n := 1) (R := (codP [pRule])) fun _ => lps_nil

theorem e_law16Document (r : Int × Int × Int × Int × Int) : F_law16Document r = (
  some r) := by kernel_rfl


/-! ### horologe/horologelaw17.Document -/
noncomputable abbrev ct_law17Document : List (FuncId × Bool × SpecT) := [(59, false, s_law16Document)]
theorem cs_law17Document : AllSound Tryz.prog ct_law17Document := ⟨so_law16Document, trivial⟩
noncomputable def F_law17Document (x : ((List UInt8 × List UInt8 × Int × Int × (Int × Int × Int × Int × Int) × (Int × Int × Int × Int × Int)))) : Option ((List UInt8 × List UInt8 × Int × Int × (Int × Int × Int × Int × Int) × (Int × Int × Int × Int × Int))) := (evalF Tryz.prog (lookT ct_law17Document) (keepT []) (loopsT []) false false Tryz.f22 (codP [pPlan]) 1 (codP [pPlan]) x).run
noncomputable abbrev s_law17Document : SpecT := specF (codP [pPlan]) 1 (codP [pPlan]) F_law17Document
theorem so_law17Document : SoundT Tryz.prog 22 s_law17Document := soundG (P := Tryz.prog) mixed (t := ct_law17Document) cs_law17Document (f := 22) (fn := Tryz.f22) Tryz.func22 (by kernel_rfl) (by kernel_rfl) (by kernel_rfl) (ls := []) (by kernel_rfl) (kp := keepT []) (lps := loopsT []) (bump := false) (ice := false) (A := (codP [pPlan])) (n := 1) (R := (codP [pPlan])) fun _ => lps_nil

theorem e_law17Document (p : List UInt8 × List UInt8 × Int × Int × (Int × Int × Int × Int × Int) × (Int × Int × Int × Int × Int)) : F_law17Document p = (
  (F_law16Document p.snd.snd.snd.snd.fst).bind fun x1 => (F_law16Document p.snd.snd.snd.snd.snd).bind fun x2 => some (p.fst, p.snd.fst, p.snd.snd.fst, p.snd.snd.snd.fst, x1, x2)) := by kernel_rfl



end Go.Sm
/- The law FooterBegins. No condition. -/
set_option linter.unusedVariables false
namespace Go.Sm
open Go.Proofs
/-! ### horologe/horologelaw18.alive -/
noncomputable abbrev ct_law18alive : List (FuncId × Bool × SpecT) := [(78, false, s_pxParse), (45, false, s_ftAt)]
theorem cs_law18alive : AllSound Tryz.prog ct_law18alive := ⟨so_pxParse, so_ftAt, trivial⟩
noncomputable def F_law18alive (x : Unit) : Option (Bool) := (evalF Tryz.prog (lookT ct_law18alive) (keepT []) (loopsT []) false false Tryz.f43 (codP []) 1 (codP [pB]) x).run
noncomputable abbrev s_law18alive : SpecT := specF (codP []) 1 (codP [pB]) F_law18alive
theorem so_law18alive : SoundT Tryz.prog 43 s_law18alive := soundG (P := Tryz.prog) mixed (t := ct_law18alive) cs_law18alive (f := 43) (fn := Tryz.f43) Tryz.func43 (by kernel_rfl) (by kernel_rfl) (by kernel_rfl) (ls := []) (by kernel_rfl) (kp := keepT []) (lps := loopsT []) (bump := false) (ice := false) (A := (codP [])) (n := 1) (R := (codP [pB])) fun _ => lps_nil

theorem e_law18alive  : F_law18alive () = (
  (F_pxParse
        [(69 : UInt8), (83 : UInt8), (84 : UInt8), (53 : UInt8), (69 : UInt8), (68 : UInt8), (84 : UInt8), (44 : UInt8), (77 : UInt8), (51 : UInt8), (46 : UInt8), (50 : UInt8), (46 : UInt8),
          (48 : UInt8), (44 : UInt8), (77 : UInt8), (49 : UInt8), (49 : UInt8), (46 : UInt8), (49 : UInt8), (46 : UInt8), (48 : UInt8)]).bind
    fun x1 =>
    (F_ftAt (x1.fst, (1710054000 : Int))).bind fun x2 =>
      (F_ftAt (x1.fst, (1710053999 : Int))).bind fun x3 =>
        bif decide (x1.snd = (0 : Int)) then
          bif decide (x2.snd = (0 : Int)) then
            bif decide (x3.snd = (0 : Int)) then
              bif decide (x2.fst.snd.snd = [(69 : UInt8), (68 : UInt8), (84 : UInt8)]) then
                bif decide (x3.fst.snd.snd = [(69 : UInt8), (83 : UInt8), (84 : UInt8)]) then some (decide (x2.fst.fst = (-14400 : Int))) else some false
              else some false
            else some false
          else some false
        else some false) := by kernel_rfl


/-! ### horologe/horologelaw17.Long -/
noncomputable abbrev ct_law17LongA : List (FuncId × Bool × SpecT) := []
theorem cs_law17LongA : AllSound Tryz.prog ct_law17LongA := trivial
noncomputable def F_law17LongA (x : ((List UInt8 × List UInt8 × Int × Int × (Int × Int × Int × Int × Int) × (Int × Int × Int × Int × Int)))) : Option (Bool) := (evalF Tryz.prog (lookT ct_law17LongA) (keepT []) (loopsT []) false false Tryz.f44 (codP [pPlan]) 1 (codP [pB]) x).run
noncomputable abbrev s_law17LongA : SpecT := specF (codP [pPlan]) 1 (codP [pB]) F_law17LongA
theorem so_law17LongA : SoundT Tryz.prog 44 s_law17LongA := soundG (P := Tryz.prog) mixed (t := ct_law17LongA) cs_law17LongA (f := 44) (fn := Tryz.f44) Tryz.func44 (by kernel_rfl) (by kernel_rfl) (by kernel_rfl) (ls := []) (by kernel_rfl) (kp := keepT []) (lps := loopsT []) (bump := false) (ice := false) (A := (codP [pPlan])) (n := 1) (R := (codP [pB])) fun _ => lps_nil

theorem e_law17LongA (p : List UInt8 × List UInt8 × Int × Int × (Int × Int × Int × Int × Int) × (Int × Int × Int × Int × Int)) : F_law17LongA p = (
  bif decide ((60 : Int) < (↑(List.length p.fst) : Int)) then some true else some (decide ((60 : Int) < (↑(List.length p.snd.fst) : Int)))) := by kernel_rfl


end Go.Sm
/- A function that hands out an empty part of memory of its own, of any capacity: as an empty slice of one's own. No condition. -/
set_option linter.unusedVariables false
set_option linter.unusedSimpArgs false
namespace Go.Sm

def cutSpec (c : Cd) (F : Unit × Int → Option (List (τ c))) : SpecT := fun args H => match args, H with
  | [.nils, .int .i64 n], [] => .bnd (F ((), n)) fun l => .ite (decide (0 < l.length)) (.ret (.slc 0 0, [.arr false 0 c []])) .no
  | _, _ => .no
theorem cut_sound {P : Program} {f : FuncId} {c : Cd} {F : Unit × Int → Option (List (τ c))} (h : SoundT P f (specF (codP [.nl, pI]) 1 (codP [.cut c]) F)) : SoundT P f (cutSpec c F) := by
  intro args H r H' hr
  replace hr : (cutSpec c F args H).run = some (r, H') := hr
  unfold cutSpec at hr
  split at hr
  · rename_i n
    obtain ⟨l, hF, hr⟩ := run_bnd hr
    rcases run_ite hr with ⟨hl, hr⟩ | ⟨_, hr⟩
    · have hl := of_decide_eq_true hl
      obtain ⟨rfl, rfl⟩ := Prod.mk.inj (run_ret hr)
      have hS := h [.nils, .int .i64 n] [] (.sub 0 0 (sizeC c) 0 0) [.arr false 0 c l] (by
        show (specF (codP [.nl, pI]) 1 (codP [.cut c]) F [.nils, .int .i64 n] []).run = _
        unfold specF
        rw [show (codP [.nl, pI]).dec [.nils, .int .i64 n] [] = some ((), n) from rfl]
        dsimp only
        rw [hF]
        rfl)
      refine ⟨hS.there, fun M e w vs hr hc => (hS.calls M e w vs hr hc).mono fun en w' ⟨cv, M', e', he, hT, hv⟩ => ?_⟩
      have hr' := hT.hr
      have hN : e'.N = 1 := hr'.N
      have hb := hr'.blk 0 _ rfl
      obtain ⟨h1, h2, h3, h4⟩ := hb
      refine ⟨cv, M', { e' with cnt := fun b => if b = 0 then 0 else e'.cnt b }, he, ?_, ?_⟩
      · have hfoot : ∀ i, foot { e' with cnt := fun b => if b = 0 then 0 else e'.cnt b } [.arr false 0 c []] i ↔ foot e' [.arr false 0 c l] i := by
          intro i
          constructor
          · rintro ⟨b, x, hx, hi⟩
            cases b with
            | zero => obtain rfl := Option.some.inj hx; exact ⟨0, _, rfl, hi⟩
            | succ b => simp at hx
          · rintro ⟨b, x, hx, hi⟩
            cases b with
            | zero => obtain rfl := Option.some.inj hx; exact ⟨0, _, rfl, hi⟩
            | succ b => simp at hx
        have he0 : e.N = 0 := hr.N
        exact {
          mle := hT.mle
          rle := ⟨hT.rle.N, fun b hb => by omega, fun b hb => by omega, fun b hb => by omega, fun b hb => by omega⟩
          hr := {
            N := hr'.N
            mem := hr'.mem
            blk := fun b x hx => by
              cases b with
              | zero =>
                obtain rfl := Option.some.inj hx
                refine ⟨h1, rfl, h3, ?_⟩
                show match e'.g 0 with | none => _ | some (gg, cc) => _
                cases hg : e'.g 0 with
                | none => rfl
                | some p =>
                  obtain ⟨gg, cc⟩ := p
                  rw [hg] at h4
                  obtain ⟨_, arr, ty, fz, q1, q2, q3, q4, q5⟩ := h4
                  exact ⟨Nat.zero_le _, arr, ty, fz, q1, q2, q3, fun i j y z hy hz => by simp at hy, q5⟩
              | succ b => simp at hx
            inj := fun b b' x x' i hx hx' _ _ => by
              cases b with
              | zero =>
                cases b' with
                | zero => rfl
                | succ b' => simp at hx'
              | succ b => simp at hx
            glob := hr'.glob
            kind := fun b x hx => by
              cases b with
              | zero => obtain rfl := Option.some.inj hx; exact hr'.kind 0 (.arr false 0 c l) rfl
              | succ b => simp at hx }
          os := hT.os
          tape := hT.tape
          output := hT.output
          size := hT.size
          same := hT.same
          ids := fun i hi => hT.ids i ((hfoot i).1 hi)
          fresh := hT.fresh }
      · cases hv with
        | @sub _ _ _ _ _ _ a m cap hbN ha hvv hh =>
          obtain ⟨rfl, _, _, hgg⟩ := hh h1.symm
          refine .slc hbN ha hvv fun _ => ⟨rfl, ?_⟩
          show match e'.g 0 with | none => _ | some (gg, cc) => _
          cases hg : e'.g 0 with
          | none =>
            rw [hg] at h4
            have h4 : l = [] := h4
            subst h4
            simp at hl
          | some p =>
            obtain ⟨gg, cc⟩ := p
            rw [hg] at h4
            obtain ⟨q0, _⟩ := h4
            obtain ⟨k1, k2⟩ := hgg gg cc hg
            have := k2 (by omega)
            rw [Nat.zero_mul] at this
            exact ⟨this, by omega⟩
    · exact (run_no hr).elim
  · exact (run_no hr).elim
end Go.Sm
/- The turn behind a second; the law FooterSteps. No condition. -/
set_option linter.unusedVariables false
namespace Go.Sm
open Go.Proofs
/-! ### slices.Grow[[]int64,int64] -/
noncomputable abbrev ct_slGrow : List (FuncId × Bool × SpecT) := []
theorem cs_slGrow : AllSound Tryz.prog ct_slGrow := trivial
noncomputable def F_slGrow (x : (Unit × Int)) : Option ((List Int)) := (evalF Tryz.prog (lookT ct_slGrow) (keepT []) (loopsT []) false false Tryz.f131 (codP [.nl, pI]) 1 (codP [(.cut cI)]) x).run
noncomputable abbrev s_slGrow : SpecT := specF (codP [.nl, pI]) 1 (codP [(.cut cI)]) F_slGrow
theorem so_slGrow : SoundT Tryz.prog 131 s_slGrow := soundG (P := Tryz.prog) mixed (t := ct_slGrow) cs_slGrow (f := 131) (fn := Tryz.f131) Tryz.func131 (by kernel_rfl) (by kernel_rfl) (by kernel_rfl) (ls := []) (by kernel_rfl) (kp := keepT []) (lps := loopsT []) (bump := false) (ice := false) (A := (codP [.nl, pI])) (n := 1) (R := (codP [(.cut cI)])) fun _ => lps_nil

theorem e_slGrow (n : Int) : F_slGrow ((), n) = (
  bif decide (n < (0 : Int)) then none
  else
    bif decide ((0 : Int) < IntKind.i64.wrap (n - (0 : Int))) then
      bif decide ((0 : Int) < IntKind.i64.wrap (n - (0 : Int)) ∧ (8 : Int) * IntKind.i64.wrap (n - (0 : Int)) ≤ (140737488355328 : Int) ∧ IntKind.i64.wrap (n - (0 : Int)) ≤ (140737488355328 : Int)) then
        bif decide ((0 : Int) ≤ (0 : Int) ∧ (0 : Int) ≤ (0 : Int) ∧ (0 : Int) ≤ (↑(List.replicate (IntKind.i64.wrap (n - (0 : Int))).toNat (0 : Int)).length : Int)) then
          some (List.replicate (IntKind.i64.wrap (n - (0 : Int))).toNat (0 : Int))
        else none
      else none
    else none) := by kernel_rfl


noncomputable abbrev s_Grow0 : SpecT := cutSpec cI F_slGrow
theorem so_Grow0 : SoundT Tryz.prog 131 s_Grow0 := cut_sound so_slGrow

/-! ### slices.Concat[[]int64,int64] -/
noncomputable abbrev ct_slConcat : List (FuncId × Bool × SpecT) := [(131, false, s_Grow0)]
theorem cs_slConcat : AllSound Tryz.prog ct_slConcat := ⟨so_Grow0, trivial⟩
-- loop 0 (key 3) exit 0: [0, 3, 9, 10, 11]
-- loop 0 (key 3) exit 3: [0, 3]
-- loop 1 (key 11) exit 0: [6, 25, 26, 27]
-- loop 1 (key 11) exit 5: [6]
abbrev kp_slConcat : Keep := keepT [(3, 0, [(0, none), (3, none), (9, none), (10, none), (11, none)]), (3, 3, [(0, none), (3, none)]), (11, 0, [(6, some cI), (25, none), (26, none), (27, none)]), (11, 5, [(6, some cI)])]
noncomputable abbrev b_slConcat_0 : Code := loopAt Tryz.f83 0
noncomputable abbrev b_slConcat_1 : Code := loopAt Tryz.f83 1
noncomputable def sp_slConcat_1 (x : ((List Int) × (List (List Int)) × Int × Int)) : Option (((List Int) × (List (List Int)) × Int × Int) ⊕ ((List Int))) := (stepL Tryz.prog (lookT ct_slConcat) kp_slConcat (loopsT []) 0 false b_slConcat_1 (codP [(.own cI), (.pure (.lst (.lst cI))), pI, pI]) (exO (.ext 2) (codP [(.own cI)])) x).run
noncomputable def w_slConcat_1 : ((List Int) × (List (List Int)) × Int × Int) → Option ((List Int)) := whileO sp_slConcat_1
theorem ew_slConcat_1 (x : ((List Int) × (List (List Int)) × Int × Int)) : w_slConcat_1 x = (sp_slConcat_1 x).bind (Sum.elim w_slConcat_1 some) := whileO_eq _ _
noncomputable abbrev l_slConcat_1 : LT := ltF (codP [(.own cI), (.pure (.lst (.lst cI))), pI, pI]) (exO (.ext 2) (codP [(.own cI)])) w_slConcat_1
theorem lo_slConcat_1 : LoopOk Tryz.prog Tryz.f83.ntmps kp_slConcat 0 false b_slConcat_1 l_slConcat_1 := loopG mixed cs_slConcat (lps := loopsT []) (by kernel_rfl) (ls := []) (by kernel_rfl) lps_nil
noncomputable def sp_slConcat_0 (x : ((List (List Int)) × Int × (List (List Int)) × Int × Int)) : Option (((List (List Int)) × Int × (List (List Int)) × Int × Int) ⊕ ((List (List Int)) × Int)) := (stepL Tryz.prog (lookT ct_slConcat) kp_slConcat (loopsT []) 0 false b_slConcat_0 (codP [(.pure (.lst (.lst cI))), pI, (.pure (.lst (.lst cI))), pI, pI]) (exO (.ext 0) (codP [(.pure (.lst (.lst cI))), pI])) x).run
noncomputable def w_slConcat_0 : ((List (List Int)) × Int × (List (List Int)) × Int × Int) → Option ((List (List Int)) × Int) := whileO sp_slConcat_0
theorem ew_slConcat_0 (x : ((List (List Int)) × Int × (List (List Int)) × Int × Int)) : w_slConcat_0 x = (sp_slConcat_0 x).bind (Sum.elim w_slConcat_0 some) := whileO_eq _ _
noncomputable abbrev l_slConcat_0 : LT := ltF (codP [(.pure (.lst (.lst cI))), pI, (.pure (.lst (.lst cI))), pI, pI]) (exO (.ext 0) (codP [(.pure (.lst (.lst cI))), pI])) w_slConcat_0
theorem lo_slConcat_0 : LoopOk Tryz.prog Tryz.f83.ntmps kp_slConcat 0 false b_slConcat_0 l_slConcat_0 := loopG mixed cs_slConcat (lps := loopsT []) (by kernel_rfl) (ls := []) (by kernel_rfl) lps_nil
noncomputable def F_slConcat (x : ((List (List Int)))) : Option ((List Int)) := (evalF Tryz.prog (lookT ct_slConcat) (kp_slConcat) (loopsT [(3, l_slConcat_0), (11, l_slConcat_1)]) false true Tryz.f83 (codP [(.pure (.lst (.lst cI)))]) 1 (codP [pL]) x).run
noncomputable abbrev s_slConcat : SpecT := specF (codP [(.pure (.lst (.lst cI)))]) 1 (codP [pL]) F_slConcat
theorem so_slConcat : SoundT Tryz.prog 83 s_slConcat := soundG (P := Tryz.prog) mixed (t := ct_slConcat) cs_slConcat (f := 83) (fn := Tryz.f83) Tryz.func83 (by kernel_rfl) (by kernel_rfl) (by kernel_rfl) (ls := [b_slConcat_0, b_slConcat_1]) (by kernel_rfl) (kp := kp_slConcat) (lps := loopsT [(3, l_slConcat_0), (11, l_slConcat_1)]) (bump := false) (ice := true) (A := (codP [(.pure (.lst (.lst cI)))])) (n := 1) (R := (codP [pL])) fun _ => (lps_cons l_slConcat_0 (by kernel_rfl) lo_slConcat_0 (lps_cons l_slConcat_1 (by kernel_rfl) lo_slConcat_1 lps_nil))

theorem es_slConcat_0 (l : List (List Int)) (n : Int) (k : List (List Int)) (a b : Int) : sp_slConcat_0 (l, n, k, a, b) = (
  bif decide (b < a) then
    (getI k b).bind fun x1 =>
      bif decide (IntKind.i64.wrap (n + (↑x1.length : Int)) < (0 : Int)) then none else some (Sum.inl (l, IntKind.i64.wrap (n + (↑x1.length : Int)), k, a, IntKind.i64.wrap (b + (1 : Int))))
  else some (Sum.inr (l, n))) := by kernel_rfl

theorem es_slConcat_1 (o : List Int) (k : List (List Int)) (a b : Int) : sp_slConcat_1 (o, k, a, b) = (
  bif decide (b < a) then (getI k b).bind fun x1 => bif roomB o.length x1.length (8 : Nat) then some (Sum.inl (o ++ x1, k, a, IntKind.i64.wrap (b + (1 : Int)))) else none else some (Sum.inr o)) := by kernel_rfl

theorem e_slConcat (l : List (List Int)) : F_slConcat l = (
  (w_slConcat_0 (l, (0 : Int), l, (↑l.length : Int), (0 : Int))).bind fun x1 =>
    (F_slGrow ((), x1.snd)).bind fun x2 => bif decide ((0 : Nat) < x2.length) then (w_slConcat_1 ([], x1.fst, (↑(List.length x1.fst) : Int), (0 : Int))).bind fun x3 => some x3 else none) := by kernel_rfl


/-! ### horologe/footer.Next -/
noncomputable abbrev ct_ftNext : List (FuncId × Bool × SpecT) := [(51, false, s_pxCheck), (79, false, s_ftYear), (81, false, s_pxChanges), (82, false, s_ftAbout), (83, true, s_slConcat)]
theorem cs_ftNext : AllSound Tryz.prog ct_ftNext := ⟨so_pxCheck, so_ftYear, so_pxChanges, so_ftAbout, so_slConcat, trivial⟩
-- loop 0 (key 11) exit 0: [1, 4, 5, 44, 45, 46]
-- loop 0 (key 11) exit 3: [4, 5]
abbrev kp_ftNext : Keep := keepT [(11, 0, [(1, none), (4, none), (5, none), (44, none), (45, none), (46, none)]), (11, 3, [(4, none), (5, none)])]
noncomputable abbrev b_ftNext_0 : Code := loopAt Tryz.f46 0
noncomputable def sp_ftNext_0 (x : (Int × Int × Bool × (List Int) × Int × Int)) : Option ((Int × Int × Bool × (List Int) × Int × Int) ⊕ (Int × Bool)) := (stepL Tryz.prog (lookT ct_ftNext) kp_ftNext (loopsT []) 0 false b_ftNext_0 (codP [pI, pI, pB, pL, pI, pI]) (exO (.ext 0) (codP [pI, pB])) x).run
noncomputable def w_ftNext_0 : (Int × Int × Bool × (List Int) × Int × Int) → Option (Int × Bool) := whileO sp_ftNext_0
theorem ew_ftNext_0 (x : (Int × Int × Bool × (List Int) × Int × Int)) : w_ftNext_0 x = (sp_ftNext_0 x).bind (Sum.elim w_ftNext_0 some) := whileO_eq _ _
noncomputable abbrev l_ftNext_0 : LT := ltF (codP [pI, pI, pB, pL, pI, pI]) (exO (.ext 0) (codP [pI, pB])) w_ftNext_0
theorem lo_ftNext_0 : LoopOk Tryz.prog Tryz.f46.ntmps kp_ftNext 0 false b_ftNext_0 l_ftNext_0 := loopG mixed cs_ftNext (lps := loopsT []) (by kernel_rfl) (ls := []) (by kernel_rfl) lps_nil
noncomputable def F_ftNext (x : ((List UInt8 × List UInt8 × Int × Int × (Int × Int × Int × Int × Int) × (Int × Int × Int × Int × Int)) × Int)) : Option (Int × Bool × Int) := (evalF Tryz.prog (lookT ct_ftNext) (kp_ftNext) (loopsT [(11, l_ftNext_0)]) false false Tryz.f46 (codP [pPlan, pI]) 3 (codP [pI, pB, pE]) x).run
noncomputable abbrev s_ftNext : SpecT := specF (codP [pPlan, pI]) 3 (codP [pI, pB, pE]) F_ftNext
theorem so_ftNext : SoundT Tryz.prog 46 s_ftNext := soundG (P := Tryz.prog) mixed (t := ct_ftNext) cs_ftNext (f := 46) (fn := Tryz.f46) Tryz.func46 (by kernel_rfl) (by kernel_rfl) (by kernel_rfl) (ls := [b_ftNext_0]) (by kernel_rfl) (kp := kp_ftNext) (lps := loopsT [(11, l_ftNext_0)]) (bump := false) (ice := false) (A := (codP [pPlan, pI])) (n := 3) (R := (codP [pI, pB, pE])) fun _ => (lps_cons l_ftNext_0 (by kernel_rfl) lo_ftNext_0 lps_nil)

theorem es_ftNext_0 (t u : Int) (b : Bool) (l : List Int) (n i : Int) : sp_ftNext_0 (t, u, b, l, n, i) = (
  bif decide (i < n) then
    (getI l i).bind fun x1 =>
      bif decide (t < x1) then
        bif !b then some (Sum.inl (t, x1, true, l, n, IntKind.i64.wrap (i + (1 : Int))))
        else bif decide (x1 < u) then some (Sum.inl (t, x1, true, l, n, IntKind.i64.wrap (i + (1 : Int)))) else some (Sum.inl (t, u, b, l, n, IntKind.i64.wrap (i + (1 : Int))))
      else some (Sum.inl (t, u, b, l, n, IntKind.i64.wrap (i + (1 : Int))))
  else some (Sum.inr (u, b))) := by kernel_rfl

theorem e_ftNext (p : List UInt8 × List UInt8 × Int × Int × (Int × Int × Int × Int × Int) × (Int × Int × Int × Int × Int)) (t : Int) : F_ftNext (p, t) = (
  (F_pxCheck p).bind fun x1 =>
    bif decide (x1 ≠ (0 : Int)) then some ((0 : Int), false, x1)
    else
      (F_ftYear t).bind fun x2 =>
        bif decide (x2.snd ≠ (0 : Int)) then some ((0 : Int), false, x2.snd)
        else
          (F_pxChanges p).bind fun x3 =>
            bif !x3 then some ((0 : Int), false, x2.snd)
            else
              (F_ftAbout (p, x2.fst)).bind fun x4 =>
                bif decide (x4.snd.snd ≠ (0 : Int)) then some ((0 : Int), false, x4.snd.snd)
                else (F_slConcat [x4.fst, x4.snd.fst]).bind fun x5 => (w_ftNext_0 (t, (0 : Int), false, x5, (↑x5.length : Int), (0 : Int))).bind fun x6 => some (x6.fst, x6.snd, (0 : Int))) := by kernel_rfl


end Go.Sm
/- The references of days, rules' days and footers; the law FooterTells. No condition. -/
set_option linter.unusedVariables false
namespace Go.Sm
open Go.Proofs
/-! ### horologe/horologeref05.Leap -/
noncomputable abbrev ct_r5Leap : List (FuncId × Bool × SpecT) := []
theorem cs_r5Leap : AllSound Tryz.prog ct_r5Leap := trivial
noncomputable def F_r5Leap (x : (Int)) : Option (Bool) := (evalF Tryz.prog (lookT ct_r5Leap) (keepT []) (loopsT []) false false Tryz.f176 (codP [pI]) 1 (codP [pB]) x).run
noncomputable abbrev s_r5Leap : SpecT := specF (codP [pI]) 1 (codP [pB]) F_r5Leap
theorem so_r5Leap : SoundT Tryz.prog 176 s_r5Leap := soundG (P := Tryz.prog) mixed (t := ct_r5Leap) cs_r5Leap (f := 176) (fn := Tryz.f176) Tryz.func176 (by kernel_rfl) (by kernel_rfl) (by kernel_rfl) (ls := []) (by kernel_rfl) (kp := keepT []) (lps := loopsT []) (bump := false) (ice := false) (A := (codP [pI])) (n := 1) (R := (codP [pB])) fun _ => lps_nil

theorem e_r5Leap (y : Int) : F_r5Leap y = (
  bif decide (y.tmod (400 : Int) = (0 : Int)) then some true else bif decide (y.tmod (4 : Int) = (0 : Int)) then some (decide (y.tmod (100 : Int) ≠ (0 : Int))) else some false) := by kernel_rfl


/-! ### horologe/horologeref05.Days -/
noncomputable abbrev ct_r5Days : List (FuncId × Bool × SpecT) := [(176, false, s_r5Leap)]
theorem cs_r5Days : AllSound Tryz.prog ct_r5Days := ⟨so_r5Leap, trivial⟩
noncomputable def F_r5Days (x : (Int)) : Option (Int) := (evalF Tryz.prog (lookT ct_r5Days) (keepT []) (loopsT []) false false Tryz.f133 (codP [pI]) 1 (codP [pI]) x).run
noncomputable abbrev s_r5Days : SpecT := specF (codP [pI]) 1 (codP [pI]) F_r5Days
theorem so_r5Days : SoundT Tryz.prog 133 s_r5Days := soundG (P := Tryz.prog) mixed (t := ct_r5Days) cs_r5Days (f := 133) (fn := Tryz.f133) Tryz.func133 (by kernel_rfl) (by kernel_rfl) (by kernel_rfl) (ls := []) (by kernel_rfl) (kp := keepT []) (lps := loopsT []) (bump := false) (ice := false) (A := (codP [pI])) (n := 1) (R := (codP [pI])) fun _ => lps_nil

theorem e_r5Days (y : Int) : F_r5Days y = (
  (F_r5Leap y).bind fun x1 => bif x1 then some (366 : Int) else some (365 : Int)) := by kernel_rfl


/-! ### horologe/horologeref05.Month -/
noncomputable abbrev ct_r5Month : List (FuncId × Bool × SpecT) := [(176, false, s_r5Leap)]
theorem cs_r5Month : AllSound Tryz.prog ct_r5Month := ⟨so_r5Leap, trivial⟩
noncomputable def F_r5Month (x : (Int × Int)) : Option (Int) := (evalF Tryz.prog (lookT ct_r5Month) (keepT []) (loopsT []) false false Tryz.f134 (codP [pI, pI]) 1 (codP [pI]) x).run
noncomputable abbrev s_r5Month : SpecT := specF (codP [pI, pI]) 1 (codP [pI]) F_r5Month
theorem so_r5Month : SoundT Tryz.prog 134 s_r5Month := soundG (P := Tryz.prog) mixed (t := ct_r5Month) cs_r5Month (f := 134) (fn := Tryz.f134) Tryz.func134 (by kernel_rfl) (by kernel_rfl) (by kernel_rfl) (ls := []) (by kernel_rfl) (kp := keepT []) (lps := loopsT []) (bump := false) (ice := false) (A := (codP [pI, pI])) (n := 1) (R := (codP [pI])) fun _ => lps_nil

theorem e_r5Month (y m : Int) : F_r5Month (y, m) = (
  bif decide (m = (2 : Int)) then
    (F_r5Leap y).bind fun x1 =>
      bif x1 then some (29 : Int)
      else
        bif decide ((0 : Int) ≤ IntKind.i64.wrap (m - (1 : Int)) ∧ IntKind.i64.wrap (m - (1 : Int)) < (12 : Int)) then
          [(31 : Int), (28 : Int), (31 : Int), (30 : Int), (31 : Int), (30 : Int), (31 : Int), (31 : Int), (30 : Int), (31 : Int), (30 : Int), (31 : Int)][(IntKind.i64.wrap (m - (1 : Int))).toNat]?.bind
            fun x2 => some x2
        else none
  else
    bif decide ((0 : Int) ≤ IntKind.i64.wrap (m - (1 : Int)) ∧ IntKind.i64.wrap (m - (1 : Int)) < (12 : Int)) then
      [(31 : Int), (28 : Int), (31 : Int), (30 : Int), (31 : Int), (30 : Int), (31 : Int), (31 : Int), (30 : Int), (31 : Int), (30 : Int), (31 : Int)][(IntKind.i64.wrap (m - (1 : Int))).toNat]?.bind
        fun x1 => some x1
    else none) := by kernel_rfl


/-! ### horologe/horologeref05.Start -/
noncomputable abbrev ct_r5Start : List (FuncId × Bool × SpecT) := [(133, false, s_r5Days)]
theorem cs_r5Start : AllSound Tryz.prog ct_r5Start := ⟨so_r5Days, trivial⟩
-- loop 0 (key 2) exit 0: [0, 3]
-- loop 0 (key 2) exit 3: [0, 3]
-- loop 1 (key 5) exit 0: [0, 3]
-- loop 1 (key 5) exit 5: [0, 3]
-- loop 2 (key 9) exit 0: [0, 3, 4]
-- loop 2 (key 9) exit 7: [3]
abbrev kp_r5Start : Keep := keepT [(2, 0, [(0, none), (3, none)]), (2, 3, [(0, none), (3, none)]), (5, 0, [(0, none), (3, none)]), (5, 5, [(0, none), (3, none)]), (9, 0, [(0, none), (3, none), (4, none)]), (9, 7, [(3, none)])]
noncomputable abbrev b_r5Start_0 : Code := loopAt Tryz.f132 0
noncomputable abbrev b_r5Start_1 : Code := loopAt Tryz.f132 1
noncomputable abbrev b_r5Start_2 : Code := loopAt Tryz.f132 2
noncomputable def sp_r5Start_2 (x : (Int × Int × Int)) : Option ((Int × Int × Int) ⊕ (Int)) := (stepL Tryz.prog (lookT ct_r5Start) kp_r5Start (loopsT []) 0 false b_r5Start_2 (codP [pI, pI, pI]) (exO (.ext 4) (codP [pI])) x).run
noncomputable def w_r5Start_2 : (Int × Int × Int) → Option (Int) := whileO sp_r5Start_2
theorem ew_r5Start_2 (x : (Int × Int × Int)) : w_r5Start_2 x = (sp_r5Start_2 x).bind (Sum.elim w_r5Start_2 some) := whileO_eq _ _
noncomputable abbrev l_r5Start_2 : LT := ltF (codP [pI, pI, pI]) (exO (.ext 4) (codP [pI])) w_r5Start_2
theorem lo_r5Start_2 : LoopOk Tryz.prog Tryz.f132.ntmps kp_r5Start 0 false b_r5Start_2 l_r5Start_2 := loopG mixed cs_r5Start (lps := loopsT []) (by kernel_rfl) (ls := []) (by kernel_rfl) lps_nil
noncomputable def sp_r5Start_1 (x : (Int × Int)) : Option ((Int × Int) ⊕ (Int × Int)) := (stepL Tryz.prog (lookT ct_r5Start) kp_r5Start (loopsT []) 0 false b_r5Start_1 (codP [pI, pI]) (exO (.ext 2) (codP [pI, pI])) x).run
noncomputable def w_r5Start_1 : (Int × Int) → Option (Int × Int) := whileO sp_r5Start_1
theorem ew_r5Start_1 (x : (Int × Int)) : w_r5Start_1 x = (sp_r5Start_1 x).bind (Sum.elim w_r5Start_1 some) := whileO_eq _ _
noncomputable abbrev l_r5Start_1 : LT := ltF (codP [pI, pI]) (exO (.ext 2) (codP [pI, pI])) w_r5Start_1
theorem lo_r5Start_1 : LoopOk Tryz.prog Tryz.f132.ntmps kp_r5Start 0 false b_r5Start_1 l_r5Start_1 := loopG mixed cs_r5Start (lps := loopsT []) (by kernel_rfl) (ls := []) (by kernel_rfl) lps_nil
noncomputable def sp_r5Start_0 (x : (Int × Int)) : Option ((Int × Int) ⊕ (Int × Int)) := (stepL Tryz.prog (lookT ct_r5Start) kp_r5Start (loopsT []) 0 false b_r5Start_0 (codP [pI, pI]) (exO (.ext 0) (codP [pI, pI])) x).run
noncomputable def w_r5Start_0 : (Int × Int) → Option (Int × Int) := whileO sp_r5Start_0
theorem ew_r5Start_0 (x : (Int × Int)) : w_r5Start_0 x = (sp_r5Start_0 x).bind (Sum.elim w_r5Start_0 some) := whileO_eq _ _
noncomputable abbrev l_r5Start_0 : LT := ltF (codP [pI, pI]) (exO (.ext 0) (codP [pI, pI])) w_r5Start_0
theorem lo_r5Start_0 : LoopOk Tryz.prog Tryz.f132.ntmps kp_r5Start 0 false b_r5Start_0 l_r5Start_0 := loopG mixed cs_r5Start (lps := loopsT []) (by kernel_rfl) (ls := []) (by kernel_rfl) lps_nil
noncomputable def F_r5Start (x : (Int)) : Option (Int) := (evalF Tryz.prog (lookT ct_r5Start) (kp_r5Start) (loopsT [(2, l_r5Start_0), (5, l_r5Start_1), (9, l_r5Start_2)]) false false Tryz.f132 (codP [pI]) 1 (codP [pI]) x).run
noncomputable abbrev s_r5Start : SpecT := specF (codP [pI]) 1 (codP [pI]) F_r5Start
theorem so_r5Start : SoundT Tryz.prog 132 s_r5Start := soundG (P := Tryz.prog) mixed (t := ct_r5Start) cs_r5Start (f := 132) (fn := Tryz.f132) Tryz.func132 (by kernel_rfl) (by kernel_rfl) (by kernel_rfl) (ls := [b_r5Start_0, b_r5Start_1, b_r5Start_2]) (by kernel_rfl) (kp := kp_r5Start) (lps := loopsT [(2, l_r5Start_0), (5, l_r5Start_1), (9, l_r5Start_2)]) (bump := false) (ice := false) (A := (codP [pI])) (n := 1) (R := (codP [pI])) fun _ => (lps_cons l_r5Start_0 (by kernel_rfl) lo_r5Start_0 (lps_cons l_r5Start_1 (by kernel_rfl) lo_r5Start_1 (lps_cons l_r5Start_2 (by kernel_rfl) lo_r5Start_2 lps_nil)))

theorem es_r5Start_0 (y n : Int) : sp_r5Start_0 (y, n) = (
  bif decide (y < (1970 : Int)) then some (Sum.inl (IntKind.i64.wrap (y + (400 : Int)), IntKind.i64.wrap (n - (146097 : Int)))) else some (Sum.inr (y, n))) := by kernel_rfl

theorem es_r5Start_1 (y n : Int) : sp_r5Start_1 (y, n) = (
  bif decide ((2370 : Int) ≤ y) then some (Sum.inl (IntKind.i64.wrap (y - (400 : Int)), IntKind.i64.wrap (n + (146097 : Int)))) else some (Sum.inr (y, n))) := by kernel_rfl

theorem es_r5Start_2 (y n x : Int) : sp_r5Start_2 (y, n, x) = (
  bif decide (x < y) then (F_r5Days x).bind fun x1 => some (Sum.inl (y, IntKind.i64.wrap (n + x1), IntKind.i64.wrap (x + (1 : Int)))) else some (Sum.inr n)) := by kernel_rfl

theorem e_r5Start (y : Int) : F_r5Start y = (
  (w_r5Start_0 (y, (0 : Int))).bind fun x1 => (w_r5Start_1 x1).bind fun x2 => (w_r5Start_2 (x2.fst, x2.snd, (1970 : Int))).bind fun x3 => some x3) := by kernel_rfl


/-! ### horologe/horologeref05.First -/
noncomputable abbrev ct_r5First : List (FuncId × Bool × SpecT) := [(132, false, s_r5Start)]
theorem cs_r5First : AllSound Tryz.prog ct_r5First := ⟨so_r5Start, trivial⟩
noncomputable def F_r5First (x : Unit) : Option (Int) := (evalF Tryz.prog (lookT ct_r5First) (keepT []) (loopsT []) false false Tryz.f84 (codP []) 1 (codP [pI]) x).run
noncomputable abbrev s_r5First : SpecT := specF (codP []) 1 (codP [pI]) F_r5First
theorem so_r5First : SoundT Tryz.prog 84 s_r5First := soundG (P := Tryz.prog) mixed (t := ct_r5First) cs_r5First (f := 84) (fn := Tryz.f84) Tryz.func84 (by kernel_rfl) (by kernel_rfl) (by kernel_rfl) (ls := []) (by kernel_rfl) (kp := keepT []) (lps := loopsT []) (bump := false) (ice := false) (A := (codP [])) (n := 1) (R := (codP [pI])) fun _ => lps_nil

theorem e_r5First  : F_r5First () = (
  (F_r5Start (-9999 : Int)).bind fun x1 => some x1) := by kernel_rfl


/-! ### horologe/horologeref05.Last -/
noncomputable abbrev ct_r5Last : List (FuncId × Bool × SpecT) := [(132, false, s_r5Start)]
theorem cs_r5Last : AllSound Tryz.prog ct_r5Last := ⟨so_r5Start, trivial⟩
noncomputable def F_r5Last (x : Unit) : Option (Int) := (evalF Tryz.prog (lookT ct_r5Last) (keepT []) (loopsT []) false false Tryz.f85 (codP []) 1 (codP [pI]) x).run
noncomputable abbrev s_r5Last : SpecT := specF (codP []) 1 (codP [pI]) F_r5Last
theorem so_r5Last : SoundT Tryz.prog 85 s_r5Last := soundG (P := Tryz.prog) mixed (t := ct_r5Last) cs_r5Last (f := 85) (fn := Tryz.f85) Tryz.func85 (by kernel_rfl) (by kernel_rfl) (by kernel_rfl) (ls := []) (by kernel_rfl) (kp := keepT []) (lps := loopsT []) (bump := false) (ice := false) (A := (codP [])) (n := 1) (R := (codP [pI])) fun _ => lps_nil

theorem e_r5Last  : F_r5Last () = (
  (F_r5Start (10000 : Int)).bind fun x1 => some (IntKind.i64.wrap (x1 - (1 : Int)))) := by kernel_rfl


/-! ### horologe/horologeref05.Of -/
noncomputable abbrev ct_r5Of : List (FuncId × Bool × SpecT) := [(132, false, s_r5Start), (134, false, s_r5Month)]
theorem cs_r5Of : AllSound Tryz.prog ct_r5Of := ⟨so_r5Start, so_r5Month, trivial⟩
-- loop 0 (key 3) exit 0: [0, 1, 7, 8]
-- loop 0 (key 3) exit 3: [7]
abbrev kp_r5Of : Keep := keepT [(3, 0, [(0, none), (1, none), (7, none), (8, none)]), (3, 3, [(7, none)])]
noncomputable abbrev b_r5Of_0 : Code := loopAt Tryz.f177 0
noncomputable def sp_r5Of_0 (x : (Int × Int × Int × Int)) : Option ((Int × Int × Int × Int) ⊕ (Int)) := (stepL Tryz.prog (lookT ct_r5Of) kp_r5Of (loopsT []) 0 false b_r5Of_0 (codP [pI, pI, pI, pI]) (exO (.ext 0) (codP [pI])) x).run
noncomputable def w_r5Of_0 : (Int × Int × Int × Int) → Option (Int) := whileO sp_r5Of_0
theorem ew_r5Of_0 (x : (Int × Int × Int × Int)) : w_r5Of_0 x = (sp_r5Of_0 x).bind (Sum.elim w_r5Of_0 some) := whileO_eq _ _
noncomputable abbrev l_r5Of_0 : LT := ltF (codP [pI, pI, pI, pI]) (exO (.ext 0) (codP [pI])) w_r5Of_0
theorem lo_r5Of_0 : LoopOk Tryz.prog Tryz.f177.ntmps kp_r5Of 0 false b_r5Of_0 l_r5Of_0 := loopG mixed cs_r5Of (lps := loopsT []) (by kernel_rfl) (ls := []) (by kernel_rfl) lps_nil
noncomputable def F_r5Of (x : (Int × Int × Int)) : Option (Int) := (evalF Tryz.prog (lookT ct_r5Of) (kp_r5Of) (loopsT [(3, l_r5Of_0)]) false false Tryz.f177 (codP [pI, pI, pI]) 1 (codP [pI]) x).run
noncomputable abbrev s_r5Of : SpecT := specF (codP [pI, pI, pI]) 1 (codP [pI]) F_r5Of
theorem so_r5Of : SoundT Tryz.prog 177 s_r5Of := soundG (P := Tryz.prog) mixed (t := ct_r5Of) cs_r5Of (f := 177) (fn := Tryz.f177) Tryz.func177 (by kernel_rfl) (by kernel_rfl) (by kernel_rfl) (ls := [b_r5Of_0]) (by kernel_rfl) (kp := kp_r5Of) (lps := loopsT [(3, l_r5Of_0)]) (bump := false) (ice := false) (A := (codP [pI, pI, pI])) (n := 1) (R := (codP [pI])) fun _ => (lps_cons l_r5Of_0 (by kernel_rfl) lo_r5Of_0 lps_nil)

theorem es_r5Of_0 (y m n x : Int) : sp_r5Of_0 (y, m, n, x) = (
  bif decide (x < m) then (F_r5Month (y, x)).bind fun x1 => some (Sum.inl (y, m, IntKind.i64.wrap (n + x1), IntKind.i64.wrap (x + (1 : Int)))) else some (Sum.inr n)) := by kernel_rfl

theorem e_r5Of (y m d : Int) : F_r5Of (y, m, d) = (
  (F_r5Start y).bind fun x1 => (w_r5Of_0 (y, m, IntKind.i64.wrap (IntKind.i64.wrap (x1 + d) - (1 : Int)), (1 : Int))).bind fun x2 => some x2) := by kernel_rfl


/-! ### horologe/horologeref05.Date -/
noncomputable abbrev ct_r5Date : List (FuncId × Bool × SpecT) := [(133, false, s_r5Days), (134, false, s_r5Month)]
theorem cs_r5Date : AllSound Tryz.prog ct_r5Date := ⟨so_r5Days, so_r5Month, trivial⟩
-- loop 0 (key 2) exit 0: [0, 5]
-- loop 0 (key 2) exit 3: [0, 5]
-- loop 1 (key 5) exit 0: [0, 5]
-- loop 1 (key 5) exit 5: [0, 5]
-- loop 2 (key 8) exit 0: [0, 5]
-- loop 2 (key 8) exit 7: [0, 5]
-- loop 3 (key 12) exit 0: [0, 5, 6]
-- loop 3 (key 12) exit 9: [0, 5, 6]
abbrev kp_r5Date : Keep := keepT [(2, 0, [(0, none), (5, none)]), (2, 3, [(0, none), (5, none)]), (5, 0, [(0, none), (5, none)]), (5, 5, [(0, none), (5, none)]), (8, 0, [(0, none), (5, none)]), (8, 7, [(0, none), (5, none)]), (12, 0, [(0, none), (5, none), (6, none)]), (12, 9, [(0, none), (5, none), (6, none)])]
noncomputable abbrev b_r5Date_0 : Code := loopAt Tryz.f86 0
noncomputable abbrev b_r5Date_1 : Code := loopAt Tryz.f86 1
noncomputable abbrev b_r5Date_2 : Code := loopAt Tryz.f86 2
noncomputable abbrev b_r5Date_3 : Code := loopAt Tryz.f86 3
noncomputable def sp_r5Date_3 (x : (Int × Int × Int)) : Option ((Int × Int × Int) ⊕ (Int × Int × Int)) := (stepL Tryz.prog (lookT ct_r5Date) kp_r5Date (loopsT []) 0 false b_r5Date_3 (codP [pI, pI, pI]) (exO (.ext 6) (codP [pI, pI, pI])) x).run
noncomputable def w_r5Date_3 : (Int × Int × Int) → Option (Int × Int × Int) := whileO sp_r5Date_3
theorem ew_r5Date_3 (x : (Int × Int × Int)) : w_r5Date_3 x = (sp_r5Date_3 x).bind (Sum.elim w_r5Date_3 some) := whileO_eq _ _
noncomputable abbrev l_r5Date_3 : LT := ltF (codP [pI, pI, pI]) (exO (.ext 6) (codP [pI, pI, pI])) w_r5Date_3
theorem lo_r5Date_3 : LoopOk Tryz.prog Tryz.f86.ntmps kp_r5Date 0 false b_r5Date_3 l_r5Date_3 := loopG mixed cs_r5Date (lps := loopsT []) (by kernel_rfl) (ls := []) (by kernel_rfl) lps_nil
noncomputable def sp_r5Date_2 (x : (Int × Int)) : Option ((Int × Int) ⊕ (Int × Int)) := (stepL Tryz.prog (lookT ct_r5Date) kp_r5Date (loopsT []) 0 false b_r5Date_2 (codP [pI, pI]) (exO (.ext 4) (codP [pI, pI])) x).run
noncomputable def w_r5Date_2 : (Int × Int) → Option (Int × Int) := whileO sp_r5Date_2
theorem ew_r5Date_2 (x : (Int × Int)) : w_r5Date_2 x = (sp_r5Date_2 x).bind (Sum.elim w_r5Date_2 some) := whileO_eq _ _
noncomputable abbrev l_r5Date_2 : LT := ltF (codP [pI, pI]) (exO (.ext 4) (codP [pI, pI])) w_r5Date_2
theorem lo_r5Date_2 : LoopOk Tryz.prog Tryz.f86.ntmps kp_r5Date 0 false b_r5Date_2 l_r5Date_2 := loopG mixed cs_r5Date (lps := loopsT []) (by kernel_rfl) (ls := []) (by kernel_rfl) lps_nil
noncomputable def sp_r5Date_1 (x : (Int × Int)) : Option ((Int × Int) ⊕ (Int × Int)) := (stepL Tryz.prog (lookT ct_r5Date) kp_r5Date (loopsT []) 0 false b_r5Date_1 (codP [pI, pI]) (exO (.ext 2) (codP [pI, pI])) x).run
noncomputable def w_r5Date_1 : (Int × Int) → Option (Int × Int) := whileO sp_r5Date_1
theorem ew_r5Date_1 (x : (Int × Int)) : w_r5Date_1 x = (sp_r5Date_1 x).bind (Sum.elim w_r5Date_1 some) := whileO_eq _ _
noncomputable abbrev l_r5Date_1 : LT := ltF (codP [pI, pI]) (exO (.ext 2) (codP [pI, pI])) w_r5Date_1
theorem lo_r5Date_1 : LoopOk Tryz.prog Tryz.f86.ntmps kp_r5Date 0 false b_r5Date_1 l_r5Date_1 := loopG mixed cs_r5Date (lps := loopsT []) (by kernel_rfl) (ls := []) (by kernel_rfl) lps_nil
noncomputable def sp_r5Date_0 (x : (Int × Int)) : Option ((Int × Int) ⊕ (Int × Int)) := (stepL Tryz.prog (lookT ct_r5Date) kp_r5Date (loopsT []) 0 false b_r5Date_0 (codP [pI, pI]) (exO (.ext 0) (codP [pI, pI])) x).run
noncomputable def w_r5Date_0 : (Int × Int) → Option (Int × Int) := whileO sp_r5Date_0
theorem ew_r5Date_0 (x : (Int × Int)) : w_r5Date_0 x = (sp_r5Date_0 x).bind (Sum.elim w_r5Date_0 some) := whileO_eq _ _
noncomputable abbrev l_r5Date_0 : LT := ltF (codP [pI, pI]) (exO (.ext 0) (codP [pI, pI])) w_r5Date_0
theorem lo_r5Date_0 : LoopOk Tryz.prog Tryz.f86.ntmps kp_r5Date 0 false b_r5Date_0 l_r5Date_0 := loopG mixed cs_r5Date (lps := loopsT []) (by kernel_rfl) (ls := []) (by kernel_rfl) lps_nil
noncomputable def F_r5Date (x : (Int)) : Option (Int × Int × Int) := (evalF Tryz.prog (lookT ct_r5Date) (kp_r5Date) (loopsT [(2, l_r5Date_0), (5, l_r5Date_1), (8, l_r5Date_2), (12, l_r5Date_3)]) false false Tryz.f86 (codP [pI]) 3 (codP [pI, pI, pI]) x).run
noncomputable abbrev s_r5Date : SpecT := specF (codP [pI]) 3 (codP [pI, pI, pI]) F_r5Date
theorem so_r5Date : SoundT Tryz.prog 86 s_r5Date := soundG (P := Tryz.prog) mixed (t := ct_r5Date) cs_r5Date (f := 86) (fn := Tryz.f86) Tryz.func86 (by kernel_rfl) (by kernel_rfl) (by kernel_rfl) (ls := [b_r5Date_0, b_r5Date_1, b_r5Date_2, b_r5Date_3]) (by kernel_rfl) (kp := kp_r5Date) (lps := loopsT [(2, l_r5Date_0), (5, l_r5Date_1), (8, l_r5Date_2), (12, l_r5Date_3)]) (bump := false) (ice := false) (A := (codP [pI])) (n := 3) (R := (codP [pI, pI, pI])) fun _ => (lps_cons l_r5Date_0 (by kernel_rfl) lo_r5Date_0 (lps_cons l_r5Date_1 (by kernel_rfl) lo_r5Date_1 (lps_cons l_r5Date_2 (by kernel_rfl) lo_r5Date_2 (lps_cons l_r5Date_3 (by kernel_rfl) lo_r5Date_3 lps_nil))))

theorem es_r5Date_0 (n y : Int) : sp_r5Date_0 (n, y) = (
  bif decide (n < (0 : Int)) then some (Sum.inl (IntKind.i64.wrap (n + (146097 : Int)), IntKind.i64.wrap (y - (400 : Int)))) else some (Sum.inr (n, y))) := by kernel_rfl

theorem es_r5Date_1 (n y : Int) : sp_r5Date_1 (n, y) = (
  bif decide ((146097 : Int) ≤ n) then some (Sum.inl (IntKind.i64.wrap (n - (146097 : Int)), IntKind.i64.wrap (y + (400 : Int)))) else some (Sum.inr (n, y))) := by kernel_rfl

theorem es_r5Date_2 (n y : Int) : sp_r5Date_2 (n, y) = (
  (F_r5Days y).bind fun x1 => bif decide (x1 ≤ n) then (F_r5Days y).bind fun x2 => some (Sum.inl (IntKind.i64.wrap (n - x2), IntKind.i64.wrap (y + (1 : Int)))) else some (Sum.inr (n, y))) := by kernel_rfl

theorem es_r5Date_3 (n y m : Int) : sp_r5Date_3 (n, y, m) = (
  (F_r5Month (y, m)).bind fun x1 =>
    bif decide (x1 ≤ n) then (F_r5Month (y, m)).bind fun x2 => some (Sum.inl (IntKind.i64.wrap (n - x2), y, IntKind.i64.wrap (m + (1 : Int)))) else some (Sum.inr (n, y, m))) := by kernel_rfl

theorem e_r5Date (n : Int) : F_r5Date n = (
  (w_r5Date_0 (n, (1970 : Int))).bind fun x1 =>
    (w_r5Date_1 x1).bind fun x2 => (w_r5Date_2 x2).bind fun x3 => (w_r5Date_3 (x3.fst, x3.snd, (1 : Int))).bind fun x4 => some (x4.snd.fst, x4.snd.snd, IntKind.i64.wrap (x4.fst + (1 : Int)))) := by kernel_rfl


/-! ### horologe/horologeref05.Weekday -/
noncomputable abbrev ct_r5Weekday : List (FuncId × Bool × SpecT) := []
theorem cs_r5Weekday : AllSound Tryz.prog ct_r5Weekday := trivial
noncomputable def F_r5Weekday (x : (Int)) : Option (Int) := (evalF Tryz.prog (lookT ct_r5Weekday) (keepT []) (loopsT []) false false Tryz.f178 (codP [pI]) 1 (codP [pI]) x).run
noncomputable abbrev s_r5Weekday : SpecT := specF (codP [pI]) 1 (codP [pI]) F_r5Weekday
theorem so_r5Weekday : SoundT Tryz.prog 178 s_r5Weekday := soundG (P := Tryz.prog) mixed (t := ct_r5Weekday) cs_r5Weekday (f := 178) (fn := Tryz.f178) Tryz.func178 (by kernel_rfl) (by kernel_rfl) (by kernel_rfl) (ls := []) (by kernel_rfl) (kp := keepT []) (lps := loopsT []) (bump := false) (ice := false) (A := (codP [pI])) (n := 1) (R := (codP [pI])) fun _ => lps_nil

theorem e_r5Weekday (n : Int) : F_r5Weekday n = (
  bif decide (n.tmod (7 : Int) < (0 : Int)) then
    bif decide ((0 : Int) ≤ IntKind.i64.wrap (n.tmod (7 : Int) + (7 : Int)) ∧ IntKind.i64.wrap (n.tmod (7 : Int) + (7 : Int)) < (7 : Int)) then
      [(4 : Int), (5 : Int), (6 : Int), (7 : Int), (1 : Int), (2 : Int), (3 : Int)][(IntKind.i64.wrap (n.tmod (7 : Int) + (7 : Int))).toNat]?.bind fun x1 => some x1
    else none
  else
    bif decide ((0 : Int) ≤ n.tmod (7 : Int) ∧ n.tmod (7 : Int) < (7 : Int)) then
      [(4 : Int), (5 : Int), (6 : Int), (7 : Int), (1 : Int), (2 : Int), (3 : Int)][(n.tmod (7 : Int)).toNat]?.bind fun x1 => some x1
    else none) := by kernel_rfl


/-! ### horologe/horologeref16.Day -/
noncomputable abbrev ct_r6Day : List (FuncId × Bool × SpecT) := [(132, false, s_r5Start), (134, false, s_r5Month), (177, false, s_r5Of), (178, false, s_r5Weekday)]
theorem cs_r6Day : AllSound Tryz.prog ct_r6Day := ⟨so_r5Start, so_r5Month, so_r5Of, so_r5Weekday, trivial⟩
-- loop 0 (key 6) exit 0: [1, 5, 6]
-- loop 0 (key 6) exit 3: [1, 5, 6]
-- loop 1 (key 13) exit 0: [1, 2, 7, 8, 9]
-- loop 1 (key 13) exit 5: [7]
abbrev kp_r6Day : Keep := keepT [(6, 0, [(1, none), (5, none), (6, none)]), (6, 3, [(1, none), (5, none), (6, none)]), (13, 0, [(1, none), (2, none), (7, none), (8, none), (9, none)]), (13, 5, [(7, none)])]
noncomputable abbrev b_r6Day_0 : Code := loopAt Tryz.f135 0
noncomputable abbrev b_r6Day_1 : Code := loopAt Tryz.f135 1
noncomputable def sp_r6Day_1 (x : (Int × (Int × Int × Int × Int × Int) × Int × Int × Int)) : Option ((Int × (Int × Int × Int × Int × Int) × Int × Int × Int) ⊕ (Int)) := (stepL Tryz.prog (lookT ct_r6Day) kp_r6Day (loopsT []) 0 false b_r6Day_1 (codP [pI, (.box cRule), pI, pI, pI]) (exO (.ext 2) (codP [pI])) x).run
noncomputable def w_r6Day_1 : (Int × (Int × Int × Int × Int × Int) × Int × Int × Int) → Option (Int) := whileO sp_r6Day_1
theorem ew_r6Day_1 (x : (Int × (Int × Int × Int × Int × Int) × Int × Int × Int)) : w_r6Day_1 x = (sp_r6Day_1 x).bind (Sum.elim w_r6Day_1 some) := whileO_eq _ _
noncomputable abbrev l_r6Day_1 : LT := ltF (codP [pI, (.box cRule), pI, pI, pI]) (exO (.ext 2) (codP [pI])) w_r6Day_1
theorem lo_r6Day_1 : LoopOk Tryz.prog Tryz.f135.ntmps kp_r6Day 0 false b_r6Day_1 l_r6Day_1 := loopG mixed cs_r6Day (lps := loopsT []) (by kernel_rfl) (ls := []) (by kernel_rfl) lps_nil
noncomputable def sp_r6Day_0 (x : (Int × Int × Int)) : Option ((Int × Int × Int) ⊕ (Int × Int × Int)) := (stepL Tryz.prog (lookT ct_r6Day) kp_r6Day (loopsT []) 0 false b_r6Day_0 (codP [pI, pI, pI]) (exO (.ext 0) (codP [pI, pI, pI])) x).run
noncomputable def w_r6Day_0 : (Int × Int × Int) → Option (Int × Int × Int) := whileO sp_r6Day_0
theorem ew_r6Day_0 (x : (Int × Int × Int)) : w_r6Day_0 x = (sp_r6Day_0 x).bind (Sum.elim w_r6Day_0 some) := whileO_eq _ _
noncomputable abbrev l_r6Day_0 : LT := ltF (codP [pI, pI, pI]) (exO (.ext 0) (codP [pI, pI, pI])) w_r6Day_0
theorem lo_r6Day_0 : LoopOk Tryz.prog Tryz.f135.ntmps kp_r6Day 0 false b_r6Day_0 l_r6Day_0 := loopG mixed cs_r6Day (lps := loopsT []) (by kernel_rfl) (ls := []) (by kernel_rfl) lps_nil
noncomputable def F_r6Day (x : ((Int × Int × Int × Int × Int) × Int)) : Option (Int) := (evalF Tryz.prog (lookT ct_r6Day) (kp_r6Day) (loopsT [(6, l_r6Day_0), (13, l_r6Day_1)]) false false Tryz.f135 (codP [pRule, pI]) 1 (codP [pI]) x).run
noncomputable abbrev s_r6Day : SpecT := specF (codP [pRule, pI]) 1 (codP [pI]) F_r6Day
theorem so_r6Day : SoundT Tryz.prog 135 s_r6Day := soundG (P := Tryz.prog) mixed (t := ct_r6Day) cs_r6Day (f := 135) (fn := Tryz.f135) Tryz.func135 (by kernel_rfl) (by kernel_rfl) (by kernel_rfl) (ls := [b_r6Day_0, b_r6Day_1]) (by kernel_rfl) (kp := kp_r6Day) (lps := loopsT [(6, l_r6Day_0), (13, l_r6Day_1)]) (bump := false) (ice := false) (A := (codP [pRule, pI])) (n := 1) (R := (codP [pI])) fun _ => (lps_cons l_r6Day_0 (by kernel_rfl) lo_r6Day_0 (lps_cons l_r6Day_1 (by kernel_rfl) lo_r6Day_1 lps_nil))

theorem es_r6Day_0 (y n m : Int) : sp_r6Day_0 (y, n, m) = (
  (F_r5Month ((2001 : Int), m)).bind fun x1 =>
    bif decide (x1 < n) then (F_r5Month ((2001 : Int), m)).bind fun x2 => some (Sum.inl (y, IntKind.i64.wrap (n - x2), IntKind.i64.wrap (m + (1 : Int)))) else some (Sum.inr (y, n, m))) := by kernel_rfl

theorem es_r6Day_1 (y : Int) (k m w d t : Int) (f c i : Int) : sp_r6Day_1 (y, (k, m, w, d, t), f, c, i) = (
  (F_r5Month (y, m)).bind fun x1 =>
    bif decide (i ≤ x1) then
      (F_r5Of (y, m, i)).bind fun x2 =>
        (F_r5Weekday x2).bind fun x3 =>
          bif decide (x3.tmod (7 : Int) = d) then
            bif decide (c < w) then some (Sum.inl (y, (k, m, w, d, t), x2, IntKind.i64.wrap (c + (1 : Int)), IntKind.i64.wrap (i + (1 : Int))))
            else some (Sum.inl (y, (k, m, w, d, t), f, c, IntKind.i64.wrap (i + (1 : Int))))
          else some (Sum.inl (y, (k, m, w, d, t), f, c, IntKind.i64.wrap (i + (1 : Int))))
    else some (Sum.inr f)) := by kernel_rfl

theorem e_r6Day (k m w d t : Int) (y : Int) : F_r6Day ((k, m, w, d, t), y) = (
  bif decide (k = (2 : Int)) then (F_r5Start y).bind fun x1 => some (IntKind.i64.wrap (x1 + d))
  else
    bif decide (k = (1 : Int)) then (w_r6Day_0 (y, d, (1 : Int))).bind fun x1 => (F_r5Of (x1.fst, x1.snd.snd, x1.snd.fst)).bind fun x2 => some x2
    else (w_r6Day_1 (y, (k, m, w, d, t), (0 : Int), (0 : Int), (1 : Int))).bind fun x1 => some x1) := by kernel_rfl


/-! ### horologe/horologeref18.Begin -/
noncomputable abbrev ct_r8Begin : List (FuncId × Bool × SpecT) := [(135, false, s_r6Day)]
theorem cs_r8Begin : AllSound Tryz.prog ct_r8Begin := ⟨so_r6Day, trivial⟩
noncomputable def F_r8Begin (x : ((List UInt8 × List UInt8 × Int × Int × (Int × Int × Int × Int × Int) × (Int × Int × Int × Int × Int)) × Int)) : Option (Int) := (evalF Tryz.prog (lookT ct_r8Begin) (keepT []) (loopsT []) false false Tryz.f87 (codP [pPlan, pI]) 1 (codP [pI]) x).run
noncomputable abbrev s_r8Begin : SpecT := specF (codP [pPlan, pI]) 1 (codP [pI]) F_r8Begin
theorem so_r8Begin : SoundT Tryz.prog 87 s_r8Begin := soundG (P := Tryz.prog) mixed (t := ct_r8Begin) cs_r8Begin (f := 87) (fn := Tryz.f87) Tryz.func87 (by kernel_rfl) (by kernel_rfl) (by kernel_rfl) (ls := []) (by kernel_rfl) (kp := keepT []) (lps := loopsT []) (bump := false) (ice := false) (A := (codP [pPlan, pI])) (n := 1) (R := (codP [pI])) fun _ => lps_nil

theorem e_r8Begin (p : List UInt8 × List UInt8 × Int × Int × (Int × Int × Int × Int × Int) × (Int × Int × Int × Int × Int)) (y : Int) : F_r8Begin (p, y) = (
  (F_r6Day (p.snd.snd.snd.snd.fst, y)).bind fun x1 => some (IntKind.i64.wrap (IntKind.i64.wrap (IntKind.i64.wrap (x1 * (86400 : Int)) + p.snd.snd.snd.snd.fst.snd.snd.snd.snd) - p.snd.snd.fst))) := by kernel_rfl


/-! ### horologe/horologeref18.End -/
noncomputable abbrev ct_r8End : List (FuncId × Bool × SpecT) := [(135, false, s_r6Day)]
theorem cs_r8End : AllSound Tryz.prog ct_r8End := ⟨so_r6Day, trivial⟩
noncomputable def F_r8End (x : ((List UInt8 × List UInt8 × Int × Int × (Int × Int × Int × Int × Int) × (Int × Int × Int × Int × Int)) × Int)) : Option (Int) := (evalF Tryz.prog (lookT ct_r8End) (keepT []) (loopsT []) false false Tryz.f88 (codP [pPlan, pI]) 1 (codP [pI]) x).run
noncomputable abbrev s_r8End : SpecT := specF (codP [pPlan, pI]) 1 (codP [pI]) F_r8End
theorem so_r8End : SoundT Tryz.prog 88 s_r8End := soundG (P := Tryz.prog) mixed (t := ct_r8End) cs_r8End (f := 88) (fn := Tryz.f88) Tryz.func88 (by kernel_rfl) (by kernel_rfl) (by kernel_rfl) (ls := []) (by kernel_rfl) (kp := keepT []) (lps := loopsT []) (bump := false) (ice := false) (A := (codP [pPlan, pI])) (n := 1) (R := (codP [pI])) fun _ => lps_nil

theorem e_r8End (p : List UInt8 × List UInt8 × Int × Int × (Int × Int × Int × Int × Int) × (Int × Int × Int × Int × Int)) (y : Int) : F_r8End (p, y) = (
  (F_r6Day (p.snd.snd.snd.snd.snd, y)).bind fun x1 => some (IntKind.i64.wrap (IntKind.i64.wrap (IntKind.i64.wrap (x1 * (86400 : Int)) + p.snd.snd.snd.snd.snd.snd.snd.snd.snd) - p.snd.snd.snd.fst))) := by kernel_rfl


/-! ### horologe/horologeref18.Year -/
noncomputable abbrev ct_r8Year : List (FuncId × Bool × SpecT) := [(84, false, s_r5First), (85, false, s_r5Last), (86, false, s_r5Date)]
theorem cs_r8Year : AllSound Tryz.prog ct_r8Year := ⟨so_r5First, so_r5Last, so_r5Date, trivial⟩
noncomputable def F_r8Year (x : (Int)) : Option (Int × Bool) := (evalF Tryz.prog (lookT ct_r8Year) (keepT []) (loopsT []) false false Tryz.f47 (codP [pI]) 2 (codP [pI, pB]) x).run
noncomputable abbrev s_r8Year : SpecT := specF (codP [pI]) 2 (codP [pI, pB]) F_r8Year
theorem so_r8Year : SoundT Tryz.prog 47 s_r8Year := soundG (P := Tryz.prog) mixed (t := ct_r8Year) cs_r8Year (f := 47) (fn := Tryz.f47) Tryz.func47 (by kernel_rfl) (by kernel_rfl) (by kernel_rfl) (ls := []) (by kernel_rfl) (kp := keepT []) (lps := loopsT []) (bump := false) (ice := false) (A := (codP [pI])) (n := 2) (R := (codP [pI, pB])) fun _ => lps_nil

theorem e_r8Year (t : Int) : F_r8Year t = (
  bif decide (t.tmod (86400 : Int) < (0 : Int)) then
    (F_r5First ()).bind fun x1 =>
      bif decide (IntKind.i64.wrap (IntKind.i64.wrap (t.tdiv (86400 : Int)) - (1 : Int)) < x1) then some ((0 : Int), false)
      else
        (F_r5Last ()).bind fun x2 =>
          bif decide (x2 < IntKind.i64.wrap (IntKind.i64.wrap (t.tdiv (86400 : Int)) - (1 : Int))) then some ((0 : Int), false)
          else (F_r5Date (IntKind.i64.wrap (IntKind.i64.wrap (t.tdiv (86400 : Int)) - (1 : Int)))).bind fun x3 => some (x3.fst, true)
  else
    (F_r5First ()).bind fun x1 =>
      bif decide (IntKind.i64.wrap (t.tdiv (86400 : Int)) < x1) then some ((0 : Int), false)
      else
        (F_r5Last ()).bind fun x2 =>
          bif decide (x2 < IntKind.i64.wrap (t.tdiv (86400 : Int))) then some ((0 : Int), false) else (F_r5Date (IntKind.i64.wrap (t.tdiv (86400 : Int)))).bind fun x3 => some (x3.fst, true)) := by kernel_rfl


/-! ### horologe/horologeref18.At -/
noncomputable abbrev ct_r8At : List (FuncId × Bool × SpecT) := [(47, false, s_r8Year), (87, false, s_r8Begin), (88, false, s_r8End)]
theorem cs_r8At : AllSound Tryz.prog ct_r8At := ⟨so_r8Year, so_r8Begin, so_r8End, trivial⟩
-- loop 0 (key 7) exit 0: [1, 2, 4, 5, 6, 8, 9, 10]
-- loop 0 (key 7) exit 3: [2, 4, 5, 8, 9]
abbrev kp_r8At : Keep := keepT [(7, 0, [(1, none), (2, none), (4, none), (5, none), (6, none), (8, none), (9, none), (10, none)]), (7, 3, [(2, none), (4, none), (5, none), (8, none), (9, none)])]
noncomputable abbrev b_r8At_0 : Code := loopAt Tryz.f49 0
noncomputable def sp_r8At_0 (x : (Int × (List UInt8 × List UInt8 × Int × Int × (Int × Int × Int × Int × Int) × (Int × Int × Int × Int × Int)) × (Int × Bool × List UInt8) × (Int × Bool × List UInt8) × Int × Int × Int × Int)) : Option ((Int × (List UInt8 × List UInt8 × Int × Int × (Int × Int × Int × Int × Int) × (Int × Int × Int × Int × Int)) × (Int × Bool × List UInt8) × (Int × Bool × List UInt8) × Int × Int × Int × Int) ⊕ ((List UInt8 × List UInt8 × Int × Int × (Int × Int × Int × Int × Int) × (Int × Int × Int × Int × Int)) × (Int × Bool × List UInt8) × (Int × Bool × List UInt8) × Int × Int)) := (stepL Tryz.prog (lookT ct_r8At) kp_r8At (loopsT []) 0 false b_r8At_0 (codP [pI, (.box cPlan), (.box cTyp), (.box cTyp), pI, pI, pI, pI]) (exO (.ext 0) (codP [(.box cPlan), (.box cTyp), (.box cTyp), pI, pI])) x).run
noncomputable def w_r8At_0 : (Int × (List UInt8 × List UInt8 × Int × Int × (Int × Int × Int × Int × Int) × (Int × Int × Int × Int × Int)) × (Int × Bool × List UInt8) × (Int × Bool × List UInt8) × Int × Int × Int × Int) → Option ((List UInt8 × List UInt8 × Int × Int × (Int × Int × Int × Int × Int) × (Int × Int × Int × Int × Int)) × (Int × Bool × List UInt8) × (Int × Bool × List UInt8) × Int × Int) := whileO sp_r8At_0
theorem ew_r8At_0 (x : (Int × (List UInt8 × List UInt8 × Int × Int × (Int × Int × Int × Int × Int) × (Int × Int × Int × Int × Int)) × (Int × Bool × List UInt8) × (Int × Bool × List UInt8) × Int × Int × Int × Int)) : w_r8At_0 x = (sp_r8At_0 x).bind (Sum.elim w_r8At_0 some) := whileO_eq _ _
noncomputable abbrev l_r8At_0 : LT := ltF (codP [pI, (.box cPlan), (.box cTyp), (.box cTyp), pI, pI, pI, pI]) (exO (.ext 0) (codP [(.box cPlan), (.box cTyp), (.box cTyp), pI, pI])) w_r8At_0
theorem lo_r8At_0 : LoopOk Tryz.prog Tryz.f49.ntmps kp_r8At 0 false b_r8At_0 l_r8At_0 := loopG mixed cs_r8At (lps := loopsT []) (by kernel_rfl) (ls := []) (by kernel_rfl) lps_nil
noncomputable def F_r8At (x : ((List UInt8 × List UInt8 × Int × Int × (Int × Int × Int × Int × Int) × (Int × Int × Int × Int × Int)) × Int)) : Option ((Int × Bool × List UInt8)) := (evalF Tryz.prog (lookT ct_r8At) (kp_r8At) (loopsT [(7, l_r8At_0)]) false false Tryz.f49 (codP [pPlan, pI]) 1 (codP [pTyp]) x).run
noncomputable abbrev s_r8At : SpecT := specF (codP [pPlan, pI]) 1 (codP [pTyp]) F_r8At
theorem so_r8At : SoundT Tryz.prog 49 s_r8At := soundG (P := Tryz.prog) mixed (t := ct_r8At) cs_r8At (f := 49) (fn := Tryz.f49) Tryz.func49 (by kernel_rfl) (by kernel_rfl) (by kernel_rfl) (ls := [b_r8At_0]) (by kernel_rfl) (kp := kp_r8At) (lps := loopsT [(7, l_r8At_0)]) (bump := false) (ice := false) (A := (codP [pPlan, pI])) (n := 1) (R := (codP [pTyp])) fun _ => (lps_cons l_r8At_0 (by kernel_rfl) lo_r8At_0 lps_nil)

theorem es_r8At_0 (t : Int) (p : List UInt8 × List UInt8 × Int × Int × (Int × Int × Int × Int × Int) × (Int × Int × Int × Int × Int)) (a b : Int × Bool × List UInt8) (y u v k : Int) : sp_r8At_0 (t, p, a, b, y, u, v, k) = (
  bif decide (k ≤ IntKind.i64.wrap (y + (2 : Int))) then
    (F_r8Begin (p, k)).bind fun x1 =>
      bif decide (x1 ≤ t) then
        bif decide (u < x1) then
          (F_r8End (p, k)).bind fun x2 =>
            bif decide (x2 ≤ t) then
              bif decide (v < x2) then some (Sum.inl (t, p, a, b, y, x1, x2, IntKind.i64.wrap (k + (1 : Int)))) else some (Sum.inl (t, p, a, b, y, x1, v, IntKind.i64.wrap (k + (1 : Int))))
            else some (Sum.inl (t, p, a, b, y, x1, v, IntKind.i64.wrap (k + (1 : Int))))
        else
          (F_r8End (p, k)).bind fun x2 =>
            bif decide (x2 ≤ t) then
              bif decide (v < x2) then some (Sum.inl (t, p, a, b, y, u, x2, IntKind.i64.wrap (k + (1 : Int)))) else some (Sum.inl (t, p, a, b, y, u, v, IntKind.i64.wrap (k + (1 : Int))))
            else some (Sum.inl (t, p, a, b, y, u, v, IntKind.i64.wrap (k + (1 : Int))))
      else
        (F_r8End (p, k)).bind fun x2 =>
          bif decide (x2 ≤ t) then
            bif decide (v < x2) then some (Sum.inl (t, p, a, b, y, u, x2, IntKind.i64.wrap (k + (1 : Int)))) else some (Sum.inl (t, p, a, b, y, u, v, IntKind.i64.wrap (k + (1 : Int))))
          else some (Sum.inl (t, p, a, b, y, u, v, IntKind.i64.wrap (k + (1 : Int))))
  else some (Sum.inr (p, a, b, u, v))) := by kernel_rfl

theorem e_r8At (p : List UInt8 × List UInt8 × Int × Int × (Int × Int × Int × Int × Int) × (Int × Int × Int × Int × Int)) (t : Int) : F_r8At (p, t) = (
  bif decide ((↑(List.length p.snd.fst) : Int) = (0 : Int)) then some (p.snd.snd.fst, false, p.fst)
  else
    (F_r8Year t).bind fun x1 =>
      (w_r8At_0 (t, p, ((0 : Int), false, []), (p.snd.snd.fst, false, p.fst), x1.fst, (-4611686018427387904 : Int), (-4611686018427387904 : Int), IntKind.i64.wrap (x1.fst - (2 : Int)))).bind fun x2 =>
        bif decide (x2.snd.snd.snd.snd ≤ x2.snd.snd.snd.fst) then some (x2.fst.snd.snd.snd.fst, true, x2.fst.snd.fst) else some x2.snd.snd.fst) := by kernel_rfl


/-! ### horologe/horologeref18.Next -/
noncomputable abbrev ct_r8Next : List (FuncId × Bool × SpecT) := [(47, false, s_r8Year), (87, false, s_r8Begin), (88, false, s_r8End)]
theorem cs_r8Next : AllSound Tryz.prog ct_r8Next := ⟨so_r8Year, so_r8Begin, so_r8End, trivial⟩
-- loop 0 (key 6) exit 0: [1, 2, 6, 8, 9]
-- loop 0 (key 6) exit 3: [8]
abbrev kp_r8Next : Keep := keepT [(6, 0, [(1, none), (2, none), (6, none), (8, none), (9, none)]), (6, 3, [(8, none)])]
noncomputable abbrev b_r8Next_0 : Code := loopAt Tryz.f48 0
noncomputable def sp_r8Next_0 (x : (Int × (List UInt8 × List UInt8 × Int × Int × (Int × Int × Int × Int × Int) × (Int × Int × Int × Int × Int)) × Int × Int × Int)) : Option ((Int × (List UInt8 × List UInt8 × Int × Int × (Int × Int × Int × Int × Int) × (Int × Int × Int × Int × Int)) × Int × Int × Int) ⊕ (Int)) := (stepL Tryz.prog (lookT ct_r8Next) kp_r8Next (loopsT []) 0 false b_r8Next_0 (codP [pI, (.box cPlan), pI, pI, pI]) (exO (.ext 0) (codP [pI])) x).run
noncomputable def w_r8Next_0 : (Int × (List UInt8 × List UInt8 × Int × Int × (Int × Int × Int × Int × Int) × (Int × Int × Int × Int × Int)) × Int × Int × Int) → Option (Int) := whileO sp_r8Next_0
theorem ew_r8Next_0 (x : (Int × (List UInt8 × List UInt8 × Int × Int × (Int × Int × Int × Int × Int) × (Int × Int × Int × Int × Int)) × Int × Int × Int)) : w_r8Next_0 x = (sp_r8Next_0 x).bind (Sum.elim w_r8Next_0 some) := whileO_eq _ _
noncomputable abbrev l_r8Next_0 : LT := ltF (codP [pI, (.box cPlan), pI, pI, pI]) (exO (.ext 0) (codP [pI])) w_r8Next_0
theorem lo_r8Next_0 : LoopOk Tryz.prog Tryz.f48.ntmps kp_r8Next 0 false b_r8Next_0 l_r8Next_0 := loopG mixed cs_r8Next (lps := loopsT []) (by kernel_rfl) (ls := []) (by kernel_rfl) lps_nil
noncomputable def F_r8Next (x : ((List UInt8 × List UInt8 × Int × Int × (Int × Int × Int × Int × Int) × (Int × Int × Int × Int × Int)) × Int)) : Option (Int × Bool) := (evalF Tryz.prog (lookT ct_r8Next) (kp_r8Next) (loopsT [(6, l_r8Next_0)]) false false Tryz.f48 (codP [pPlan, pI]) 2 (codP [pI, pB]) x).run
noncomputable abbrev s_r8Next : SpecT := specF (codP [pPlan, pI]) 2 (codP [pI, pB]) F_r8Next
theorem so_r8Next : SoundT Tryz.prog 48 s_r8Next := soundG (P := Tryz.prog) mixed (t := ct_r8Next) cs_r8Next (f := 48) (fn := Tryz.f48) Tryz.func48 (by kernel_rfl) (by kernel_rfl) (by kernel_rfl) (ls := [b_r8Next_0]) (by kernel_rfl) (kp := kp_r8Next) (lps := loopsT [(6, l_r8Next_0)]) (bump := false) (ice := false) (A := (codP [pPlan, pI])) (n := 2) (R := (codP [pI, pB])) fun _ => (lps_cons l_r8Next_0 (by kernel_rfl) lo_r8Next_0 lps_nil)

theorem es_r8Next_0 (t : Int) (p : List UInt8 × List UInt8 × Int × Int × (Int × Int × Int × Int × Int) × (Int × Int × Int × Int × Int)) (y u k : Int) : sp_r8Next_0 (t, p, y, u, k) = (
  bif decide (k ≤ IntKind.i64.wrap (y + (2 : Int))) then
    (F_r8Begin (p, k)).bind fun x1 =>
      bif decide (t < x1) then
        bif decide (x1 < u) then
          (F_r8End (p, k)).bind fun x2 =>
            bif decide (t < x2) then bif decide (x2 < x1) then some (Sum.inl (t, p, y, x2, IntKind.i64.wrap (k + (1 : Int)))) else some (Sum.inl (t, p, y, x1, IntKind.i64.wrap (k + (1 : Int))))
            else some (Sum.inl (t, p, y, x1, IntKind.i64.wrap (k + (1 : Int))))
        else
          (F_r8End (p, k)).bind fun x2 =>
            bif decide (t < x2) then bif decide (x2 < u) then some (Sum.inl (t, p, y, x2, IntKind.i64.wrap (k + (1 : Int)))) else some (Sum.inl (t, p, y, u, IntKind.i64.wrap (k + (1 : Int))))
            else some (Sum.inl (t, p, y, u, IntKind.i64.wrap (k + (1 : Int))))
      else
        (F_r8End (p, k)).bind fun x2 =>
          bif decide (t < x2) then bif decide (x2 < u) then some (Sum.inl (t, p, y, x2, IntKind.i64.wrap (k + (1 : Int)))) else some (Sum.inl (t, p, y, u, IntKind.i64.wrap (k + (1 : Int))))
          else some (Sum.inl (t, p, y, u, IntKind.i64.wrap (k + (1 : Int))))
  else some (Sum.inr u)) := by kernel_rfl

theorem e_r8Next (p : List UInt8 × List UInt8 × Int × Int × (Int × Int × Int × Int × Int) × (Int × Int × Int × Int × Int)) (t : Int) : F_r8Next (p, t) = (
  bif decide ((↑(List.length p.snd.fst) : Int) = (0 : Int)) then some ((0 : Int), false)
  else (F_r8Year t).bind fun x1 => (w_r8Next_0 (t, p, x1.fst, (4611686018427387904 : Int), IntKind.i64.wrap (x1.fst - (2 : Int)))).bind fun x2 => some (x2, true)) := by kernel_rfl


/-! ### horologe/horologelaw18.Document -/
noncomputable abbrev ct_law18Document : List (FuncId × Bool × SpecT) := []
theorem cs_law18Document : AllSound Tryz.prog ct_law18Document := trivial
noncomputable def F_law18Document (x : ((Int × Bool × List UInt8))) : Option ((Int × Bool × List UInt8)) := (evalF Tryz.prog (lookT ct_law18Document) (keepT []) (loopsT []) false false Tryz.f33 (codP [pTyp]) 1 (codP [pTyp]) x).run
noncomputable abbrev s_law18Document : SpecT := specF (codP [pTyp]) 1 (codP [pTyp]) F_law18Document
theorem so_law18Document : SoundT Tryz.prog 33 s_law18Document := soundG (P := Tryz.prog) mixed (t := ct_law18Document) cs_law18Document (f := 33) (fn := Tryz.f33) Tryz.func33 (by kernel_rfl) (by kernel_rfl) (by kernel_rfl) (ls := []) (by kernel_rfl) (kp := keepT []) (lps := loopsT []) (bump := false) (ice := false) (A := (codP [pTyp])) (n := 1) (R := (codP [pTyp])) fun _ => lps_nil

theorem e_law18Document (l : Int × Bool × List UInt8) : F_law18Document l = (
  some l) := by kernel_rfl


/-! ### horologe/horologelaw18.FooterTells -/
noncomputable abbrev ct_lawFooterTells : List (FuncId × Bool × SpecT) := [(43, false, s_law18alive), (44, false, s_law17LongA), (22, false, s_law17Document), (45, false, s_ftAt), (46, false, s_ftNext), (21, false, s_r7Check), (47, false, s_r8Year), (11, false, s_lawNum), (48, false, s_r8Next), (49, false, s_r8At), (33, false, s_law18Document)]
theorem cs_lawFooterTells : AllSound Tryz.prog ct_lawFooterTells := ⟨so_law18alive, so_law17LongA, so_law17Document, so_ftAt, so_ftNext, so_r7Check, so_r8Year, so_lawNum, so_r8Next, so_r8At, so_law18Document, trivial⟩
noncomputable def F_lawFooterTells (x : ((List UInt8 × List UInt8 × Int × Int × (Int × Int × Int × Int × Int) × (Int × Int × Int × Int × Int)) × Int)) : Option (Bool) := (evalF Tryz.prog (lookT ct_lawFooterTells) (keepT []) (loopsT []) false false Tryz.f7 (codP [pPlan, pI]) 1 (codP [pB]) x).run
noncomputable abbrev s_lawFooterTells : SpecT := specF (codP [pPlan, pI]) 1 (codP [pB]) F_lawFooterTells
theorem so_lawFooterTells : SoundT Tryz.prog 7 s_lawFooterTells := soundG (P := Tryz.prog) mixed (t := ct_lawFooterTells) cs_lawFooterTells (f := 7) (fn := Tryz.f7) Tryz.func7 (by kernel_rfl) (by kernel_rfl) (by kernel_rfl) (ls := []) (by kernel_rfl) (kp := keepT []) (lps := loopsT []) (bump := false) (ice := false) (A := (codP [pPlan, pI])) (n := 1) (R := (codP [pB])) fun _ => lps_nil

theorem e_lawFooterTells (p : List UInt8 × List UInt8 × Int × Int × (Int × Int × Int × Int × Int) × (Int × Int × Int × Int × Int)) (t : Int) : F_lawFooterTells (p, t) = (
  (F_law18alive ()).bind fun x1 =>
    bif !x1 then some false
    else
      (F_law17LongA p).bind fun x2 =>
        bif x2 then some true
        else
          (F_law17Document p).bind fun x3 =>
            (F_ftAt (p, t)).bind fun x4 =>
              (F_ftNext (p, t)).bind fun x5 =>
                (F_r7Check x3).bind fun x6 =>
                  (F_r8Year t).bind fun x7 =>
                    bif decide (x6 = (0 : Int)) then
                      bif !x7.snd then
                        bif decide (x4.fst.fst = (0 : Int)) && (x4.fst.snd.fst == false && (decide (x4.fst.snd.snd = []) && true)) then
                          bif decide (x5.fst = (0 : Int)) then
                            bif !x5.snd.fst then (F_lawNum x4.snd).bind fun x8 => bif decide (x8 = (13 : Int)) then (F_lawNum x5.snd.snd).bind fun x9 => some (decide (x9 = (13 : Int))) else some false
                            else some false
                          else some false
                        else some false
                      else
                        bif decide (x6 ≠ (0 : Int)) then
                          bif decide (x4.fst.fst = (0 : Int)) && (x4.fst.snd.fst == false && (decide (x4.fst.snd.snd = []) && true)) then
                            bif decide (x5.fst = (0 : Int)) then
                              bif !x5.snd.fst then (F_lawNum x4.snd).bind fun x8 => bif decide (x8 = x6) then (F_lawNum x5.snd.snd).bind fun x9 => some (decide (x9 = x6)) else some false else some false
                            else some false
                          else some false
                        else
                          (F_r8Next (x3, t)).bind fun x8 =>
                            bif decide (x4.snd = (0 : Int)) then
                              bif decide (x5.snd.snd = (0 : Int)) then
                                (F_law18Document x4.fst).bind fun x9 =>
                                  (F_r8At (x3, t)).bind fun x10 =>
                                    bif decide (x9.fst = x10.fst) && (x9.snd.fst == x10.snd.fst && (decide (x9.snd.snd = x10.snd.snd) && true)) then
                                      bif decide (x5.fst = x8.fst) then some (x5.snd.fst == x8.snd) else some false
                                    else some false
                              else some false
                            else some false
                    else
                      bif decide (x6 ≠ (0 : Int)) then
                        bif decide (x4.fst.fst = (0 : Int)) && (x4.fst.snd.fst == false && (decide (x4.fst.snd.snd = []) && true)) then
                          bif decide (x5.fst = (0 : Int)) then
                            bif !x5.snd.fst then (F_lawNum x4.snd).bind fun x8 => bif decide (x8 = x6) then (F_lawNum x5.snd.snd).bind fun x9 => some (decide (x9 = x6)) else some false else some false
                          else some false
                        else some false
                      else
                        (F_r8Next (x3, t)).bind fun x8 =>
                          bif decide (x4.snd = (0 : Int)) then
                            bif decide (x5.snd.snd = (0 : Int)) then
                              (F_law18Document x4.fst).bind fun x9 =>
                                (F_r8At (x3, t)).bind fun x10 =>
                                  bif decide (x9.fst = x10.fst) && (x9.snd.fst == x10.snd.fst && (decide (x9.snd.snd = x10.snd.snd) && true)) then
                                    bif decide (x5.fst = x8.fst) then some (x5.snd.fst == x8.snd) else some false
                                  else some false
                            else some false
                          else some false) := by kernel_rfl

end Go.Sm
/- Plain Lean: loops over a text or a list. -/
set_option linter.unusedVariables false
set_option linter.unusedSimpArgs false
namespace Go.Sm
open Go.Proofs

theorem all_mem {p : UInt8 → Bool} {s : List UInt8} (h : s.all p = true) : ∀ x ∈ s, p x = true := List.all_eq_true.1 h
/-! ### Loops over a text or a list -/
theorem scan_loop {σ β γ : Type} {step : σ → Option (σ ⊕ β)} (st : Nat → σ) (fin : Nat → β) (l : List γ) (p : γ → Bool)
    (h1 : ∀ i (h : i < l.length), p l[i] = true → step (st i) = some (.inl (st (i + 1)))) (h2 : ∀ i (h : i < l.length), p l[i] = false → step (st i) = some (.inr (fin i)))
    (h3 : step (st l.length) = some (.inr (fin l.length))) : ∀ i, i ≤ l.length → whileO step (st i) = some (fin (i + ((l.drop i).takeWhile p).length)) := by
  have main : ∀ k i, l.length - i = k → i ≤ l.length → whileO step (st i) = some (fin (i + ((l.drop i).takeWhile p).length)) := by
    intro k
    induction k with
    | zero =>
      intro i hk hi
      obtain rfl : i = l.length := by omega
      rw [whileO_eq, h3, List.drop_length]
      rfl
    | succ k ih =>
      intro i hk hi
      have hlt : i < l.length := by omega
      rw [whileO_eq, List.drop_eq_getElem_cons hlt, List.takeWhile_cons]
      cases hp : p l[i] with
      | true =>
        rw [h1 i hlt hp]
        simp only [Option.bind_some, Sum.elim_inl, if_true, List.length_cons]
        rw [ih (i + 1) (by omega) (by omega)]
        congr 2
        omega
      | false =>
        rw [h2 i hlt hp]
        rfl
  exact fun i hi => main _ i rfl hi
theorem fold_loop {σ β γ α : Type} {step : σ → Option (σ ⊕ β)} (st : Nat → α → σ) (fin : α → β) (l : List γ) (f : α → γ → α) (ok : Nat → α → Prop)
    (h1 : ∀ i (h : i < l.length) a, ok i a → ok (i + 1) (f a l[i]) ∧ step (st i a) = some (.inl (st (i + 1) (f a l[i]))))
    (h3 : ∀ a, ok l.length a → step (st l.length a) = some (.inr (fin a))) : ∀ i a, i ≤ l.length → ok i a → whileO step (st i a) = some (fin ((l.drop i).foldl f a)) := by
  have main : ∀ k i a, l.length - i = k → i ≤ l.length → ok i a → whileO step (st i a) = some (fin ((l.drop i).foldl f a)) := by
    intro k
    induction k with
    | zero =>
      intro i a hk hi hok
      obtain rfl : i = l.length := by omega
      rw [whileO_eq, h3 a hok, List.drop_length]
      rfl
    | succ k ih =>
      intro i a hk hi hok
      have hlt : i < l.length := by omega
      obtain ⟨ho, hs⟩ := h1 i hlt a hok
      rw [whileO_eq, hs, List.drop_eq_getElem_cons hlt, List.foldl_cons]
      exact ih (i + 1) _ (by omega) (by omega) ho
  exact fun i a hi hok => main _ i a rfl hi hok
theorem wrap_succ {i : Nat} (h : i ≤ 1000000000000) : IntKind.i64.wrap ((i : Int) + 1) = ((i + 1 : Nat) : Int) := by rw [wrap_i64 (by omega) (by omega)]; simp
theorem getI_at {α : Type} {l : List α} {i : Nat} (h : i < l.length) : getI l (i : Int) = some l[i] := by rw [getI_nat, List.getElem?_eq_getElem h]
theorem tw_full (p : UInt8 → Bool) (s : List UInt8) : (s.takeWhile p).length = s.length ↔ s.all p = true := by
  constructor
  · intro h
    have : s.takeWhile p = s := List.IsPrefix.eq_of_length (List.takeWhile_prefix _) h
    rw [← this]
    exact takeWhile_all p s
  · intro h
    rw [takeWhile_self p s (all_mem h)]
theorem scan_ne {σ β : Type} {step : σ → Option (σ ⊕ β)} (st : Nat → σ) (fin : Nat → β) (s : List UInt8) (p : UInt8 → Bool)
    (h : ∀ i, i ≤ s.length → step (st i) = (if h : i < s.length then (if p s[i] then some (.inl (st (i + 1))) else some (.inr (fin i))) else some (.inr (fin i)))) :
    ∀ i, i ≤ s.length → whileO step (st i) = some (fin (i + ((s.drop i).takeWhile p).length)) :=
  scan_loop st fin s p (fun i hi hp => by rw [h i (by omega), dif_pos hi, if_pos hp]) (fun i hi hp => by rw [h i (by omega), dif_pos hi, if_neg (by simp [hp])]) (by rw [h _ (by omega), dif_neg (by omega)])
end Go.Sm
/- Plain Lean: the reference's years, months, days, rules' days. -/
set_option linter.unusedVariables false
set_option linter.unusedSimpArgs false
namespace Go.Sm
open Go.Proofs

theorem r5Leap (y : Int) : F_r5Leap y = some (decide (leap y)) := by
  have h4 := tmod_4 y
  have h100 := tmod_100 y
  have h400 := tmod_400 y
  rw [e_r5Leap]
  unfold leap
  by_cases h : y % 400 = 0
  · rw [decide_eq_true (h400.2 h), decide_eq_true (show y % 4 = 0 ∧ (y % 100 ≠ 0 ∨ y % 400 = 0) by omega)]
    rfl
  · rw [decide_eq_false (show ¬ y.tmod 400 = 0 by omega)]
    by_cases h1 : y % 4 = 0
    · rw [decide_eq_true (h4.2 h1)]
      simp only [cond_true, cond_false, Option.some.injEq]
      exact decide_eq_decide.2 (by omega)
    · rw [decide_eq_false (show ¬ y.tmod 4 = 0 by omega), decide_eq_false (show ¬ (y % 4 = 0 ∧ (y % 100 ≠ 0 ∨ y % 400 = 0)) by omega)]
      rfl
theorem r5Days (y : Int) : F_r5Days y = some (yL y) := by
  rw [e_r5Days, r5Leap]
  simp only [Option.bind_some]
  unfold yL
  by_cases h : leap y
  · rw [decide_eq_true h, if_pos h]; rfl
  · rw [decide_eq_false h, if_neg h]; rfl
theorem r5Month (y m : Int) (h1 : 1 ≤ m) (h2 : m ≤ 12) : F_r5Month (y, m) = some (mL y m) := by
  rw [e_r5Month, r5Leap]
  unfold mL
  rcases (by omega : m = 1 ∨ m = 2 ∨ m = 3 ∨ m = 4 ∨ m = 5 ∨ m = 6 ∨ m = 7 ∨ m = 8 ∨ m = 9 ∨ m = 10 ∨ m = 11 ∨ m = 12) with rfl | rfl | rfl | rfl | rfl | rfl | rfl | rfl | rfl | rfl | rfl | rfl
  case inr.inl =>
    rw [if_pos rfl]
    by_cases h : leap y
    · rw [decide_eq_true h, if_pos h]; rfl
    · rw [decide_eq_false h, if_neg h]; rfl
  all_goals rfl
theorem start0 : ∀ (k : Nat) (y n : Int), 1970 - y ≤ 400 * k → -1000000 ≤ y ∧ y ≤ 1000000 → 146097 * (k : Int) ≤ n + 1000000000000000 ∧ n ≤ 1000000000000000 →
    ∃ y' n', w_r5Start_0 (y, n) = some (y', n') ∧ n' + yS y' = n + yS y ∧ 1970 ≤ y' ∧ (y' = y ∨ y' < 2370)
  | 0, y, n, hk, hy, hn => by
    refine ⟨y, n, ?_, rfl, by omega, .inl rfl⟩
    rw [ew_r5Start_0, es_r5Start_0, cond_dec, if_neg (by omega)]
    rfl
  | k + 1, y, n, hk, hy, hn => by
    by_cases h : y < 1970
    · obtain ⟨y', n', h1, h2, h3, h4⟩ := start0 k (y + 400) (n - 146097) (by omega) (by omega) (by omega)
      refine ⟨y', n', ?_, ?_, h3, by omega⟩
      · rw [ew_r5Start_0, es_r5Start_0, cond_dec, if_pos h, wrap_i64 (x := y + 400) (by omega) (by omega), wrap_i64 (x := n - 146097) (by omega) (by omega)]
        exact h1
      · have := yS_400 y
        omega
    · exact ⟨y, n, by rw [ew_r5Start_0, es_r5Start_0, cond_dec, if_neg h]; rfl, rfl, by omega, .inl rfl⟩
theorem start1 : ∀ (k : Nat) (y n : Int), y - 2369 ≤ 400 * k → 1970 ≤ y ∧ y ≤ 1000000 → -1000000000000000 ≤ n ∧ n ≤ 1000000000000000 - 146097 * (k : Int) →
    ∃ y' n', w_r5Start_1 (y, n) = some (y', n') ∧ n' + yS y' = n + yS y ∧ 1970 ≤ y' ∧ y' < 2370
  | 0, y, n, hk, hy, hn => ⟨y, n, by rw [ew_r5Start_1, es_r5Start_1, cond_dec, if_neg (by omega)]; rfl, rfl, by omega, by omega⟩
  | k + 1, y, n, hk, hy, hn => by
    by_cases h : 2370 ≤ y
    · obtain ⟨y', n', h1, h2, h3, h4⟩ := start1 k (y - 400) (n + 146097) (by omega) (by omega) (by omega)
      refine ⟨y', n', ?_, ?_, h3, h4⟩
      · rw [ew_r5Start_1, es_r5Start_1, cond_dec, if_pos h, wrap_i64 (x := y - 400) (by omega) (by omega), wrap_i64 (x := n + 146097) (by omega) (by omega)]
        exact h1
      · have := yS_400n y
        omega
    · exact ⟨y, n, by rw [ew_r5Start_1, es_r5Start_1, cond_dec, if_neg h]; rfl, rfl, by omega, by omega⟩
theorem start2 (y : Int) (hy : y ≤ 3000) : ∀ (k : Nat) (n x : Int), x + k = y → 0 ≤ x → -1000000000000000 ≤ n ∧ n ≤ 1000000000000000 - 366 * (k : Int) → w_r5Start_2 (y, n, x) = some (n + yS y - yS x)
  | 0, n, x, hk, hx, hn => by
    obtain rfl : x = y := by omega
    rw [ew_r5Start_2, es_r5Start_2, cond_dec, if_neg (by omega)]
    simp only [Option.bind_some, Sum.elim_inr]
    congr 1
    omega
  | k + 1, n, x, hk, hx, hn => by
    have hL := yL_le x
    rw [ew_r5Start_2, es_r5Start_2, cond_dec, if_pos (by omega), r5Days]
    simp only [Option.bind_some]
    rw [wrap_i64 (x := n + yL x) (by omega) (by omega), wrap_i64 (x := x + 1) (by omega) (by omega)]
    simp only [Sum.elim_inl]
    rw [start2 y hy k (n + yL x) (x + 1) (by omega) (by omega) (by omega), yS_succ]
    congr 1
    omega
theorem r5Start (y : Int) (hy : -30000 ≤ y ∧ y ≤ 30000) : F_r5Start y = some (yS y) := by
  obtain ⟨y1, n1, h1, h2, h3, h4⟩ := start0 80 y 0 (by omega) (by omega) (by omega)
  have hb1 : -100000000 ≤ n1 ∧ n1 ≤ 100000000 := by
    have e1 : yS y1 = yS y1 := rfl
    have b1 : -20000000 ≤ yS y ∧ yS y ≤ 20000000 := by unfold yS; omega
    have b2 : -20000000 ≤ yS y1 ∧ yS y1 ≤ 20000000 := by unfold yS; omega
    omega
  obtain ⟨y2, n2, h5, h6, h7, h8⟩ := start1 80 y1 n1 (by omega) (by omega) (by omega)
  have b2 : -20000000 ≤ yS y2 ∧ yS y2 ≤ 20000000 := by unfold yS; omega
  have b1 : -20000000 ≤ yS y ∧ yS y ≤ 20000000 := by unfold yS; omega
  rw [e_r5Start, h1]
  simp only [Option.bind_some]
  rw [h5]
  simp only [Option.bind_some]
  rw [start2 y2 (by omega) (y2 - 1970).toNat n2 1970 (by omega) (by omega) (by omega), yS_1970]
  simp only [Option.bind_some]
  congr 1
  omega
theorem of_loop (y m : Int) (hm : m ≤ 12) : ∀ (k : Nat) (n x : Int), x + k = m → 1 ≤ x → -1000000000000 ≤ n ∧ n ≤ 1000000000000 + 40 * x → w_r5Of_0 (y, m, n, x) = some (n + mC y m - mC y x)
  | 0, n, x, hk, hx, hn => by
    obtain rfl : x = m := by omega
    rw [ew_r5Of_0, es_r5Of_0, cond_dec, if_neg (by omega)]
    simp only [Option.bind_some, Sum.elim_inr]
    congr 1
    omega
  | k + 1, n, x, hk, hx, hn => by
    have hL := mL_le y x
    rw [ew_r5Of_0, es_r5Of_0, cond_dec, if_pos (by omega), r5Month y x hx (by omega)]
    simp only [Option.bind_some]
    rw [wrap_i64 (x := n + mL y x) (by omega) (by omega), wrap_i64 (x := x + 1) (by omega) (by omega)]
    simp only [Sum.elim_inl]
    rw [of_loop y m hm k (n + mL y x) (x + 1) (by omega) (by omega) (by omega), mC_succ y x hx (by omega)]
    congr 1
    omega
theorem r5Of (y m d : Int) (hy : -30000 ≤ y ∧ y ≤ 30000) (hm : 1 ≤ m ∧ m ≤ 12) (hd : -1000 ≤ d ∧ d ≤ 1000) : F_r5Of (y, m, d) = some (dN y m d) := by
  have b1 : -20000000 ≤ yS y ∧ yS y ≤ 20000000 := by unfold yS; omega
  rw [e_r5Of, r5Start y hy]
  simp only [Option.bind_some]
  rw [wrap_i64 (x := yS y + d) (by omega) (by omega), wrap_i64 (x := yS y + d - 1) (by omega) (by omega), of_loop y m hm.2 (m - 1).toNat _ 1 (by omega) (by omega) (by omega), mC_1]
  simp only [Option.bind_some]
  unfold dN
  congr 1
  omega
theorem week_list (r : Int) (h1 : 0 ≤ r) (h2 : r < 7) : [(4 : Int), (5 : Int), (6 : Int), (7 : Int), (1 : Int), (2 : Int), (3 : Int)][r.toNat]? = some ((r + 3) % 7 + 1) := by
  rcases (by omega : r = 0 ∨ r = 1 ∨ r = 2 ∨ r = 3 ∨ r = 4 ∨ r = 5 ∨ r = 6) with rfl | rfl | rfl | rfl | rfl | rfl | rfl <;> rfl
theorem r5Weekday (n : Int) : F_r5Weekday n = some ((n + 3) % 7 + 1) := by
  rw [e_r5Weekday, cond_dec]
  by_cases h : 0 ≤ n
  · rw [tmod_nn (a := n) h, if_neg (by omega), cond_dec, if_pos (by omega), week_list _ (by omega) (by omega)]
    simp only [Option.bind_some]
    congr 1
    omega
  · rw [tmod_ng (a := n) (by omega)]
    by_cases h2 : -(-n % 7) < 0
    · rw [if_pos h2, wrap_i64 (x := -(-n % 7) + 7) (by omega) (by omega), cond_dec, if_pos (by omega), week_list _ (by omega) (by omega)]
      simp only [Option.bind_some]
      congr 1
      omega
    · rw [if_neg h2, cond_dec, if_pos (by omega), week_list _ (by omega) (by omega)]
      simp only [Option.bind_some]
      congr 1
      omega

/-! ### Dates -/
theorem date0 : ∀ (k : Nat) (n y : Int), -n ≤ 146097 * k → -1000000000000 ≤ n ∧ n ≤ 1000000000000 → 400 * (k : Int) ≤ y + 1000000000 ∧ y ≤ 1000000000 →
    ∃ n' y', w_r5Date_0 (n, y) = some (n', y') ∧ n' + yS y' = n + yS y ∧ 0 ≤ n' ∧ (n' = n ∨ n' < 146097) ∧ y - 400 * (k : Int) ≤ y' ∧ y' ≤ y
  | 0, n, y, hk, hn, hy => by
    refine ⟨n, y, ?_, rfl, by omega, .inl rfl, by omega, by omega⟩
    rw [ew_r5Date_0, es_r5Date_0, cond_dec, if_neg (by omega)]
    rfl
  | k + 1, n, y, hk, hn, hy => by
    by_cases h : n < 0
    · obtain ⟨n', y', h1, h2, h3, h4, h5, h6⟩ := date0 k (n + 146097) (y - 400) (by omega) (by omega) (by omega)
      refine ⟨n', y', ?_, ?_, h3, by omega, by omega, by omega⟩
      · rw [ew_r5Date_0, es_r5Date_0, cond_dec, if_pos h, wrap_i64 (x := n + 146097) (by omega) (by omega), wrap_i64 (x := y - 400) (by omega) (by omega)]
        exact h1
      · have := yS_400n y
        omega
    · exact ⟨n, y, by rw [ew_r5Date_0, es_r5Date_0, cond_dec, if_neg h]; rfl, rfl, by omega, .inl rfl, by omega, by omega⟩
theorem date1 : ∀ (k : Nat) (n y : Int), n < 146097 * (k + 1) → 0 ≤ n ∧ n ≤ 1000000000000 → -1000000000 ≤ y ∧ y ≤ 1000000000 - 400 * (k : Int) →
    ∃ n' y', w_r5Date_1 (n, y) = some (n', y') ∧ n' + yS y' = n + yS y ∧ 0 ≤ n' ∧ n' < 146097 ∧ y ≤ y' ∧ y' ≤ y + 400 * (k : Int)
  | 0, n, y, hk, hn, hy => ⟨n, y, by rw [ew_r5Date_1, es_r5Date_1, cond_dec, if_neg (by omega)]; rfl, rfl, by omega, by omega, by omega, by omega⟩
  | k + 1, n, y, hk, hn, hy => by
    by_cases h : 146097 ≤ n
    · obtain ⟨n', y', h1, h2, h3, h4, h5, h6⟩ := date1 k (n - 146097) (y + 400) (by omega) (by omega) (by omega)
      refine ⟨n', y', ?_, ?_, h3, h4, by omega, by omega⟩
      · rw [ew_r5Date_1, es_r5Date_1, cond_dec, if_pos h, wrap_i64 (x := n - 146097) (by omega) (by omega), wrap_i64 (x := y + 400) (by omega) (by omega)]
        exact h1
      · have := yS_400 y
        omega
    · exact ⟨n, y, by rw [ew_r5Date_1, es_r5Date_1, cond_dec, if_neg h]; rfl, rfl, by omega, by omega, by omega, by omega⟩
theorem date2 : ∀ (k : Nat) (n y : Int), n < 365 * (k + 1) → 0 ≤ n → -1000000000000 ≤ y ∧ y ≤ 1000000000000 - (k : Int) →
    ∃ n' y', w_r5Date_2 (n, y) = some (n', y') ∧ n' + yS y' = n + yS y ∧ 0 ≤ n' ∧ n' < yL y'
  | 0, n, y, hk, hn, hy => by
    have hL := yL_le y
    exact ⟨n, y, by rw [ew_r5Date_2, es_r5Date_2, r5Days]; simp only [Option.bind_some]; rw [cond_dec, if_neg (by omega)]; rfl, rfl, hn, by omega⟩
  | k + 1, n, y, hk, hn, hy => by
    have hL := yL_le y
    by_cases h : yL y ≤ n
    · obtain ⟨n', y', h1, h2, h3, h4⟩ := date2 k (n - yL y) (y + 1) (by omega) (by omega) (by omega)
      refine ⟨n', y', ?_, ?_, h3, h4⟩
      · rw [ew_r5Date_2, es_r5Date_2, r5Days]
        simp only [Option.bind_some]
        rw [cond_dec, if_pos h, wrap_i64 (x := n - yL y) (by omega) (by omega), wrap_i64 (x := y + 1) (by omega) (by omega)]
        exact h1
      · have := yS_succ y
        omega
    · exact ⟨n, y, by rw [ew_r5Date_2, es_r5Date_2, r5Days]; simp only [Option.bind_some]; rw [cond_dec, if_neg h]; rfl, rfl, hn, by omega⟩
theorem date3 (y : Int) : ∀ (k : Nat) (n m : Int), m + k = 12 → 1 ≤ m → 0 ≤ n → n < mC y 13 - mC y m → ∃ n' m', w_r5Date_3 (n, y, m) = some (n', y, m')
  | 0, n, m, hk, hm, hn, hlt => by
    obtain rfl : m = 12 := by omega
    have := mC_succ y 12 (by omega) (by omega)
    rw [show (12 : Int) + 1 = 13 by omega] at this
    exact ⟨n, 12, by rw [ew_r5Date_3, es_r5Date_3, r5Month y 12 (by omega) (by omega)]; simp only [Option.bind_some]; rw [cond_dec, if_neg (by omega)]; rfl⟩
  | k + 1, n, m, hk, hm, hn, hlt => by
    have hs := mC_succ y m hm (by omega)
    have hL := mL_le y m
    have h13 := mC_13 y
    have hyL := yL_le y
    have hmC := mC_le y m hm (by omega)
    by_cases h : mL y m ≤ n
    · obtain ⟨n', m', h1⟩ := date3 y k (n - mL y m) (m + 1) (by omega) (by omega) (by omega) (by omega)
      refine ⟨n', m', ?_⟩
      rw [ew_r5Date_3, es_r5Date_3, r5Month y m hm (by omega)]
      simp only [Option.bind_some]
      rw [cond_dec, if_pos h, wrap_i64 (x := n - mL y m) (by omega) (by omega), wrap_i64 (x := m + 1) (by omega) (by omega)]
      exact h1
    · exact ⟨n, m, by rw [ew_r5Date_3, es_r5Date_3, r5Month y m hm (by omega)]; simp only [Option.bind_some]; rw [cond_dec, if_neg h]; rfl⟩
theorem r5Date (n : Int) (hn : -10000000 ≤ n ∧ n ≤ 10000000) : ∃ y m d, F_r5Date n = some (y, m, d) ∧ yS y ≤ n ∧ n < yS (y + 1) := by
  obtain ⟨n1, y1, h1, h2, h3, h4, h5, h6⟩ := date0 100 n 1970 (by omega) (by omega) (by omega)
  obtain ⟨n2, y2, h7, h8, h9, h10, h11, h12⟩ := date1 100 n1 y1 (by omega) (by omega) (by omega)
  obtain ⟨n3, y3, h13, h14, h15, h16⟩ := date2 500 n2 y2 (by omega) h9 (by omega)
  obtain ⟨n4, m4, h17⟩ := date3 y3 11 n3 1 (by omega) (by omega) h15 (by rw [mC_13, mC_1]; omega)
  have hs := yS_succ y3
  rw [yS_1970] at h2
  refine ⟨y3, m4, IntKind.i64.wrap (n4 + 1), ?_, by omega, by omega⟩
  rw [e_r5Date, h1]
  simp only [Option.bind_some]
  rw [h7]
  simp only [Option.bind_some]
  rw [h13]
  simp only [Option.bind_some]
  rw [h17]
  rfl
theorem r5First : F_r5First () = some (yS (-9999)) := by
  rw [e_r5First, r5Start _ (by omega)]
  rfl
theorem r5Last : F_r5Last () = some (yS 10000 - 1) := by
  rw [e_r5Last, r5Start _ (by omega)]
  simp only [Option.bind_some]
  rw [show yS 10000 = 2932897 by decide]
  rfl
theorem year_tail (n : Int) : ((F_r5First ()).bind fun x1 =>
    bif decide (n < x1) then some ((0 : Int), false)
    else
      (F_r5Last ()).bind fun x2 =>
        bif decide (x2 < n) then some ((0 : Int), false)
        else (F_r5Date n).bind fun x3 => some (x3.fst, true)) = if yS (-9999) ≤ n ∧ n < yS 10000 then (F_r5Date n).bind (fun x3 => some (x3.fst, true)) else some (0, false) := by
  rw [r5First]
  simp only [Option.bind_some]
  rw [cond_dec]
  by_cases h1 : n < yS (-9999)
  · rw [if_pos h1, if_neg (by omega)]
  · rw [if_neg h1, r5Last]
    simp only [Option.bind_some]
    rw [cond_dec]
    by_cases h2 : yS 10000 - 1 < n
    · rw [if_pos h2, if_neg (by omega)]
    · rw [if_neg h2, if_pos (by omega)]
theorem r8Year_n (t : Int) (ht : i64 t) : F_r8Year t = if dated t then (F_r5Date (t / 86400)).bind (fun x3 => some (x3.fst, true)) else some (0, false) := by
  rw [e_r8Year, cond_dec]
  by_cases h : 0 ≤ t
  · rw [tmod_nn (a := t) h, if_neg (by omega), tdiv_nn (a := t) h, wrap_i64 (x := t / 86400) (by omega) (by omega), year_tail]
  · rw [tmod_ng (a := t) (by omega), tdiv_ng (a := t) (by omega), wrap_i64 (x := -(-t / 86400)) (by omega) (by omega)]
    by_cases h2 : -(-t % 86400) < 0
    · rw [if_pos h2, wrap_i64 (x := -(-t / 86400) - 1) (by omega) (by omega), year_tail, show -(-t / 86400) - 1 = t / 86400 by omega]
    · rw [if_neg h2, year_tail, show -(-t / 86400) = t / 86400 by omega]
theorem r8Year_ok (t y : Int) (ht : i64 t) (hd : dated t) (h1 : yS y ≤ t / 86400) (h2 : t / 86400 < yS (y + 1)) : F_r8Year t = some (y, true) := by
  have a1 : yS (-9999) = -4371587 := by decide
  have a2 : yS 10000 = 2932897 := by decide
  obtain ⟨y', m, d, h3, h4, h5⟩ := r5Date (t / 86400) (by omega)
  rw [r8Year_n t ht, if_pos hd, h3, yS_uniq h1 h2 h4 h5]
  rfl
theorem r8Year_bad (t : Int) (ht : i64 t) (hd : ¬ dated t) : F_r8Year t = some (0, false) := by rw [r8Year_n t ht, if_neg hd]
end Go.Sm
/- Plain Lean: letters, names (reference). -/
set_option linter.unusedVariables false
set_option linter.unusedSimpArgs false
namespace Go.Sm
open Go.Proofs

theorem byte_all {P : UInt8 → Prop} (h : ∀ n, n < 256 → P (UInt8.ofNat n)) (b : UInt8) : P b := by
  have := h b.toNat b.toNat_lt
  rwa [UInt8.ofNat_toNat] at this
theorem letter_tree : ∀ b : UInt8, (bif decide ((65 : UInt8) ≤ b) then bif decide (b ≤ (90 : UInt8)) then some true else bif decide ((97 : UInt8) ≤ b) then some (decide (b ≤ (122 : UInt8))) else some false
  else bif decide ((97 : UInt8) ≤ b) then some (decide (b ≤ (122 : UInt8))) else some false) = some (letters.contains b) := byte_all (by decide +kernel)
theorem r7letter (b : UInt8) : F_r7letter b = some (letters.contains b) := by rw [e_r7letter, letter_tree]
theorem r7figure (b : UInt8) : F_r7figure b = some (isFig b) := by
  rw [e_r7figure]
  unfold isFig
  cases decide ((48 : UInt8) ≤ b) <;> rfl
theorem named_eq : ∀ b : UInt8, named.contains b = (letters.contains b || (isFig b || (decide (b = 43) || decide (b = 45)))) := byte_all (by decide +kernel)
theorem clocks_eq : ∀ b : UInt8, clocks.contains b = (isFig b || (decide (b = 43) || (decide (b = 45) || decide (b = 58)))) := byte_all (by decide +kernel)
theorem r7Name (s : List UInt8) (hs : small s) : F_r7Name s = some (nameB s) := by
  unfold small at hs
  have step : ∀ i (h : i < s.length), sp_r7Name_0 (s, (i : Int)) = if named.contains s[i] then some (.inl (s, ((i + 1 : Nat) : Int))) else some (.inr (.inl false)) := by
    intro i h
    rw [es_r7Name_0, cond_dec, if_pos (by omega), getI_at h, wrap_succ (by omega)]
    simp only [Option.bind_some]
    rw [r7letter, r7figure, named_eq]
    simp only [Option.bind_some]
    cases letters.contains s[i] with
    | true => rfl
    | false =>
      cases isFig s[i] with
      | true => rfl
      | false =>
        simp only [Bool.not_false, cond_true, Bool.false_or]
        by_cases h1 : s[i] = 43
        · rw [decide_eq_false (by simpa using h1), decide_eq_true h1]; rfl
        · rw [decide_eq_true (by simpa using h1), decide_eq_false h1]
          by_cases h2 : s[i] = 45
          · rw [decide_eq_false (by simpa using h2), decide_eq_true h2]; rfl
          · rw [decide_eq_true (by simpa using h2), decide_eq_false h2]; rfl
  have h := scan_loop (step := sp_r7Name_0) (fun i => (s, (i : Int))) (fun i => if i < s.length then Sum.inl false else Sum.inr s) s (fun c => named.contains c)
    (fun i h hp => by rw [step i h, if_pos hp]) (fun i h hp => by rw [step i h, if_neg (by rw [hp]; simp), if_pos h])
    (by rw [es_r7Name_0, cond_dec, if_neg (by omega), if_neg (by omega)]) 0 (by omega)
  have h : w_r7Name_0 (s, (0 : Int)) = _ := h
  rw [e_r7Name, h]
  simp only [Option.bind_some, Nat.zero_add, List.drop_zero]
  have hle := (List.takeWhile_prefix (p := fun c => named.contains c) (l := s)).length_le
  have hfull := tw_full (fun c => named.contains c) s
  unfold nameB
  by_cases hq : (s.takeWhile fun c => named.contains c).length < s.length
  · rw [if_pos hq]
    have : s.all (fun c => named.contains c) = false := by
      cases hb : s.all (fun c => named.contains c) with
      | false => rfl
      | true => have := hfull.2 hb; omega
    rw [this, Bool.and_false]
    rfl
  · rw [if_neg hq, hfull.1 (by omega), Bool.and_true]
    simp only [Sum.elim_inr]
    rw [cond_dec]
    by_cases h3 : 3 ≤ s.length
    · rw [if_pos (by omega)]
      congr 1
      exact decide_eq_decide.2 (by omega)
    · rw [if_neg (by omega), decide_eq_false (by omega)]
end Go.Sm
/- Plain Lean: right plans (program and reference). -/
set_option linter.unusedVariables false
set_option linter.unusedSimpArgs false
namespace Go.Sm
open Go.Proofs

theorem pck_zero {p : Pln} (h : pck p = 0) : nameB p.1 = true ∧ (-89999 ≤ p.2.2.1 ∧ p.2.2.1 ≤ 89999) ∧ (-89999 ≤ p.2.2.2.1 ∧ p.2.2.2.1 ≤ 89999) ∧
    ((p.2.1 = [] ∧ p.2.2.2.1 = 0 ∧ isNo p.2.2.2.2.1 = true ∧ isNo p.2.2.2.2.2 = true) ∨ (p.2.1 ≠ [] ∧ nameB p.2.1 = true ∧ rckR p.2.2.2.2.1 = 0 ∧ rckR p.2.2.2.2.2 = 0)) := by
  unfold pck at h
  split at h
  · cases h
  · rename_i h1
    have h1 : nameB p.1 = true := by simpa using h1
    split at h
    · rename_i h2
      split at h
      · cases h
      · rename_i h3
        have h3 : nameB p.2.1 = true := by simpa using h3
        split at h
        · cases h
        · rename_i h4
          have h4 : -89999 ≤ p.2.2.1 ∧ p.2.2.1 ≤ 89999 := by simpa [shB] using h4
          split at h
          · cases h
          · rename_i h5
            have h5 : -89999 ≤ p.2.2.2.1 ∧ p.2.2.2.1 ≤ 89999 := by simpa [shB] using h5
            split at h
            · rename_i h6; exact absurd h h6
            · rename_i h6
              exact ⟨h1, h4, h5, .inr ⟨h2, h3, Decidable.not_not.1 h6, h⟩⟩
    · rename_i h2
      have h2 : p.2.1 = [] := by simpa using h2
      split at h
      · cases h
      · rename_i h3
        split at h
        · cases h
        · rename_i h4
          have h4 : -89999 ≤ p.2.2.1 ∧ p.2.2.1 ≤ 89999 := by simpa [shB] using h4
          split at h
          · cases h
          · rename_i h5
            have h5 : -89999 ≤ p.2.2.2.1 ∧ p.2.2.2.1 ≤ 89999 := by simpa [shB] using h5
            have h3 : p.2.2.2.1 = 0 ∧ isNo p.2.2.2.2.1 = true ∧ isNo p.2.2.2.2.2 = true := by
              have : idleB p.2.2.2.1 p.2.2.2.2.1 p.2.2.2.2.2 = true := by simpa using h3
              unfold idleB at this
              simpa using this
            exact ⟨h1, h4, h5, .inl ⟨h2, h3⟩⟩
theorem nameB_len {s : List UInt8} (h : nameB s = true) : s.length ≤ 16 := by
  unfold nameB at h
  rw [Bool.and_eq_true, decide_eq_true_eq] at h
  exact h.1.2
theorem r6CheckR (r : Rul) : F_r6Check r = some (rckR r) := r6Check _ _ _ _ _
theorem shB_tree {α : Type} (o : Int) (x y : α) : (bif decide (o < (-89999 : Int)) then x else bif decide ((89999 : Int) < o) then x else y) = bif shB o then y else x := by
  unfold shB
  by_cases h1 : o < -89999
  · rw [decide_eq_true h1, decide_eq_false (show ¬ (-89999 ≤ o ∧ o ≤ 89999) by omega)]; rfl
  · rw [decide_eq_false h1]
    by_cases h2 : 89999 < o
    · rw [decide_eq_true h2, decide_eq_false (show ¬ (-89999 ≤ o ∧ o ≤ 89999) by omega)]; rfl
    · rw [decide_eq_false h2, decide_eq_true (show -89999 ≤ o ∧ o ≤ 89999 by omega)]; rfl
theorem r7Check (p : Pln) (h1 : small p.1) (h2 : small p.2.1) : F_r7Check p = some (pck p) := by
  rw [e_r7Check, r7Name _ h1]
  simp only [Option.bind_some]
  unfold pck
  cases hn : nameB p.1 with
  | false => rfl
  | true =>
    simp only [Bool.not_true, cond_false, Bool.true_eq_false, if_false]
    rw [cond_dec]
    by_cases hs : p.2.1 ≠ []
    · have hl : 0 < p.2.1.length := List.length_pos_iff.2 hs
      rw [if_neg (by omega), if_pos hs, cond_dec, if_pos (by omega), r7Name _ h2]
      simp only [Option.bind_some]
      cases hm : nameB p.2.1 with
      | false => rfl
      | true =>
        simp only [Bool.not_true, cond_false, Bool.true_eq_false, if_false]
        rw [shB_tree, shB_tree]
        cases shB p.2.2.1 with
        | false => rfl
        | true =>
          simp only [cond_true, Bool.true_eq_false, if_false]
          cases shB p.2.2.2.1 with
          | false => rfl
          | true =>
            simp only [cond_true, Bool.true_eq_false, if_false]
            rw [cond_dec, if_neg (by omega), r6CheckR]
            simp only [Option.bind_some]
            rw [cond_dec]
            by_cases hr : rckR p.2.2.2.2.1 ≠ 0
            · rw [if_pos hr, if_pos hr]
            · rw [if_neg hr, if_neg hr, r6CheckR]
              rfl
    · have hl : p.2.1 = [] := by simpa using hs
      have hl0 : ((p.2.1.length : Nat) : Int) = 0 := by rw [hl]; rfl
      rw [if_pos hl0, if_neg hs, cond_dec]
      unfold idleB
      by_cases ha : p.2.2.2.1 ≠ 0
      · rw [if_pos ha, decide_eq_false ha]
        rfl
      · rw [if_neg ha, decide_eq_true (Decidable.not_not.1 ha), Bool.true_and]
        show (bif !(isNo p.2.2.2.2.1) then some 2 else bif !(isNo p.2.2.2.2.2) then some 2 else _) = _
        cases isNo p.2.2.2.2.1 with
        | false => rfl
        | true =>
          cases isNo p.2.2.2.2.2 with
          | false => rfl
          | true =>
            simp only [Bool.not_true, cond_false, Bool.and_true, Bool.true_eq_false, if_false]
            rw [cond_dec, if_neg (by omega), shB_tree, shB_tree]
            cases shB p.2.2.1 with
            | false => rfl
            | true =>
              simp only [cond_true, Bool.true_eq_false, if_false]
              cases shB p.2.2.2.1 with
              | false => rfl
              | true =>
                simp only [cond_true, Bool.true_eq_false, if_false]
                rw [cond_dec, if_pos hl0]
end Go.Sm
/- Plain Lean: clocks by a plan at any second (program). -/
set_option linter.unusedVariables false
set_option linter.unusedSimpArgs false
namespace Go.Sm
open Go.Proofs

/-! ### Rising lists -/
/-- So many of a list's numbers are below a number. -/
structure Srt (c : Nat) (l : List Int) (t : Int) : Prop where
  le : c ≤ l.length
  lo : ∀ i (h : i < l.length), i < c → l[i] < t
  hi : ∀ i (h : i < l.length), c ≤ i → t ≤ l[i]
theorem srt_ex (t : Int) : ∀ l : List Int, l.Pairwise (· < ·) → ∃ c, Srt c l t
  | [], _ => ⟨0, Nat.le_refl _, fun i h => by simp at h, fun i h => by simp at h⟩
  | x :: l, hp => by
    rw [List.pairwise_cons] at hp
    by_cases hx : x < t
    · obtain ⟨c, h⟩ := srt_ex t l hp.2
      refine ⟨c + 1, by simpa using h.le, fun i hi hc => ?_, fun i hi hc => ?_⟩
      · cases i with
        | zero => exact hx
        | succ i => exact h.lo i (by simpa using hi) (by omega)
      · cases i with
        | zero => omega
        | succ i => exact h.hi i (by simpa using hi) (by omega)
    · refine ⟨0, by omega, fun i hi hc => by omega, fun i hi _ => ?_⟩
      cases i with
      | zero => show t ≤ x; omega
      | succ i =>
        have := hp.1 (l[i]'(by simpa using hi)) (List.getElem_mem _)
        show t ≤ l[i]'(by simpa using hi)
        omega
theorem cmpLess (x y : Int) : F_cmpLess (x, y) = some (decide (x < y)) := by
  have h : F_cmpIsNaN x = some false := by rw [e_cmpIsNaN]; simp
  rw [e_cmpLess, h]
  rfl
theorem slSearch_loop {l : List Int} {t : Int} {c : Nat} (hs : Srt c l t) (hl : l.length ≤ 1000000) (n : Int) : ∀ (k i j : Nat), j - i = k → i ≤ c → c ≤ j → j ≤ l.length → w_slSearch_0 (l, t, n, (i : Int), (j : Int)) = some (l, t, n, (c : Int)) := by
  intro k
  induction k using Nat.strongRecOn with
  | _ k ih =>
    intro i j hk hi hj hjl
    by_cases h0 : i < j
    · have hw : IntKind.u64.wrap (IntKind.i64.wrap ((i : Int) + (j : Int))) = ((i + j : Nat) : Int) := by
        rw [wrap_i64 (by omega) (by omega), wrap_u64 (by omega) (by omega)]
        simp
      have hf : (((i + j : Nat) : Int)).fdiv 2 = (((i + j) / 2 : Nat) : Int) := by
        rw [Int.fdiv_eq_ediv_of_nonneg _ (by omega)]
        rfl
      have hlt : (i + j) / 2 < l.length := by omega
      rw [ew_slSearch_0, es_slSearch_0, cond_dec, if_pos (by omega), hw, hf, wrap_i64 (x := (((i + j) / 2 : Nat) : Int)) (by omega) (by omega), getI_at hlt]
      simp only [Option.bind_some]
      rw [cmpLess]
      simp only [Option.bind_some]
      rw [cond_dec]
      by_cases hc : l[(i + j) / 2] < t
      · rw [if_pos hc, wrap_succ (by omega)]
        simp only [Option.bind_some, Sum.elim_inl]
        have : (i + j) / 2 < c := by
          by_cases hq : (i + j) / 2 < c
          · exact hq
          · have := hs.hi _ hlt (by omega); omega
        exact ih (j - ((i + j) / 2 + 1)) (by omega) _ _ rfl (by omega) hj hjl
      · rw [if_neg hc]
        simp only [Option.bind_some, Sum.elim_inl]
        have : c ≤ (i + j) / 2 := by
          by_cases hq : c ≤ (i + j) / 2
          · exact hq
          · have := hs.lo _ hlt (by omega); omega
        exact ih ((i + j) / 2 - i) (by omega) _ _ rfl hi (by omega) (by omega)
    · rw [ew_slSearch_0, es_slSearch_0, cond_dec, if_neg (by omega)]
      simp only [Option.bind_some, Sum.elim_inr]
      have : i = c := by omega
      rw [this]
theorem slSearch {l : List Int} {t : Int} {c : Nat} (hs : Srt c l t) (hl : l.length ≤ 1000000) : F_slSearch (l, t) = some ((c : Int), decide (l[c]? = some t)) := by
  have h := slSearch_loop hs hl (l.length : Int) _ 0 l.length rfl (by omega) hs.le (Nat.le_refl _)
  have h : w_slSearch_0 (l, t, (l.length : Int), (0 : Int), (l.length : Int)) = _ := h
  have hn : ∀ x, F_slIsNaN x = some false := fun x => by rw [e_slIsNaN]; simp
  rw [e_slSearch, h]
  simp only [Option.bind_some]
  rw [cond_dec]
  have hle := hs.le
  by_cases hc : c < l.length
  · rw [if_pos (by omega), getI_at hc, List.getElem?_eq_getElem hc]
    simp only [Option.bind_some]
    rw [cond_dec]
    by_cases he : l[c] = t
    · rw [if_pos he, decide_eq_true (by rw [he])]
    · rw [if_neg he, hn, decide_eq_false (by simpa using he)]
      rfl
  · rw [if_neg (by omega), List.getElem?_eq_none (by omega)]
    rfl
/-- The last one that isn't behind a number, of a rising list whose first one isn't. -/
theorem ftLast {l : List Int} {t x : Int} {k : Nat} (hp : l.Pairwise (· < ·)) (hl : l.length ≤ 1000000) (hk : l[k]? = some x) (h1 : x ≤ t) (h2 : ∀ y, l[k + 1]? = some y → t < y) : F_ftLast (l, t) = some x := by
  obtain ⟨c, hs⟩ := srt_ex t l hp
  have hkl := (List.getElem?_eq_some_iff.1 hk).1
  have hx := (List.getElem?_eq_some_iff.1 hk).2
  have hle := hs.le
  have hnext : ∀ i (h : i < l.length), k < i → t < l[i] := by
    intro i h hi
    have h3 := h2 (l[k + 1]'(by omega)) (List.getElem?_eq_getElem (by omega))
    by_cases he : i = k + 1
    · subst he; exact h3
    · have := List.pairwise_iff_getElem.1 hp (k + 1) i (by omega) h (by omega)
      omega
  rw [e_ftLast, slSearch hs hl]
  simp only [Option.bind_some]
  by_cases hf : l[c]? = some t
  · have hcl := (List.getElem?_eq_some_iff.1 hf).1
    have hct := (List.getElem?_eq_some_iff.1 hf).2
    have : c = k := by
      rcases Nat.lt_trichotomy c k with h | h | h
      · have := List.pairwise_iff_getElem.1 hp c k hcl hkl h
        omega
      · exact h
      · have := hnext c hcl h
        omega
    subst this
    rw [decide_eq_true hf]
    simp only [Bool.not_true, cond_false]
    rw [show max ((c : Int)) 0 = (c : Int) by omega, getI_nat, hk]
    rfl
  · rw [decide_eq_false hf]
    simp only [Bool.not_false, cond_true]
    have hc : c = k + 1 := by
      have h3 : k < c := by
        by_cases hq : k < c
        · exact hq
        · exfalso
          have h4 := hs.hi k hkl (by omega)
          have h5 : l[k] = t := by omega
          by_cases he : c = k
          · subst he
            exact hf (by rw [List.getElem?_eq_getElem hkl, h5])
          · have h6 := hs.hi c (by omega) (Nat.le_refl _)
            have h7 := List.pairwise_iff_getElem.1 hp c k (by omega) hkl (by omega)
            omega
      by_cases he : c = k + 1
      · exact he
      · exfalso
        have h4 := hs.lo (k + 1) (by omega) (by omega)
        have h5 := hnext (k + 1) (by omega) (by omega)
        omega
    rw [hc, wrap_i64 (by omega) (by omega), show max (((k + 1 : Nat) : Int) - 1) 0 = (k : Int) by omega, getI_nat, hk]
    rfl

/-! ### Turns -/
/-- Begin and End of a year. -/
def tB (p : Pln) (y : Int) : Int := rA p.2.2.2.2.1 y - p.2.2.1
def tE (p : Pln) (y : Int) : Int := rA p.2.2.2.2.2 y - p.2.2.2.1
/-- A right plan with another time. -/
structure Two (p : Pln) : Prop where
  ok : pck p = 0
  two : p.2.1 ≠ []
theorem Two.b {p : Pln} (h : Two p) : rckR p.2.2.2.2.1 = 0 ∧ rckR p.2.2.2.2.2 = 0 ∧ (-89999 ≤ p.2.2.1 ∧ p.2.2.1 ≤ 89999) ∧ (-89999 ≤ p.2.2.2.1 ∧ p.2.2.2.1 ≤ 89999) := by
  obtain ⟨_, ho, ha, hq⟩ := pck_zero h.ok
  rcases hq with ⟨q, _⟩ | ⟨_, _, hb, hc⟩
  · exact absurd q h.two
  · exact ⟨hb, hc, ho, ha⟩
theorem rA_range {r : Rul} (h : rckR r = 0) (y : Int) : (yS y - 13) * 86400 ≤ rA r y ∧ rA r y ≤ (yS y + 373) * 86400 := by
  have := rD_range h y
  obtain ⟨_, ht⟩ := rck_may h
  unfold rA
  omega
theorem rA_next {r : Rul} (h : rckR r = 0) (y : Int) : rA r y + 330 * 86400 ≤ rA r (y + 1) := by
  have := rD_next h y
  unfold rA
  omega
theorem tB_range {p : Pln} (h : Two p) (y : Int) : (yS y - 15) * 86400 ≤ tB p y ∧ tB p y ≤ (yS y + 375) * 86400 := by
  obtain ⟨hb, hc, ho, ha⟩ := h.b
  have := rA_range hb y
  unfold tB
  omega
theorem tE_range {p : Pln} (h : Two p) (y : Int) : (yS y - 15) * 86400 ≤ tE p y ∧ tE p y ≤ (yS y + 375) * 86400 := by
  obtain ⟨hb, hc, ho, ha⟩ := h.b
  have := rA_range hc y
  unfold tE
  omega
theorem tB_next {p : Pln} (h : Two p) (y : Int) : tB p y + 330 * 86400 ≤ tB p (y + 1) := by
  have := rA_next h.b.1 y
  unfold tB
  omega
theorem tE_next {p : Pln} (h : Two p) (y : Int) : tE p y + 330 * 86400 ≤ tE p (y + 1) := by
  have := rA_next h.b.2.1 y
  unfold tE
  omega
theorem rise {f : Int → Int} (hf : ∀ y, f y + 330 * 86400 ≤ f (y + 1)) {x y : Int} (h : x < y) : f x < f y := by
  obtain ⟨k, rfl⟩ : ∃ k : Nat, y = x + k + 1 := ⟨(y - x - 1).toNat, by omega⟩
  clear h
  induction k with
  | zero => have := hf x; simp; omega
  | succ k ih =>
    have := hf (x + k + 1)
    rw [show x + ((k + 1 : Nat) : Int) + 1 = x + k + 1 + 1 by omega]
    omega
theorem rise_le {f : Int → Int} (hf : ∀ y, f y + 330 * 86400 ≤ f (y + 1)) {x y : Int} (h : f x ≤ f y) : x ≤ y := by
  by_cases hc : x ≤ y
  · exact hc
  · have := rise hf (show y < x by omega)
    omega
theorem rise_uniq {f : Int → Int} (hf : ∀ y, f y + 330 * 86400 ≤ f (y + 1)) {x y t : Int} (h1 : f x ≤ t) (h2 : t < f (x + 1)) (h3 : f y ≤ t) (h4 : t < f (y + 1)) : x = y := by
  rcases Int.lt_trichotomy x y with h | h | h
  · have : f (x + 1) ≤ f y := by
      by_cases he : x + 1 = y
      · rw [he]; omega
      · have := rise hf (show x + 1 < y by omega); omega
    omega
  · exact h
  · have : f (y + 1) ≤ f x := by
      by_cases he : y + 1 = x
      · rw [he]; omega
      · have := rise hf (show y + 1 < x by omega); omega
    omega
theorem ftTurns {p : Pln} (h : Two p) {y : Int} (hy : -10001 ≤ y ∧ y ≤ 10001) : F_ftTurns (p, y) = some (tB p y, tE p y, 0) := by
  obtain ⟨hb, hc, ho, ha⟩ := h.b
  have hS := yS_big (y := y) (by omega)
  have h1 := rA_range hb y
  have h2 := rA_range hc y
  rw [e_ftTurns, ruleAt hb hy]
  simp only [Option.bind_some]
  rw [cond_dec, if_neg (by simp), ruleAt hc hy]
  simp only [Option.bind_some]
  rw [cond_dec, if_neg (by simp), wrap_i64 (by omega) (by omega), wrap_i64 (by omega) (by omega)]
  rfl
theorem about_round {p : Pln} (h : Two p) (y : Int) (hy : -9999 ≤ y ∧ y ≤ 9999) (b e : List Int) (k k' : Int) (h1 : y - 2 ≤ k) (h2 : k ≤ y + 2) (hk : k' = k + 1) (hb : b.length ≤ 20) (he : e.length ≤ 20) :
    w_ftAbout_0 (y, p, b, e, k) = w_ftAbout_0 (y, p, b ++ [tB p k], e ++ [tE p k], k') := by
  subst hk
  have r8 : ∀ l : List Int, l.length ≤ 20 → roomB l.length 1 8 = true := fun l hl => by unfold roomB; simp; omega
  rw [ew_ftAbout_0, es_ftAbout_0, wrap_i64 (x := y + 2) (by omega) (by omega), cond_dec, if_pos (by omega), ftTurns h (by omega)]
  simp only [Option.bind_some]
  rw [cond_dec, if_neg (by simp), show ([tB p k] : List Int).length = 1 from rfl, show ([tE p k] : List Int).length = 1 from rfl, r8 b hb, r8 e he, wrap_i64 (x := k + 1) (by omega) (by omega)]
  rfl
theorem ftAbout {p : Pln} (h : Two p) (y : Int) (hy : -9999 ≤ y ∧ y ≤ 9999) :
    F_ftAbout (p, y) = some ([tB p (y - 2), tB p (y - 1), tB p y, tB p (y + 1), tB p (y + 2)], [tE p (y - 2), tE p (y - 1), tE p y, tE p (y + 1), tE p (y + 2)], 0) := by
  rw [e_ftAbout, wrap_i64 (x := y - 2) (by omega) (by omega)]
  rw [about_round h y hy [] [] (y - 2) (y - 1) (by omega) (by omega) (by omega) (by simp) (by simp)]
  rw [about_round h y hy _ _ (y - 1) y (by omega) (by omega) (by omega) (by simp) (by simp)]
  rw [about_round h y hy _ _ y (y + 1) (by omega) (by omega) (by omega) (by simp) (by simp)]
  rw [about_round h y hy _ _ (y + 1) (y + 2) (by omega) (by omega) (by omega) (by simp) (by simp)]
  rw [about_round h y hy _ _ (y + 2) (y + 3) (by omega) (by omega) (by omega) (by simp) (by simp)]
  rw [ew_ftAbout_0, es_ftAbout_0, wrap_i64 (x := y + 2) (by omega) (by omega), cond_dec, if_neg (by omega)]
  rfl
theorem five {f : Int → Int} (hf : ∀ y, f y + 330 * 86400 ≤ f (y + 1)) (y : Int) : [f (y - 2), f (y - 1), f y, f (y + 1), f (y + 2)].Pairwise (· < ·) := by
  have h1 := rise hf (show y - 2 < y - 1 by omega)
  have h2 := rise hf (show y - 1 < y by omega)
  have h3 := rise hf (show y < y + 1 by omega)
  have h4 := rise hf (show y + 1 < y + 2 by omega)
  simp only [List.pairwise_cons, List.mem_cons, List.not_mem_nil, or_false, forall_eq_or_imp, forall_eq, false_implies, implies_true, List.Pairwise.nil, and_true]
  omega
/-- The last of five turns that isn't behind a second. -/
theorem last_five {f : Int → Int} (hf : ∀ y, f y + 330 * 86400 ≤ f (y + 1)) (y k t : Int) (h1 : f k ≤ t) (h2 : t < f (k + 1)) (hk1 : y - 2 ≤ k) (hk2 : k ≤ y + 1) : F_ftLast ([f (y - 2), f (y - 1), f y, f (y + 1), f (y + 2)], t) = some (f k) := by
  rcases (by omega : k = y - 2 ∨ k = y - 1 ∨ k = y ∨ k = y + 1) with rfl | rfl | rfl | rfl
  · exact ftLast (k := 0) (five hf y) (by simp) rfl h1 (fun z hz => by obtain rfl := Option.some.inj hz; rwa [show y - 2 + 1 = y - 1 by omega] at h2)
  · exact ftLast (k := 1) (five hf y) (by simp) rfl h1 (fun z hz => by obtain rfl := Option.some.inj hz; rwa [show y - 1 + 1 = y by omega] at h2)
  · exact ftLast (k := 2) (five hf k) (by simp) rfl h1 (fun z hz => by obtain rfl := Option.some.inj hz; exact h2)
  · exact ftLast (k := 3) (five hf y) (by simp) rfl h1 (fun z hz => by obtain rfl := Option.some.inj hz; rwa [show y + 1 + 1 = y + 2 by omega] at h2)
/-- A turn's year, near the second's. -/
theorem near {f : Int → Int} (hr : ∀ y, (yS y - 15) * 86400 ≤ f y ∧ f y ≤ (yS y + 375) * 86400) {y k t : Int} (h1 : f k ≤ t) (h2 : t < f (k + 1)) (hy1 : yS y ≤ t / 86400) (hy2 : t / 86400 < yS (y + 1)) : y - 2 ≤ k ∧ k ≤ y + 1 := by
  have a := hr k
  have b := hr (k + 1)
  constructor
  · by_cases hc : y - 2 ≤ k
    · exact hc
    · have := (yS_mono (x := k + 1) (y := y - 2) (by omega)).1
      have := (yS_mono (x := y - 2) (y := y) (by omega)).1
      omega
  · by_cases hc : k ≤ y + 1
    · exact hc
    · have := (yS_mono (x := y + 2) (y := k) (by omega)).1
      have := (yS_mono (x := y + 1) (y := y + 2) (by omega)).1
      omega
theorem near_ex {f : Int → Int} (hf : ∀ y, f y + 330 * 86400 ≤ f (y + 1)) (hr : ∀ y, (yS y - 15) * 86400 ≤ f y ∧ f y ≤ (yS y + 375) * 86400) {y t : Int} (hy1 : yS y ≤ t / 86400) (hy2 : t / 86400 < yS (y + 1)) : ∃ k, f k ≤ t ∧ t < f (k + 1) := by
  have a := hr (y - 2)
  have b := hr (y + 2)
  have m1 := (yS_mono (x := y - 2) (y := y) (by omega)).1
  have m2 := (yS_mono (x := y + 1) (y := y + 2) (by omega)).1
  by_cases h1 : t < f (y - 1)
  · exact ⟨y - 2, by omega, by rw [show y - 2 + 1 = y - 1 by omega]; exact h1⟩
  · by_cases h2 : t < f y
    · exact ⟨y - 1, by omega, by rw [show y - 1 + 1 = y by omega]; exact h2⟩
    · by_cases h3 : t < f (y + 1)
      · exact ⟨y, by omega, h3⟩
      · exact ⟨y + 1, by omega, by rw [show y + 1 + 1 = y + 2 by omega]; omega⟩
abbrev Loc := Int × Bool × List UInt8
/-- How clocks stand, by the last Begin and the last End. -/
theorem ftAt_two {p : Pln} (h : Two p) (h1 : small p.1) (h2 : small p.2.1) {t kB kE : Int} (ht : i64 t) (hd : dated t) (b1 : tB p kB ≤ t) (b2 : t < tB p (kB + 1)) (e1 : tE p kE ≤ t) (e2 : t < tE p (kE + 1)) :
    F_ftAt (p, t) = some (if tE p kE ≤ tB p kB then (p.2.2.2.1, true, p.2.1) else (p.2.2.1, false, p.1), 0) := by
  obtain ⟨y, hy, hy1, hy2⟩ := year_ex _ hd
  have hch : F_pxChanges p = some (decide (p.2.1 ≠ [])) := e_pxChanges p
  obtain ⟨n1, n2⟩ := near (tB_range h) b1 b2 hy1 hy2
  obtain ⟨n3, n4⟩ := near (tE_range h) e1 e2 hy1 hy2
  have hs : F_ftSummer (p, t, y) = some (decide (tE p kE ≤ tB p kB), 0) := by
    rw [e_ftSummer, hch, decide_eq_true h.two]
    simp only [Option.bind_some, Bool.not_true, cond_false]
    rw [ftAbout h y hy]
    simp only [Option.bind_some]
    rw [cond_dec, if_neg (by simp), last_five (tB_next h) y kB t b1 b2 n1 n2]
    simp only [Option.bind_some]
    rw [last_five (tE_next h) y kE t e1 e2 n3 n4]
    rfl
  rw [e_ftAt, pxCheck p h1 h2, h.ok]
  simp only [Option.bind_some]
  rw [cond_dec, if_neg (by simp), ftYear_ok t y ht hy hy1 hy2]
  simp only [Option.bind_some]
  rw [cond_dec, if_neg (by simp), hs]
  simp only [Option.bind_some]
  rw [cond_dec, if_neg (by simp), cond_dec]
  by_cases hq : tE p kE ≤ tB p kB
  · rw [if_pos hq, if_pos hq]
  · rw [if_neg hq, if_neg hq]
theorem ftAt_bad {p : Pln} (h : pck p = 0) (h1 : small p.1) (h2 : small p.2.1) {t : Int} (ht : i64 t) (hd : ¬ dated t) : F_ftAt (p, t) = some ((0, false, []), 13) := by
  rw [e_ftAt, pxCheck p h1 h2, h]
  simp only [Option.bind_some]
  rw [cond_dec, if_neg (by simp), ftYear_bad t ht hd]
  rfl
theorem ftAt_wrong {p : Pln} (h : pck p ≠ 0) (h1 : small p.1) (h2 : small p.2.1) (t : Int) : F_ftAt (p, t) = some ((0, false, []), pck p) := by
  rw [e_ftAt, pxCheck p h1 h2]
  simp only [Option.bind_some]
  rw [cond_dec, if_pos h]
theorem ftAt_one {p : Pln} (h : pck p = 0) (hs : p.2.1 = []) (h1 : small p.1) {t : Int} (ht : i64 t) (hd : dated t) : F_ftAt (p, t) = some ((p.2.2.1, false, p.1), 0) := by
  obtain ⟨y, hy, hy1, hy2⟩ := year_ex _ hd
  have hch : F_pxChanges p = some (decide (p.2.1 ≠ [])) := e_pxChanges p
  have hsm : F_ftSummer (p, t, y) = some (false, 0) := by
    rw [e_ftSummer, hch, decide_eq_false (by simp [hs])]
    rfl
  rw [e_ftAt, pxCheck p h1 (by rw [hs]; simp [small]), h]
  simp only [Option.bind_some]
  rw [cond_dec, if_neg (by simp), ftYear_ok t y ht hy hy1 hy2]
  simp only [Option.bind_some]
  rw [cond_dec, if_neg (by simp), hsm]
  rfl

end Go.Sm
/- Plain Lean: plans as the program reads them. -/
set_option linter.unusedVariables false
set_option linter.unusedSimpArgs false
namespace Go.Sm
open Go.Proofs

def noPlan : Pln := ([], [], 0, 0, noRule, noRule)
def plA (s : List UInt8) : List UInt8 × Int × List UInt8 := nm s 0
def plB (s : List UInt8) : List UInt8 × Int × Int := ofs (plA s).1 (plA s).2.1
def chk (p : Pln) : Pln × Int := if pck p ≠ 0 then (noPlan, pck p) else (p, 0)
/-- The plan with its summer. -/
def plS (s : List UInt8) : Pln := ((plA s).2.2, (nm (plB s).1 (plB s).2.1).2.2, (plB s).2.2, (smA (plB s).1 (plB s).2.1 (plB s).2.2).2.2, (smB (plB s).1 (plB s).2.1 (plB s).2.2).2.2, (smC (plB s).1 (plB s).2.1 (plB s).2.2).2.2)
def plN (s : List UInt8) : Pln := ((plA s).2.2, [], (plB s).2.2, 0, noRule, noRule)
def plan (s : List UInt8) : Pln × Int :=
  if 0 < (rd (plB s).1 (plB s).2.1).length then
    (if clkEnd (smC (plB s).1 (plB s).2.1 (plB s).2.2).2.1 (smC (plB s).1 (plB s).2.1 (plB s).2.2).1 ≠ 0 then (noPlan, clkEnd (smC (plB s).1 (plB s).2.1 (plB s).2.2).2.1 (smC (plB s).1 (plB s).2.1 (plB s).2.2).1) else chk (plS s))
  else if clkEnd (plB s).2.1 (plB s).1 ≠ 0 then (noPlan, clkEnd (plB s).2.1 (plB s).1) else chk (plN s)
theorem small_nm {t r : List UInt8} {e : Int} (h : r <:+ t) (ht : small t) : small (nm r e).2.2 := by
  unfold nm
  split
  · split
    · exact small_tw _ (small_rd (suf_tk _ h) ht)
    · exact small_tw _ (small_rd (suf_tk _ h) ht)
  · exact small_tw _ (small_rd h ht)
theorem chk_eq (p : Pln) (h1 : small p.1) (h2 : small p.2.1) : ((F_pxCheck p).bind fun x7 => bif decide (x7 ≠ (0 : Int)) then some (noPlan, x7) else some (p, (0 : Int))) = some (chk p) := by
  rw [pxCheck p h1 h2]
  simp only [Option.bind_some, cond_dec]
  unfold chk
  by_cases h : pck p ≠ 0
  · rw [if_pos h, if_pos h]
  · rw [if_neg h, if_neg h]
theorem pxParse (s : List UInt8) (hs : small s) : F_pxParse s = some (plan s) := by
  have h0 := List.suffix_refl s
  have hA : (plA s).1 <:+ s := suf_nm h0
  have hB : (plB s).1 <:+ s := suf_ofs hA
  have hend : ∀ r e, r <:+ s → F_scEnd (sc s r e, ()) = some (sc s r e, clkEnd e r) := fun r e h => scEnd h
  have hr : -4000000 ≤ (plB s).2.2 ∧ (plB s).2.2 ≤ 4000000 := by
    have := clk_range ((rd (plA s).1 (plA s).2.1).takeWhile (runP clocks)) 24
    unfold plB ofs
    simp only
    split
    · omega
    · omega
  have f1 : F_rdName (sc s s 0, ()) = some (sc s (plA s).1 (plA s).2.1, (plA s).2.2) := rdName h0 hs
  have f2 : F_rdOffset (sc s (plA s).1 (plA s).2.1, ()) = some (sc s (plB s).1 (plB s).2.1, (plB s).2.2) := rdOffset hA hs
  have f3 := rdSummer (e := (plB s).2.1) hB hs (plA s).2.2 [] (plB s).2.2 0 noRule noRule hr
  have hC : (smC (plB s).1 (plB s).2.1 (plB s).2.2).1 <:+ s := suf_rl (suf_rl (suf_ahd (suf_nm hB)))
  rw [e_pxParse, scNew]
  simp only [Option.bind_some]
  rw [f1]
  simp only [Option.bind_some]
  rw [f2]
  simp only [Option.bind_some]
  rw [scLeft hB]
  simp only [Option.bind_some, cond_dec]
  unfold plan
  by_cases hl : 0 < (rd (plB s).1 (plB s).2.1).length
  · rw [if_pos hl, if_pos (by omega)]
    unfold noRule at f3
    rw [f3]
    simp only [Option.bind_some]
    rw [hend _ _ hC]
    simp only [Option.bind_some]
    by_cases he : clkEnd (smC (plB s).1 (plB s).2.1 (plB s).2.2).2.1 (smC (plB s).1 (plB s).2.1 (plB s).2.2).1 ≠ 0
    · rw [if_pos he, if_pos he]; rfl
    · rw [if_neg he, if_neg he]
      have := chk_eq (plS s) (small_nm h0 hs) (small_nm hB hs)
      simp only [cond_dec] at this
      exact this
  · rw [if_neg hl, if_neg (by omega), hend _ _ hB]
    simp only [Option.bind_some]
    by_cases he : clkEnd (plB s).2.1 (plB s).1 ≠ 0
    · rw [if_pos he, if_pos he]; rfl
    · rw [if_neg he, if_neg he]
      have := chk_eq (plN s) (small_nm h0 hs) (by simp [plN, small])
      simp only [cond_dec] at this
      exact this
end Go.Sm
/- Plain Lean: numbers between signs; the program's clocks by parts of the text. -/
set_option linter.unusedVariables false
set_option linter.unusedSimpArgs false
namespace Go.Sm
open Go.Proofs

/-- The number of l to m figures. -/
def numF (l m : Nat) (s : List UInt8) : Option Nat := if (l ≤ s.length ∧ s.length ≤ m) ∧ s.all isFig = true then some (decFrom 0 s) else none
theorem numF_some {l m n : Nat} {s : List UInt8} (h : numF l m s = some n) : l ≤ s.length ∧ s.length ≤ m ∧ s.all isFig = true ∧ n = decFrom 0 s := by
  unfold numF at h
  split at h
  · rename_i hc
    exact ⟨hc.1.1, hc.1.2, hc.2, (Option.some.inj h).symm⟩
  · cases h
theorem numF_none {l m : Nat} {s : List UInt8} (h : numF l m s = none) (h1 : l ≤ s.length) (h2 : s.length ≤ m) : s.all isFig = true → False := by
  intro h3
  unfold numF at h
  rw [if_pos ⟨⟨h1, h2⟩, h3⟩] at h
  cases h
theorem figs_pre {m : Nat} {p q : List UInt8} (hp : p.all isFig = true) (hm : p.length ≤ m) (hq : ∀ c ∈ q.head?, isFig c = false) : figs (m : Int) (p ++ q) = p.length := by
  unfold figs
  rw [Int.toNat_natCast, List.take_append, List.take_of_length_le hm]
  rw [List.takeWhile_append_of_pos (all_mem hp)]
  have : (q.take (m - p.length)).takeWhile isFig = [] := by
    cases q with
    | nil => simp
    | cons c q =>
      cases hk : m - p.length with
      | zero => simp
      | succ k => simp [hq c (by simp)]
  rw [this]
  simp
theorem tw_dw (p : UInt8 → Bool) (s : List UInt8) : s = s.takeWhile p ++ s.dropWhile p := (List.takeWhile_append_dropWhile).symm
theorem dw_head (c : UInt8) (s : List UInt8) : ∀ b ∈ (s.dropWhile (· != c)).head?, b = c := by
  intro b hb
  cases hq : s.dropWhile (· != c) with
  | nil => rw [hq] at hb; cases hb
  | cons x l =>
    rw [hq] at hb
    obtain rfl := Option.some.inj hb
    have := dropWhile_head (· != c) s hq
    simpa using this
theorem tw_pre (c : UInt8) (a t : List UInt8) (ha : ∀ x ∈ a, x ≠ c) : (a ++ c :: t).takeWhile (· != c) = a := by
  rw [List.takeWhile_append_of_pos (fun x hx => by simpa using ha x hx)]
  simp
theorem fg_nn {l m : Nat} {s : List UInt8} (h : ¬ figs (m : Int) s < l) : fgR l m s 0 = s.drop (figs (m : Int) s) ∧ fgE l m s 0 = 0 ∧ fgV l m s 0 = (figNum (m : Int) s : Int) := by
  unfold fgR fgE fgV fgB
  simp [h]
theorem fg_lt {l m : Nat} {s : List UInt8} (h : figs (m : Int) s < l) : fgE l m s 0 = 2 := by
  unfold fgE
  simp [h]
theorem fg_pre {l m n : Nat} {s p q : List UInt8} (hs : s = p ++ q) (hn : numF l m p = some n) (hq : ∀ c ∈ q.head?, isFig c = false) : fgR l m s 0 = q ∧ fgE l m s 0 = 0 ∧ fgV l m s 0 = (n : Int) := by
  obtain ⟨h1, h2, h3, rfl⟩ := numF_some hn
  subst hs
  have hf := figs_pre h3 h2 hq
  obtain ⟨g1, g2, g3⟩ := fg_nn (l := l) (m := m) (s := p ++ q) (by omega)
  refine ⟨by rw [g1, hf]; simp, g2, ?_⟩
  rw [g3]
  unfold figNum
  rw [hf]
  simp
theorem fg_some {l m n : Nat} {c : UInt8} {s : List UInt8} (hc : isFig c = false) (hn : numF l m (s.takeWhile (· != c)) = some n) :
    fgR l m s 0 = s.dropWhile (· != c) ∧ fgE l m s 0 = 0 ∧ fgV l m s 0 = (n : Int) :=
  fg_pre (tw_dw _ s) hn fun b hb => by rw [dw_head c s b hb]; exact hc
theorem fg_all {l m n : Nat} {s : List UInt8} (hn : numF l m s = some n) : fgR l m s 0 = [] ∧ fgE l m s 0 = 0 ∧ fgV l m s 0 = (n : Int) :=
  fg_pre (by simp) hn fun b hb => by cases hb
theorem fig_take (m : Nat) (s : List UInt8) : (s.take (figs (m : Int) s)).all isFig = true := by rw [figs_take]; exact takeWhile_all _ _
theorem fg_allnone {l m : Nat} {s : List UInt8} (hn : numF l m s = none) : fgE l m s 0 = 2 ∨ (fgE l m s 0 = 0 ∧ fgR l m s 0 ≠ []) := by
  by_cases h : figs (m : Int) s < l
  · exact .inl (fg_lt h)
  · obtain ⟨g1, g2, g3⟩ := fg_nn (l := l) (m := m) h
    refine .inr ⟨g2, fun h0 => ?_⟩
    rw [g1, List.drop_eq_nil_iff] at h0
    have hle := figs_le (m : Int) s
    have ht := fig_take m s
    rw [List.take_of_length_le h0] at ht
    exact numF_none hn (by omega) (by omega) ht
theorem fg_none {l m : Nat} {c : UInt8} {s : List UInt8} (hc : isFig c = false) (hn : numF l m (s.takeWhile (· != c)) = none) :
    fgE l m s 0 = 2 ∨ (fgE l m s 0 = 0 ∧ fgR l m s 0 ≠ [] ∧ tkB c (fgR l m s 0) 0 = false) := by
  by_cases h : figs (m : Int) s < l
  · exact .inl (fg_lt h)
  · obtain ⟨g1, g2, g3⟩ := fg_nn (l := l) (m := m) h
    have hle := figs_le (m : Int) s
    have ht := fig_take m s
    have hne : ∀ x ∈ s.take (figs (m : Int) s), x ≠ c := fun x hx hxc => by have := all_mem ht x hx; rw [hxc, hc] at this; cases this
    refine .inr ⟨g2, fun h0 => ?_, ?_⟩
    · rw [g1, List.drop_eq_nil_iff] at h0
      rw [List.take_of_length_le h0] at ht hne
      have hw : s.takeWhile (· != c) = s := takeWhile_self _ _ fun x hx => by simpa using hne x hx
      rw [hw] at hn
      exact numF_none hn (by omega) (by omega) ht
    · unfold tkB
      rw [decide_eq_false_iff_not, rd_zero, g1]
      intro h0
      cases hq : s.drop (figs (m : Int) s) with
      | nil => rw [hq] at h0; cases h0
      | cons b t =>
        rw [hq] at h0
        obtain rfl := Option.some.inj h0
        have hs : s = s.take (figs (m : Int) s) ++ b :: t := by rw [← hq]; exact (List.take_append_drop _ _).symm
        have hw : s.takeWhile (· != b) = s.take (figs (m : Int) s) := by
          have := tw_pre b (s.take (figs (m : Int) s)) t hne
          rwa [← hs] at this
        rw [hw] at hn
        exact numF_none hn (by rw [List.length_take]; omega) (by rw [List.length_take]; omega) ht

/-! ### Clocks -/
def strip : List UInt8 → List UInt8
  | b :: r => if b = 45 ∨ b = 43 then r else b :: r
  | [] => []
theorem tkB_zero (b : UInt8) (s : List UInt8) : tkB b s 0 = decide (s.head? = some b) := rfl
theorem tkB_ne {b : UInt8} {s : List UInt8} {e : Int} (h : e ≠ 0) : tkB b s e = false := by unfold tkB; rw [rd_ne h]; simp
theorem tk_cons (b : UInt8) (r : List UInt8) : tk b (b :: r) 0 = r := by unfold tk; rw [tkB_zero]; simp
theorem tkB_cons (b : UInt8) (r : List UInt8) : tkB b (b :: r) 0 = true := by rw [tkB_zero]; simp
theorem tkB_nil (b : UInt8) (e : Int) : tkB b [] e = false := by unfold tkB rd; split <;> simp
theorem clkR_strip (s : List UInt8) : clkR s = strip s := by
  unfold clkR
  cases s with
  | nil => simp [tkB_nil, tk, strip]
  | cons b r =>
    simp only [strip]
    by_cases h1 : b = 45
    · subst h1
      rw [tkB_cons, if_pos rfl, tk_cons, if_pos (.inl rfl)]
    · have hb : tkB 45 (b :: r) 0 = false := by rw [tkB_zero]; simpa using h1
      rw [hb]
      simp only [Bool.false_eq_true, if_false]
      by_cases h2 : b = 43
      · subst h2
        rw [tk_cons, if_pos (.inr rfl)]
      · have hb : tkB 43 (b :: r) 0 = false := by rw [tkB_zero]; simpa using h2
        rw [tk_false hb, if_neg (by simp [h1, h2])]
/-- Hours, minutes, seconds of a clock's text without its sign. -/
def clkO (s : List UInt8) : Option (Nat × Nat × Nat) :=
  match numF 1 3 (s.takeWhile (· != 58)) with
  | none => none
  | some h => match s.dropWhile (· != 58) with
    | [] => some (h, 0, 0)
    | _ :: r => match numF 2 2 (r.takeWhile (· != 58)) with
      | none => none
      | some m => match r.dropWhile (· != 58) with
        | [] => some (h, m, 0)
        | _ :: r' => match numF 2 2 r' with
          | none => none
          | some x => some (h, m, x)
def clkV (o : Option (Nat × Nat × Nat)) (neg : Bool) (m : Int) : Int × Int :=
  match o with
  | none => (0, 2)
  | some (h, k, x) => if m < (h : Int) ∨ 60 ≤ k ∨ 60 ≤ x then (0, 1) else (if neg then -((h : Int) * 3600 + (k : Int) * 60 + (x : Int)) else (h : Int) * 3600 + (k : Int) * 60 + (x : Int), 0)
theorem pt_cons (r : List UInt8) : pt (58 :: r) 0 = (fgR 2 2 r 0, fgE 2 2 r 0, fgV 2 2 r 0, true) := by
  unfold pt
  rw [tkB_cons, if_pos rfl, tk_cons]
theorem pt_no {r : List UInt8} {e : Int} (h : tkB 58 r e = false) : pt r e = (r, e, 0, false) := by
  unfold pt
  rw [h]
  simp
theorem dw_cases (c : UInt8) (s : List UInt8) : s.dropWhile (· != c) = [] ∨ ∃ r, s.dropWhile (· != c) = c :: r := by
  cases hq : s.dropWhile (· != c) with
  | nil => exact .inl rfl
  | cons b r =>
    have := dw_head c s b (by rw [hq]; rfl)
    exact .inr ⟨r, by rw [this]⟩
theorem clk_eq (s : List UInt8) (m : Int) : clk s m = clkV (clkO (strip s)) (tkB 45 s 0) m := by
  have hA : clkA s = (fgR 1 3 (strip s) 0, fgE 1 3 (strip s) 0, fgV 1 3 (strip s) 0) := by unfold clkA; rw [clkR_strip]
  generalize strip s = t at hA ⊢
  unfold clk clkN
  have hbad : ∀ {e : Int} {r : List UInt8}, clkA s = (r, e, (clkA s).2.2) → (e ≠ 0 ∨ (r ≠ [] ∧ tkB 58 r e = false)) → (clkC s).2.1 ≠ 0 ∨ (clkC s).1 ≠ [] := by
    intro e r hq h
    have hT : tkB 58 r e = false := by
      rcases h with h | h
      · exact tkB_ne h
      · exact h.2
    have hB : clkB s = (r, e, 0, false) := by unfold clkB; rw [hq]; exact pt_no hT
    have hC : clkC s = (r, e, 0, false) := by unfold clkC; rw [hB]; simp
    rw [hC]
    rcases h with h | h
    · exact .inl h
    · exact .inr h.1
  unfold clkO
  cases hn : numF 1 3 (t.takeWhile (· != 58)) with
  | none =>
    rw [if_pos]
    · rfl
    · refine hbad (e := fgE 1 3 t 0) (r := fgR 1 3 t 0) (by rw [hA]) ?_
      rcases fg_none (c := 58) (by decide) hn with h | h
      · exact .inl (by omega)
      · exact .inr ⟨h.2.1, by rw [h.1]; exact h.2.2⟩
  | some h =>
    obtain ⟨a1, a2, a3⟩ := fg_some (c := 58) (by decide) hn
    rw [a1, a2, a3] at hA
    simp only
    rcases dw_cases 58 t with hq | ⟨r, hq⟩
    · rw [hq] at hA ⊢
      have hB : clkB s = ([], 0, 0, false) := by unfold clkB; rw [hA]; exact pt_no (tkB_nil _ _)
      have hC : clkC s = ([], 0, 0, false) := by unfold clkC; rw [hB]; simp
      rw [hA, hB, hC]
      simp [clkV]
    · rw [hq] at hA ⊢
      simp only
      have hB : clkB s = (fgR 2 2 r 0, fgE 2 2 r 0, fgV 2 2 r 0, true) := by unfold clkB; rw [hA]; exact pt_cons r
      have hC : clkC s = pt (fgR 2 2 r 0) (fgE 2 2 r 0) := by unfold clkC; rw [hB]; simp
      cases hn2 : numF 2 2 (r.takeWhile (· != 58)) with
      | none =>
        rw [if_pos]
        · rfl
        · have hT : tkB 58 (fgR 2 2 r 0) (fgE 2 2 r 0) = false := by
            rcases fg_none (c := 58) (by decide) hn2 with h | h
            · exact tkB_ne (by omega)
            · rw [h.1]; exact h.2.2
          rw [hC, pt_no hT]
          rcases fg_none (c := 58) (by decide) hn2 with h | h
          · exact .inl (by simp only; omega)
          · exact .inr h.2.1
      | some k =>
        obtain ⟨b1, b2, b3⟩ := fg_some (c := 58) (by decide) hn2
        rw [b1, b2, b3] at hB
        rw [b1, b2] at hC
        simp only
        rcases dw_cases 58 r with hq2 | ⟨r2, hq2⟩
        · rw [hq2] at hB hC ⊢
          rw [pt_no (tkB_nil _ _)] at hC
          rw [hA, hB, hC]
          have e1 : ((60 : Int) ≤ (k : Int)) ↔ 60 ≤ k := by omega
          simp [clkV, e1]
        · rw [hq2] at hB hC ⊢
          rw [pt_cons] at hC
          simp only
          cases hn3 : numF 2 2 r2 with
          | none =>
            rw [if_pos]
            · rfl
            · rw [hC]
              rcases fg_allnone hn3 with h | h
              · exact .inl (by simp only; omega)
              · exact .inr h.2
          | some x =>
            obtain ⟨c1, c2, c3⟩ := fg_all hn3
            rw [c1, c2, c3] at hC
            rw [hA, hB, hC]
            simp only [clkV, ne_eq, not_true_eq_false, or_self, if_false]
            have e1 : ((60 : Int) ≤ (k : Int)) ↔ 60 ≤ k := by omega
            have e2 : ((60 : Int) ≤ (x : Int)) ↔ 60 ≤ x := by omega
            simp only [e1, e2]
end Go.Sm
/- Plain Lean: the program's rules and plans, without a scanner. -/
set_option linter.unusedVariables false
set_option linter.unusedSimpArgs false
namespace Go.Sm
open Go.Proofs

theorem clkEnd_zero (r : List UInt8) : clkEnd 0 r = if r = [] then 0 else 2 := by unfold clkEnd; simp
theorem clkEnd_e {e : Int} (r : List UInt8) (h : e ≠ 0) : clkEnd e r = e := by unfold clkEnd; simp [h]
/-- A weekly date: month, week, day. -/
def wkO (s : List UInt8) : Option (Nat × Nat × Nat) :=
  match numF 1 2 (s.takeWhile (· != 46)) with
  | none => none
  | some m => match s.dropWhile (· != 46) with
    | [] => none
    | _ :: r => match numF 1 1 (r.takeWhile (· != 46)) with
      | none => none
      | some w => match r.dropWhile (· != 46) with
        | [] => none
        | _ :: r' => match numF 1 1 r' with
          | none => none
          | some d => some (m, w, d)
def datO (d : List UInt8) : Option (Int × Int × Int × Int) :=
  match d with
  | [] => none
  | b :: r => if b = 74 then (numF 1 3 r).map fun n => (1, 0, 0, (n : Int)) else if b = 77 then (wkO r).map fun x => (3, (x.1 : Int), (x.2.1 : Int), (x.2.2 : Int)) else (numF 1 3 (b :: r)).map fun n => (2, 0, 0, (n : Int))
theorem muQ_e {c : UInt8} {r : List UInt8} {e : Int} (h : e ≠ 0) : muQ c (r, e) = (r, e) := by
  unfold muQ muE tk
  rw [tkB_ne h]
  simp [h]
theorem fgQ_e {l m : Nat} {r : List UInt8} {e : Int} (h : e ≠ 0) : fgQ l m (r, e) = (r, e) := by
  unfold fgQ fgR fgE fgB
  simp [h]
theorem muQ_no {c : UInt8} {r : List UInt8} (h : tkB c r 0 = false) : muQ c (r, 0) = (r, 2) := by
  unfold muQ muE tk
  simp [h]
theorem muQ_yes (c : UInt8) (r : List UInt8) : muQ c (c :: r, 0) = (r, 0) := by
  unfold muQ muE
  simp [tk_cons, tkB_cons]
theorem fgQ_bad {l m : Nat} {c : UInt8} {s : List UInt8} (hc : isFig c = false) (hn : numF l m (s.takeWhile (· != c)) = none) : (muQ c (fgQ l m (s, 0))).2 ≠ 0 := by
  rcases fg_none (c := c) hc hn with h | h
  · have : fgQ l m (s, 0) = (fgR l m s 0, 2) := by unfold fgQ; rw [h]
    rw [this, muQ_e (by omega)]
    simp
  · have : fgQ l m (s, 0) = (fgR l m s 0, 0) := by unfold fgQ; rw [h.1]
    rw [this, muQ_no h.2.2]
    simp
theorem fgQ_end {l m : Nat} {c : UInt8} {s : List UInt8} {n : Nat} (hc : isFig c = false) (hn : numF l m (s.takeWhile (· != c)) = some n) (h : s.dropWhile (· != c) = []) : (muQ c (fgQ l m (s, 0))).2 ≠ 0 := by
  obtain ⟨h1, h2, h3⟩ := fg_some hc hn
  have : fgQ l m (s, 0) = ([], 0) := by unfold fgQ; rw [h1, h2, h]
  rw [this, muQ_no (tkB_nil _ _)]
  simp
theorem fgQ_good {l m : Nat} {c : UInt8} {s r : List UInt8} {n : Nat} (hc : isFig c = false) (hn : numF l m (s.takeWhile (· != c)) = some n) (h : s.dropWhile (· != c) = c :: r) : muQ c (fgQ l m (s, 0)) = (r, 0) ∧ fgV l m s 0 = (n : Int) := by
  obtain ⟨h1, h2, h3⟩ := fg_some hc hn
  have : fgQ l m (s, 0) = (c :: r, 0) := by unfold fgQ; rw [h1, h2, h]
  rw [this, muQ_yes]
  exact ⟨rfl, h3⟩
theorem wk_eq (s : List UInt8) : match wkO s with
    | none => clkEnd (wk3 (s, 0)).2 (wk3 (s, 0)).1 ≠ 0
    | some x => clkEnd (wk3 (s, 0)).2 (wk3 (s, 0)).1 = 0 ∧ fgV 1 2 s 0 = (x.1 : Int) ∧ fgV 1 1 (wk1 (s, 0)).1 (wk1 (s, 0)).2 = (x.2.1 : Int) ∧ fgV 1 1 (wk2 (s, 0)).1 (wk2 (s, 0)).2 = (x.2.2 : Int) := by
  have err2 : ∀ q : List UInt8 × Int, (wk2 q).2 ≠ 0 → clkEnd (wk3 q).2 (wk3 q).1 ≠ 0 := fun q h => by
    have : wk3 q = wk2 q := by
      unfold wk3
      exact fgQ_e (r := (wk2 q).1) h
    rw [this, clkEnd_e _ h]
    exact h
  have err1 : ∀ q : List UInt8 × Int, (wk1 q).2 ≠ 0 → clkEnd (wk3 q).2 (wk3 q).1 ≠ 0 := fun q h => by
    apply err2
    have : wk2 q = wk1 q := by
      unfold wk2
      rw [show fgQ 1 1 (wk1 q) = wk1 q from fgQ_e (r := (wk1 q).1) h]
      exact muQ_e (r := (wk1 q).1) h
    rw [this]
    exact h
  unfold wkO
  cases hn : numF 1 2 (s.takeWhile (· != 46)) with
  | none => exact err1 _ (fgQ_bad (by decide) hn)
  | some m =>
    simp only
    rcases dw_cases 46 s with hq | ⟨r, hq⟩
    · rw [hq]
      exact err1 _ (fgQ_end (by decide) hn hq)
    · obtain ⟨h1, hv1⟩ := fgQ_good (by decide) hn hq
      have h1 : wk1 (s, 0) = (r, 0) := h1
      have hw2 : wk2 (s, 0) = muQ 46 (fgQ 1 1 (r, 0)) := by unfold wk2; rw [h1]
      rw [hq]
      simp only
      cases hn2 : numF 1 1 (r.takeWhile (· != 46)) with
      | none => exact err2 _ (by rw [hw2]; exact fgQ_bad (by decide) hn2)
      | some w =>
        simp only
        rcases dw_cases 46 r with hq2 | ⟨r2, hq2⟩
        · rw [hq2]
          exact err2 _ (by rw [hw2]; exact fgQ_end (by decide) hn2 hq2)
        · obtain ⟨h2, hv2⟩ := fgQ_good (by decide) hn2 hq2
          rw [h2] at hw2
          have hw3 : wk3 (s, 0) = fgQ 1 1 (r2, 0) := by unfold wk3; rw [hw2]
          rw [hq2]
          simp only
          cases hn3 : numF 1 1 r2 with
          | none =>
            rw [hw3]
            rcases fg_allnone hn3 with h | h
            · unfold fgQ
              simp only [h]
              rw [clkEnd_e _ (by omega)]
              omega
            · unfold fgQ
              simp only [h.1]
              rw [clkEnd_zero, if_neg h.2]
              omega
          | some d =>
            obtain ⟨g1, g2, g3⟩ := fg_all hn3
            rw [hw3, h1, hw2]
            unfold fgQ
            simp only [g1, g2, g3]
            rw [clkEnd_zero]
            exact ⟨rfl, hv1, hv2, trivial⟩
theorem dat_eq (d : List UInt8) : match datO d with
    | none => clkEnd (dat d).1.2 (dat d).1.1 ≠ 0
    | some x => clkEnd (dat d).1.2 (dat d).1.1 = 0 ∧ (dat d).2 = x := by
  have hfig : ∀ s : List UInt8, match numF 1 3 s with
      | none => clkEnd (fgQ 1 3 (s, 0)).2 (fgQ 1 3 (s, 0)).1 ≠ 0
      | some n => clkEnd (fgQ 1 3 (s, 0)).2 (fgQ 1 3 (s, 0)).1 = 0 ∧ fgV 1 3 s 0 = (n : Int) := by
    intro s
    unfold fgQ
    cases hn : numF 1 3 s with
    | none =>
      rcases fg_allnone hn with h | h
      · simp only [h]
        rw [clkEnd_e _ (by omega)]
        omega
      · simp only [h.1]
        rw [clkEnd_zero, if_neg h.2]
        omega
    | some n =>
      obtain ⟨g1, g2, g3⟩ := fg_all hn
      simp only [g1, g2, g3]
      rw [clkEnd_zero]
      exact ⟨rfl, trivial⟩
  unfold datO dat
  cases d with
  | nil =>
    have hh := hfig []
    have hno : numF 1 3 [] = none := by decide
    rw [hno] at hh
    rw [tkB_nil, tkB_nil]
    exact hh
  | cons b r =>
    simp only
    by_cases h1 : b = 74
    · subst h1
      rw [if_pos rfl, tkB_cons, if_pos rfl, tk_cons]
      have hh := hfig r
      cases hn : numF 1 3 r with
      | none => rw [hn] at hh; exact hh
      | some n => rw [hn] at hh; exact ⟨hh.1, by simp only [hh.2]⟩
    · have hb : tkB 74 (b :: r) 0 = false := by rw [tkB_zero]; simpa using h1
      rw [if_neg h1, hb]
      simp only [Bool.false_eq_true, if_false]
      by_cases h2 : b = 77
      · subst h2
        rw [if_pos rfl, tkB_cons, if_pos rfl, tk_cons]
        have hh := wk_eq r
        cases hn : wkO r with
        | none => rw [hn] at hh; exact hh
        | some x => rw [hn] at hh; obtain ⟨e1, e2, e3, e4⟩ := hh; exact ⟨e1, by simp only [e2, e3, e4]⟩
      · have hb2 : tkB 77 (b :: r) 0 = false := by rw [tkB_zero]; simpa using h2
        rw [if_neg h2, hb2]
        simp only [Bool.false_eq_true, if_false]
        have hh := hfig (b :: r)
        cases hn : numF 1 3 (b :: r) with
        | none => rw [hn] at hh; exact hh
        | some n => rw [hn] at hh; exact ⟨hh.1, by simp only [hh.2]⟩
/-- A rule, by its parts. -/
def rulO (s : List UInt8) : Rul × Int :=
  match datO (cutB 47 s).1 with
  | none => (noRule, 2)
  | some x => if (cutB 47 s).2.2 then (if (clk (cutB 47 s).2.1 167).2 ≠ 0 then (noRule, (clk (cutB 47 s).2.1 167).2) else fin x (clk (cutB 47 s).2.1 167).1) else fin x 7200
theorem rul_eq (s : List UInt8) : rul s = rulO s := by
  unfold rul rulO
  have h := dat_eq (cutB 47 s).1
  cases hd : datO (cutB 47 s).1 with
  | none => rw [hd] at h; rw [if_pos h]
  | some x => rw [hd] at h; rw [if_neg (by simp [h.1]), h.2]

/-! ### Plans -/
def nmO (r : List UInt8) : Option (List UInt8 × List UInt8) :=
  match r with
  | [] => none
  | b :: r1 => if b = 60 then (if nameB (r1.takeWhile (· != 62)) then (match r1.dropWhile (· != 62) with | [] => none | _ :: r2 => some (r2, r1.takeWhile (· != 62))) else none)
    else if nameB ((b :: r1).takeWhile (runP letters)) then some ((b :: r1).dropWhile (runP letters), (b :: r1).takeWhile (runP letters)) else none
theorem nm_eq (r : List UInt8) : match nmO r with
    | none => (nm r 0).2.1 = 2
    | some x => nm r 0 = (x.1, 0, x.2) := by
  cases r with
  | nil =>
    have : nm [] 0 = ([], 2, []) := by rfl
    rw [this]
    rfl
  | cons b r1 =>
    unfold nmO nm
    simp only
    by_cases h : b = 60
    · subst h
      rw [if_pos rfl, tkB_cons, if_pos rfl, tk_cons, rd_zero]
      by_cases hn : nameB (r1.takeWhile (· != 62)) = true
      · rw [if_pos hn, if_pos hn]
        simp only [wl, if_true]
        rcases dw_cases 62 r1 with hq | ⟨r2, hq⟩
        · rw [hq]
          simp only [tkB_nil]
          rfl
        · rw [hq]
          simp only [tkB_cons, tk_cons, if_true]
      · rw [if_neg hn, if_neg hn]
        rfl
    · have hb : tkB 60 (b :: r1) 0 = false := by rw [tkB_zero]; simpa using h
      rw [if_neg h, hb, if_neg Bool.false_ne_true, rd_zero]
      unfold wl
      rw [if_pos rfl]
      by_cases hn : nameB ((b :: r1).takeWhile (runP letters)) = true
      · rw [if_pos hn, if_pos hn]
      · rw [if_neg hn, if_neg hn]
        rfl
theorem ofs_e {r : List UInt8} {e : Int} (h : e ≠ 0) : (ofs r e).2.1 = e := by
  unfold ofs
  simp [h]
theorem rl_e {r : List UInt8} {e : Int} (h : e ≠ 0) : (rl r e).2.1 = e := by
  unfold rl rlE
  rw [tkB_ne h]
  simp [h, fl]
theorem ahd_e {r : List UInt8} {e o : Int} (h : e ≠ 0) : (ahd r e o).2.1 = e := by
  unfold ahd
  rw [rd_ne h]
theorem nm_e {r : List UInt8} {e : Int} (h : e ≠ 0) : (nm r e).2.1 = e := by
  unfold nm
  rw [tkB_ne h]
  simp [h, fl]
/-- A plan, by its parts. -/
def planO (s : List UInt8) : Pln × Int :=
  match nmO s with
  | none => (noPlan, 2)
  | some (r1, n) =>
    if (ofs r1 0).2.1 ≠ 0 then (noPlan, (ofs r1 0).2.1)
    else if (ofs r1 0).1 = [] then ((n, [], (ofs r1 0).2.2, 0, noRule, noRule), 0)
    else match nmO (ofs r1 0).1 with
      | none => (noPlan, 2)
      | some (r3, n2) =>
        if (ahd r3 0 (ofs r1 0).2.2).2.1 ≠ 0 then (noPlan, (ahd r3 0 (ofs r1 0).2.2).2.1)
        else if (rl (ahd r3 0 (ofs r1 0).2.2).1 0).2.1 ≠ 0 then (noPlan, (rl (ahd r3 0 (ofs r1 0).2.2).1 0).2.1)
        else if (rl (rl (ahd r3 0 (ofs r1 0).2.2).1 0).1 0).2.1 ≠ 0 then (noPlan, (rl (rl (ahd r3 0 (ofs r1 0).2.2).1 0).1 0).2.1)
        else if (rl (rl (ahd r3 0 (ofs r1 0).2.2).1 0).1 0).1 ≠ [] then (noPlan, 2)
        else if 89999 < (ahd r3 0 (ofs r1 0).2.2).2.2 then (noPlan, 1)
        else ((n, n2, (ofs r1 0).2.2, (ahd r3 0 (ofs r1 0).2.2).2.2, (rl (ahd r3 0 (ofs r1 0).2.2).1 0).2.2, (rl (rl (ahd r3 0 (ofs r1 0).2.2).1 0).1 0).2.2), 0)
theorem nmO_name {r r' n : List UInt8} (h : nmO r = some (r', n)) : nameB n = true := by
  unfold nmO at h
  split at h
  · cases h
  · split at h
    · split at h
      · split at h
        · cases h
        · obtain ⟨rfl, rfl⟩ := Prod.mk.inj (Option.some.inj h)
          assumption
      · cases h
    · split at h
      · obtain ⟨rfl, rfl⟩ := Prod.mk.inj (Option.some.inj h)
        assumption
      · cases h
theorem clk_24 (s : List UInt8) : -89999 ≤ (clk s 24).1 ∧ (clk s 24).1 ≤ 89999 := by
  rw [clk_eq]
  unfold clkV
  split
  · simp
  · split
    · simp
    · split
      · simp only; omega
      · simp only; omega
theorem ofs_range (r : List UInt8) (e : Int) : -89999 ≤ (ofs r e).2.2 ∧ (ofs r e).2.2 ≤ 89999 := by
  unfold ofs
  simp only
  have := clk_24 ((rd r e).takeWhile (runP clocks))
  split
  · omega
  · omega
theorem rul_right {s : List UInt8} (h : (rul s).2 = 0) : rckR (rul s).1 = 0 := by
  rw [rul_eq] at h ⊢
  unfold rulO fin at *
  unfold rckR
  split at h
  · simp at h
  · repeat' split at h
    all_goals first | (rename_i hx; simp at h; done) | skip
    all_goals simp_all
theorem rl_right {r : List UInt8} (h : (rl r 0).2.1 = 0) : rckR (rl r 0).2.2 = 0 := by
  unfold rl at *
  simp only at h ⊢
  split at h
  · rename_i h1; rw [h] at h1; exact absurd rfl h1
  · rename_i h1
    rw [if_neg h1]
    exact rul_right h
theorem isNo_no : isNo noRule = true := by decide
theorem nameB_ne {n : List UInt8} (h : nameB n = true) : n ≠ [] := by
  rintro rfl
  cases h
theorem plan_eq (s : List UInt8) : plan s = planO s := by
  have hA := nm_eq s
  unfold plan planO
  have hAd : plA s = nm s 0 := rfl
  cases hn : nmO s with
  | none =>
    rw [hn] at hA
    have hA : (nm s 0).2.1 = 2 := hA
    have hB : (plB s).2.1 = 2 := by unfold plB; rw [hAd, hA]; exact ofs_e (by omega)
    rw [hB, rd_ne (by omega)]
    simp only [List.length_nil, Nat.lt_irrefl, if_false]
    rw [clkEnd_e _ (by omega), if_pos (by omega)]
  | some x =>
    obtain ⟨r1, n⟩ := x
    rw [hn] at hA
    have hA : nm s 0 = (r1, 0, n) := hA
    have hB : plB s = ofs r1 0 := by unfold plB; rw [hAd, hA]
    have hname := nmO_name hn
    have hr := ofs_range r1 0
    rw [hB]
    simp only
    by_cases h1 : (ofs r1 0).2.1 ≠ 0
    · rw [if_pos h1, rd_ne h1]
      simp only [List.length_nil, Nat.lt_irrefl, if_false]
      rw [clkEnd_e _ h1, if_pos h1]
    · rw [if_neg h1]
      have h1 := Decidable.not_not.1 h1
      rw [h1, rd_zero]
      by_cases h2 : (ofs r1 0).1 = []
      · rw [if_pos h2, if_neg (by rw [h2]; simp), clkEnd_zero, if_pos h2, if_neg (by omega)]
        unfold chk
        have hp : plN s = (n, [], (ofs r1 0).2.2, 0, noRule, noRule) := by unfold plN; rw [hB, hAd, hA]
        have hk : pck (plN s) = 0 := by
          rw [hp]
          unfold pck
          simp only
          rw [if_neg (by simp [hname]), if_neg (by simp), if_neg (by decide), if_neg (by simp [shB]; omega), if_neg (by decide)]
        rw [hk, if_neg (by omega), hp]
      · rw [if_neg h2, if_pos (by cases hz : (ofs r1 0).1 with | nil => exact absurd hz h2 | cons => simp)]
        have hC := nm_eq (ofs r1 0).1
        cases hn2 : nmO (ofs r1 0).1 with
        | none =>
          rw [hn2] at hC
          have hC : (nm (ofs r1 0).1 0).2.1 = 2 := hC
          have e1 : (smA (ofs r1 0).1 0 (ofs r1 0).2.2).2.1 = 2 := by unfold smA; rw [hC]; exact ahd_e (by omega)
          have e2 : (smB (ofs r1 0).1 0 (ofs r1 0).2.2).2.1 = 2 := by unfold smB; rw [e1]; exact rl_e (by omega)
          have e3 : (smC (ofs r1 0).1 0 (ofs r1 0).2.2).2.1 = 2 := by unfold smC; rw [e2]; exact rl_e (by omega)
          rw [e3, clkEnd_e _ (by omega), if_pos (by omega)]
        | some y =>
          obtain ⟨r3, n2⟩ := y
          rw [hn2] at hC
          have hC : nm (ofs r1 0).1 0 = (r3, 0, n2) := hC
          have eA : smA (ofs r1 0).1 0 (ofs r1 0).2.2 = ahd r3 0 (ofs r1 0).2.2 := by unfold smA; rw [hC]
          have hname2 := nmO_name hn2
          have hra : -89999 ≤ (ahd r3 0 (ofs r1 0).2.2).2.2 := by
            unfold ahd
            have := ofs_range r3 0
            split
            · simp only; omega
            · split
              · omega
              · simp only; omega
          simp only
          by_cases h3 : (ahd r3 0 (ofs r1 0).2.2).2.1 ≠ 0
          · have e2 : (smB (ofs r1 0).1 0 (ofs r1 0).2.2).2.1 = (ahd r3 0 (ofs r1 0).2.2).2.1 := by unfold smB; rw [eA]; exact rl_e h3
            have e3 : (smC (ofs r1 0).1 0 (ofs r1 0).2.2).2.1 = (ahd r3 0 (ofs r1 0).2.2).2.1 := by unfold smC; rw [rl_e (by rw [e2]; exact h3), e2]
            rw [if_pos h3, e3, clkEnd_e _ h3, if_pos h3]
          · rw [if_neg h3]
            have h3 := Decidable.not_not.1 h3
            have eB : smB (ofs r1 0).1 0 (ofs r1 0).2.2 = rl (ahd r3 0 (ofs r1 0).2.2).1 0 := by unfold smB; rw [eA, h3]
            by_cases h4 : (rl (ahd r3 0 (ofs r1 0).2.2).1 0).2.1 ≠ 0
            · have e3 : (smC (ofs r1 0).1 0 (ofs r1 0).2.2).2.1 = (rl (ahd r3 0 (ofs r1 0).2.2).1 0).2.1 := by unfold smC; rw [eB]; exact rl_e h4
              rw [if_pos h4, e3, clkEnd_e _ h4, if_pos h4]
            · rw [if_neg h4]
              have h4 := Decidable.not_not.1 h4
              have eC : smC (ofs r1 0).1 0 (ofs r1 0).2.2 = rl (rl (ahd r3 0 (ofs r1 0).2.2).1 0).1 0 := by unfold smC; rw [eB, h4]
              rw [eC]
              by_cases h5 : (rl (rl (ahd r3 0 (ofs r1 0).2.2).1 0).1 0).2.1 ≠ 0
              · rw [if_pos h5, clkEnd_e _ h5, if_pos h5]
              · rw [if_neg h5]
                have h5 := Decidable.not_not.1 h5
                rw [h5, clkEnd_zero]
                by_cases h6 : (rl (rl (ahd r3 0 (ofs r1 0).2.2).1 0).1 0).1 ≠ []
                · rw [if_pos h6, if_neg h6, if_pos (by omega)]
                · rw [if_neg h6, if_pos (Decidable.not_not.1 h6), if_neg (by omega)]
                  have hp : plS s = (n, n2, (ofs r1 0).2.2, (ahd r3 0 (ofs r1 0).2.2).2.2, (rl (ahd r3 0 (ofs r1 0).2.2).1 0).2.2, (rl (rl (ahd r3 0 (ofs r1 0).2.2).1 0).1 0).2.2) := by
                    unfold plS
                    rw [hB, hAd, hA, h1, hC, eA, eB, eC]
                  have hk : pck (plS s) = if 89999 < (ahd r3 0 (ofs r1 0).2.2).2.2 then 1 else 0 := by
                    rw [hp]
                    unfold pck
                    simp only
                    rw [if_neg (by simp [hname]), if_pos (nameB_ne hname2), if_neg (by simp [hname2]), if_neg (by simp [shB]; omega)]
                    by_cases h7 : 89999 < (ahd r3 0 (ofs r1 0).2.2).2.2
                    · rw [if_pos h7, if_pos (by simp [shB]; omega)]
                    · rw [if_neg h7, if_neg (by simp [shB]; omega), rl_right h4, rl_right h5, if_neg (by omega)]
                  unfold chk
                  rw [hk, hp]
                  by_cases h7 : 89999 < (ahd r3 0 (ofs r1 0).2.2).2.2
                  · rw [if_pos h7, if_pos h7, if_pos (by omega)]
                  · rw [if_neg h7, if_neg h7, if_neg (by omega)]
end Go.Sm
/- Plain Lean: the chapter's example; errors as numbers, plans as the document's. -/
set_option linter.unusedVariables false
set_option linter.unusedSimpArgs false
namespace Go.Sm
open Go.Proofs

/-! ### The law -/
theorem lawNum (e : Int) : F_lawNum e = some e := by
  rw [e_lawNum]
  by_cases h : e = 0
  · subst h; rfl
  · rw [decide_eq_false h]
    simp [h]
theorem law16Document (r : Rul) : F_law16Document r = some r := e_law16Document r
theorem law17Document (p : Pln) : F_law17Document p = some p := by
  rw [e_law17Document, law16Document, law16Document]
  rfl
def chapter : List UInt8 := [(69 : UInt8), (83 : UInt8), (84 : UInt8), (53 : UInt8), (69 : UInt8), (68 : UInt8), (84 : UInt8), (44 : UInt8), (77 : UInt8), (51 : UInt8), (46 : UInt8), (50 : UInt8), (46 : UInt8),
          (48 : UInt8), (44 : UInt8), (77 : UInt8), (49 : UInt8), (49 : UInt8), (46 : UInt8), (49 : UInt8), (46 : UInt8), (48 : UInt8)]
theorem plan_chapter : planO chapter = (([69, 83, 84], [69, 68, 84], -18000, -14400, (3, 3, 2, 0, 7200), (3, 11, 1, 0, 7200)), 0) := by kernel_rfl
end Go.Sm
/- Plain Lean: the chapter's example of footers. -/
set_option linter.unusedVariables false
set_option linter.unusedSimpArgs false
namespace Go.Sm
open Go.Proofs

def chP : Pln := ([69, 83, 84], [69, 68, 84], -18000, -14400, (3, 3, 2, 0, 7200), (3, 11, 1, 0, 7200))
theorem chP_two : Two chP := ⟨by decide +kernel, by decide⟩
theorem law18alive : F_law18alive () = some true := by
  have h : F_pxParse chapter = _ := pxParse chapter (by decide)
  rw [plan_eq, plan_chapter] at h
  have h : F_pxParse chapter = some (chP, 0) := h
  have s1 : small chP.1 := by decide
  have s2 : small chP.2.1 := by decide
  have a1 := ftAt_two chP_two s1 s2 (t := 1710054000) (kB := 2024) (kE := 2023) (by decide) (by decide +kernel) (by decide +kernel) (by decide +kernel) (by decide +kernel) (by decide +kernel)
  have a2 := ftAt_two chP_two s1 s2 (t := 1710053999) (kB := 2023) (kE := 2023) (by decide) (by decide +kernel) (by decide +kernel) (by decide +kernel) (by decide +kernel) (by decide +kernel)
  rw [if_pos (by decide +kernel)] at a1
  rw [if_neg (by decide +kernel)] at a2
  rw [e_law18alive]
  show (F_pxParse chapter).bind _ = _
  rw [h]
  simp only [Option.bind_some]
  rw [a1]
  simp only [Option.bind_some]
  rw [a2]
  rfl
theorem law17LongA (p : Pln) : F_law17LongA p = some (decide (60 < p.1.length ∨ 60 < p.2.1.length)) := by
  rw [e_law17LongA, cond_dec]
  by_cases h : 60 < p.1.length
  · rw [if_pos (by omega), decide_eq_true (.inl h)]
  · rw [if_neg (by omega)]
    congr 1
    exact decide_eq_decide.2 (by omega)
end Go.Sm
/- Plain Lean: the turn behind a second (program). -/
set_option linter.unusedVariables false
set_option linter.unusedSimpArgs false
namespace Go.Sm
open Go.Proofs

theorem slGrow (n : Nat) (h1 : 0 < n) (h2 : n ≤ 100000) : F_slGrow ((), (n : Int)) = some (List.replicate n 0) := by
  rw [e_slGrow, cond_dec, if_neg (by omega), Int.sub_zero, wrap_i64 (by omega) (by omega), cond_dec, if_pos (by omega), cond_dec, if_pos (by omega), cond_dec, if_pos (by simp), Int.toNat_natCast]
theorem slConcat (a b : List Int) (h1 : 0 < a.length) (h2 : a.length ≤ 1000) (h3 : b.length ≤ 1000) : F_slConcat [a, b] = some (a ++ b) := by
  have g0 : getI [a, b] (0 : Int) = some a := getI_nat [a, b] 0
  have g1 : getI [a, b] (1 : Int) = some b := getI_nat [a, b] 1
  have r8 : ∀ x y : List Int, x.length ≤ 1000 → y.length ≤ 1000 → roomB x.length y.length 8 = true := fun x y hx hy => by unfold roomB; simp; omega
  have hl : (([a, b] : List (List Int)).length : Int) = 2 := rfl
  have l0 : w_slConcat_0 ([a, b], (0 : Int), [a, b], (2 : Int), (0 : Int)) = some ([a, b], ((a.length + b.length : Nat) : Int)) := by
    rw [ew_slConcat_0, es_slConcat_0, cond_dec, if_pos (by omega), g0]
    simp only [Option.bind_some]
    rw [wrap_i64 (x := 0 + (a.length : Int)) (by omega) (by omega), cond_dec, if_neg (by omega), show IntKind.i64.wrap ((0 : Int) + 1) = 1 by decide]
    simp only [Option.bind_some, Sum.elim_inl]
    rw [ew_slConcat_0, es_slConcat_0, cond_dec, if_pos (by omega), g1]
    simp only [Option.bind_some]
    rw [wrap_i64 (x := 0 + (a.length : Int) + (b.length : Int)) (by omega) (by omega), cond_dec, if_neg (by omega), show IntKind.i64.wrap ((1 : Int) + 1) = 2 by decide]
    simp only [Option.bind_some, Sum.elim_inl]
    rw [ew_slConcat_0, es_slConcat_0, cond_dec, if_neg (by omega)]
    simp only [Option.bind_some, Sum.elim_inr]
    congr 2
    omega
  have l1 : w_slConcat_1 ([], [a, b], (2 : Int), (0 : Int)) = some (a ++ b) := by
    rw [ew_slConcat_1, es_slConcat_1, cond_dec, if_pos (by omega), g0]
    simp only [Option.bind_some]
    rw [r8 [] a (by simp) h2, show IntKind.i64.wrap ((0 : Int) + 1) = 1 by decide]
    simp only [cond_true, Option.bind_some, Sum.elim_inl]
    rw [ew_slConcat_1, es_slConcat_1, cond_dec, if_pos (by omega), g1]
    simp only [Option.bind_some]
    rw [r8 _ b (by simpa using h2) h3, show IntKind.i64.wrap ((1 : Int) + 1) = 2 by decide]
    simp only [cond_true, Option.bind_some, Sum.elim_inl]
    rw [ew_slConcat_1, es_slConcat_1, cond_dec, if_neg (by omega)]
    rfl
  rw [e_slConcat, hl, l0]
  simp only [Option.bind_some]
  rw [slGrow _ (by omega) (by omega)]
  simp only [Option.bind_some]
  rw [cond_dec, if_pos (by simp; omega), hl, l1]
  rfl
/-- The least number behind another one, so far. -/
def nxt (t : Int) (a : Int × Bool) (x : Int) : Int × Bool := if t < x ∧ (a.2 = false ∨ x < a.1) then (x, true) else a
theorem next_loop (t : Int) (l : List Int) (hl : l.length ≤ 1000) : w_ftNext_0 (t, (0 : Int), false, l, (l.length : Int), (0 : Int)) = some (l.foldl (nxt t) (0, false)) := by
  have h := fold_loop (step := sp_ftNext_0) (fun i (a : Int × Bool) => (t, a.1, a.2, l, (l.length : Int), (i : Int))) (fun a => a) l (nxt t) (fun _ _ => True)
    (fun i hi a _ => by
      refine ⟨trivial, ?_⟩
      obtain ⟨u, b⟩ := a
      rw [es_ftNext_0, cond_dec, if_pos (by omega), getI_at hi]
      simp only [Option.bind_some]
      rw [wrap_succ (by omega), cond_dec]
      unfold nxt
      by_cases h1 : t < l[i]
      · rw [if_pos h1]
        cases b with
        | false =>
          simp only [Bool.not_false, cond_true]
          rw [if_pos ⟨h1, by simp⟩]
        | true =>
          simp only [Bool.not_true, cond_false]
          rw [cond_dec]
          by_cases h2 : l[i] < u
          · rw [if_pos h2, if_pos ⟨h1, .inr h2⟩]
          · rw [if_neg h2, if_neg (by simp [h2])]
      · rw [if_neg h1, if_neg (by simp [h1])])
    (fun a _ => by
      obtain ⟨u, b⟩ := a
      rw [es_ftNext_0, cond_dec, if_neg (by omega)]) 0 (0, false) (by omega) trivial
  rw [List.drop_zero] at h
  exact h
theorem nxt_spec (t : Int) : ∀ (l : List Int) (a : Int × Bool), (a.2 = true → t < a.1) →
    ((l.foldl (nxt t) a).2 = true → t < (l.foldl (nxt t) a).1 ∧ ((l.foldl (nxt t) a).1 ∈ l ∨ (a.2 = true ∧ (l.foldl (nxt t) a).1 = a.1)) ∧ (∀ x ∈ l, t < x → (l.foldl (nxt t) a).1 ≤ x) ∧ (a.2 = true → (l.foldl (nxt t) a).1 ≤ a.1)) ∧
    ((l.foldl (nxt t) a).2 = false → a.2 = false ∧ ∀ x ∈ l, ¬ t < x)
  | [], a, ha => by
    rw [List.foldl_nil]
    exact ⟨fun h => ⟨ha h, .inr ⟨h, rfl⟩, (fun x hx => absurd hx (by simp)), fun _ => Int.le_refl _⟩, fun h => ⟨h, (fun x hx => absurd hx (by simp))⟩⟩
  | y :: l, a, ha => by
    rw [List.foldl_cons]
    by_cases hc : t < y ∧ (a.2 = false ∨ y < a.1)
    · have hn : nxt t a y = (y, true) := by unfold nxt; rw [if_pos hc]
      rw [hn]
      obtain ⟨i1, i2⟩ := nxt_spec t l (y, true) (fun _ => hc.1)
      refine ⟨fun h => ?_, fun h => ?_⟩
      · obtain ⟨q1, q2, q3, q4⟩ := i1 h
        refine ⟨q1, ?_, fun x hx hx2 => ?_, fun h2 => ?_⟩
        · rcases q2 with q2 | ⟨_, q2⟩
          · exact .inl (List.mem_cons_of_mem _ q2)
          · left; rw [q2]; exact List.mem_cons_self ..
        · rcases List.mem_cons.1 hx with rfl | hx
          · exact q4 rfl
          · exact q3 x hx hx2
        · have := q4 rfl
          rcases hc.2 with h3 | h3
          · rw [h3] at h2; cases h2
          · simp only at this; omega
      · have := (i2 h).1
        cases this
    · have hn : nxt t a y = a := by unfold nxt; rw [if_neg hc]
      rw [hn]
      obtain ⟨i1, i2⟩ := nxt_spec t l a ha
      refine ⟨fun h => ?_, fun h => ?_⟩
      · obtain ⟨q1, q2, q3, q4⟩ := i1 h
        refine ⟨q1, ?_, fun x hx hx2 => ?_, q4⟩
        · rcases q2 with q2 | q2
          · exact .inl (List.mem_cons_of_mem _ q2)
          · exact .inr q2
        · rcases List.mem_cons.1 hx with rfl | hx
          · cases hb : a.2 with
            | false => exact absurd ⟨hx2, .inl hb⟩ hc
            | true =>
              have := q4 hb
              have h3 : ¬ x < a.1 := fun h3 => hc ⟨hx2, .inr h3⟩
              omega
          · exact q3 x hx hx2
      · obtain ⟨q1, q2⟩ := i2 h
        refine ⟨q1, fun x hx hx2 => ?_⟩
        rcases List.mem_cons.1 hx with rfl | hx
        · exact hc ⟨hx2, .inl q1⟩
        · exact q2 x hx hx2
/-- The first turn behind a second. -/
def nX (p : Pln) (kB kE : Int) : Int := min (tB p (kB + 1)) (tE p (kE + 1))
theorem five_next {f : Int → Int} (hf : ∀ y, f y + 330 * 86400 ≤ f (y + 1)) {y k t : Int} (h1 : f k ≤ t) (h2 : t < f (k + 1)) (hk1 : y - 2 ≤ k) (hk2 : k ≤ y + 1) :
    f (k + 1) ∈ [f (y - 2), f (y - 1), f y, f (y + 1), f (y + 2)] ∧ ∀ x ∈ [f (y - 2), f (y - 1), f y, f (y + 1), f (y + 2)], t < x → f (k + 1) ≤ x := by
  constructor
  · rcases (by omega : k = y - 2 ∨ k = y - 1 ∨ k = y ∨ k = y + 1) with rfl | rfl | rfl | rfl
    · rw [show y - 2 + 1 = y - 1 by omega]; simp
    · rw [show y - 1 + 1 = y by omega]; simp
    · simp
    · rw [show y + 1 + 1 = y + 2 by omega]; simp
  · have key : ∀ j, t < f j → f (k + 1) ≤ f j := by
      intro j hj
      have : k < j := by
        by_cases hc : k < j
        · exact hc
        · have : f j ≤ f k := by
            by_cases he : j = k
            · rw [he]; omega
            · have := rise hf (show j < k by omega); omega
          omega
      by_cases he : j = k + 1
      · rw [he]; omega
      · have := rise hf (show k + 1 < j by omega); omega
    intro x hx ht
    simp only [List.mem_cons, List.not_mem_nil, or_false] at hx
    rcases hx with rfl | rfl | rfl | rfl | rfl <;> exact key _ ht
theorem ftNext_two {p : Pln} (h : Two p) (h1 : small p.1) (h2 : small p.2.1) {t kB kE : Int} (ht : i64 t) (hd : dated t) (b1 : tB p kB ≤ t) (b2 : t < tB p (kB + 1)) (e1 : tE p kE ≤ t) (e2 : t < tE p (kE + 1)) :
    F_ftNext (p, t) = some (nX p kB kE, true, 0) := by
  obtain ⟨y, hy, hy1, hy2⟩ := year_ex _ hd
  have hch : F_pxChanges p = some (decide (p.2.1 ≠ [])) := e_pxChanges p
  obtain ⟨n1, n2⟩ := near (tB_range h) b1 b2 hy1 hy2
  obtain ⟨n3, n4⟩ := near (tE_range h) e1 e2 hy1 hy2
  obtain ⟨m1, m2⟩ := five_next (tB_next h) b1 b2 n1 n2
  obtain ⟨m3, m4⟩ := five_next (tE_next h) e1 e2 n3 n4
  rw [e_ftNext, pxCheck p h1 h2, h.ok]
  simp only [Option.bind_some]
  rw [cond_dec, if_neg (by simp), ftYear_ok t y ht hy hy1 hy2]
  simp only [Option.bind_some]
  rw [cond_dec, if_neg (by simp), hch, decide_eq_true h.two]
  simp only [Option.bind_some, Bool.not_true, cond_false]
  rw [ftAbout h y hy]
  simp only [Option.bind_some]
  rw [cond_dec, if_neg (by simp), slConcat _ _ (by simp) (by simp) (by simp)]
  simp only [Option.bind_some]
  generalize hB : [tB p (y - 2), tB p (y - 1), tB p y, tB p (y + 1), tB p (y + 2)] = B at m1 m2 ⊢
  generalize hE : [tE p (y - 2), tE p (y - 1), tE p y, tE p (y + 1), tE p (y + 2)] = E at m3 m4 ⊢
  have lB : B.length = 5 := by rw [← hB]; rfl
  have lE : E.length = 5 := by rw [← hE]; rfl
  rw [next_loop t (B ++ E) (by simp; omega)]
  simp only [Option.bind_some]
  obtain ⟨s1, s2⟩ := nxt_spec t (B ++ E) (0, false) (fun h => by cases h)
  cases hr : ((B ++ E).foldl (nxt t) (0, false)).2 with
  | false =>
    exact absurd b2 ((s2 hr).2 _ (List.mem_append_left _ m1))
  | true =>
    obtain ⟨q1, q2, q3, _⟩ := s1 hr
    have q2 : ((B ++ E).foldl (nxt t) (0, false)).1 ∈ B ++ E := by
      rcases q2 with q2 | ⟨q2, _⟩
      · exact q2
      · cases q2
    have le1 := q3 _ (List.mem_append_left _ m1) b2
    have le2 := q3 _ (List.mem_append_right _ m3) e2
    have hx : ((B ++ E).foldl (nxt t) (0, false)).1 = nX p kB kE := by
      unfold nX
      rcases List.mem_append.1 q2 with q2 | q2
      · have := m2 _ q2 q1
        omega
      · have := m4 _ q2 q1
        omega
    rw [hx]
theorem ftNext_one {p : Pln} (h : pck p = 0) (hs : p.2.1 = []) (h1 : small p.1) {t : Int} (ht : i64 t) (hd : dated t) : F_ftNext (p, t) = some (0, false, 0) := by
  obtain ⟨y, hy, hy1, hy2⟩ := year_ex _ hd
  have hch : F_pxChanges p = some (decide (p.2.1 ≠ [])) := e_pxChanges p
  rw [e_ftNext, pxCheck p h1 (by rw [hs]; simp [small]), h]
  simp only [Option.bind_some]
  rw [cond_dec, if_neg (by simp), ftYear_ok t y ht hy hy1 hy2]
  simp only [Option.bind_some]
  rw [cond_dec, if_neg (by simp), hch, decide_eq_false (by simp [hs])]
  rfl
theorem ftNext_bad {p : Pln} (h : pck p = 0) (h1 : small p.1) (h2 : small p.2.1) {t : Int} (ht : i64 t) (hd : ¬ dated t) : F_ftNext (p, t) = some (0, false, 13) := by
  rw [e_ftNext, pxCheck p h1 h2, h]
  simp only [Option.bind_some]
  rw [cond_dec, if_neg (by simp), ftYear_bad t ht hd]
  rfl
theorem ftNext_wrong {p : Pln} (h : pck p ≠ 0) (h1 : small p.1) (h2 : small p.2.1) (t : Int) : F_ftNext (p, t) = some (0, false, pck p) := by
  rw [e_ftNext, pxCheck p h1 h2]
  simp only [Option.bind_some]
  rw [cond_dec, if_pos h]
end Go.Sm
/- Plain Lean: the reference's footers; the law FooterTells. -/
set_option linter.unusedVariables false
set_option linter.unusedSimpArgs false
namespace Go.Sm
open Go.Proofs

theorem leap_2001 : ¬ leap 2001 := by decide
theorem day0 (y : Int) : ∀ (k : Nat) (n m : Int), m + k = 12 → 1 ≤ m → 1 ≤ n → n ≤ 365 - mC 2001 m →
    ∃ n' m', w_r6Day_0 (y, n, m) = some (y, n', m') ∧ n' + mC 2001 m' = n + mC 2001 m ∧ 1 ≤ n' ∧ n' ≤ mL 2001 m' ∧ 1 ≤ m' ∧ m' ≤ 12
  | 0, n, m, hk, hm, hn, hlt => by
    obtain rfl : m = 12 := by omega
    have h1 : mC 2001 12 = 334 := by decide
    have h2 : mL 2001 12 = 31 := by decide
    refine ⟨n, 12, ?_, rfl, hn, by omega, by omega, by omega⟩
    rw [ew_r6Day_0, es_r6Day_0, r5Month 2001 12 (by omega) (by omega)]
    simp only [Option.bind_some]
    rw [cond_dec, if_neg (by omega)]
    rfl
  | k + 1, n, m, hk, hm, hn, hlt => by
    have hs := mC_succ 2001 m hm (by omega)
    have hL := mL_le 2001 m
    have hmC := mC_le 2001 m hm (by omega)
    by_cases h : mL 2001 m < n
    · obtain ⟨n', m', h1, h2, h3, h4, h5, h6⟩ := day0 y k (n - mL 2001 m) (m + 1) (by omega) (by omega) (by omega) (by omega)
      refine ⟨n', m', ?_, by omega, h3, h4, h5, h6⟩
      rw [ew_r6Day_0, es_r6Day_0, r5Month 2001 m hm (by omega)]
      simp only [Option.bind_some]
      rw [cond_dec, if_pos h, wrap_i64 (x := n - mL 2001 m) (by omega) (by omega), wrap_i64 (x := m + 1) (by omega) (by omega)]
      exact h1
    · refine ⟨n, m, ?_, rfl, hn, by omega, hm, by omega⟩
      rw [ew_r6Day_0, es_r6Day_0, r5Month 2001 m hm (by omega)]
      simp only [Option.bind_some]
      rw [cond_dec, if_neg h]
      rfl
theorem day1 (y k m w d t F A : Int) (hy : -30000 ≤ y ∧ y ≤ 30000) (hm : 1 ≤ m ∧ m ≤ 12) (hw : 1 ≤ w ∧ w ≤ 5) (hd : 0 ≤ d ∧ d ≤ 6) (hF : F = yS y + mC y m) (hA : 0 ≤ A ∧ A ≤ 6) (hA1 : ((F + A + 3) % 7 + 1) % 7 = d) :
    ∀ (j : Nat) (f c i : Int), i + j = mL y m + 1 → 1 ≤ i → c = min w ((i - 1 + 6 - A) / 7) → (c ≠ 0 → f = F + A + 7 * (c - 1)) →
    w_r6Day_1 (y, (k, m, w, d, t), f, c, i) = some (F + A + 7 * (min w ((mL y m + 6 - A) / 7) - 1))
  | 0, f, c, i, hj, hi, hc, hf => by
    have hL := mL_le y m
    rw [ew_r6Day_1, es_r6Day_1, r5Month y m hm.1 hm.2]
    simp only [Option.bind_some]
    rw [cond_dec, if_neg (by omega)]
    simp only [Option.bind_some, Sum.elim_inr]
    have hi' : i - 1 = mL y m := by omega
    rw [hi'] at hc
    rw [← hc, hf (by omega)]
  | j + 1, f, c, i, hj, hi, hc, hf => by
    have hL := mL_le y m
    have hmC := mC_le y m hm.1 (by omega)
    have b1 : -20000000 ≤ yS y ∧ yS y ≤ 20000000 := by unfold yS; omega
    have hdn : dN y m i = F + i - 1 := by unfold dN; omega
    rw [ew_r6Day_1, es_r6Day_1, r5Month y m hm.1 hm.2]
    simp only [Option.bind_some]
    rw [cond_dec, if_pos (by omega), r5Of y m i hy hm (by omega), hdn]
    simp only [Option.bind_some]
    rw [r5Weekday]
    simp only [Option.bind_some]
    rw [tmod_nn (a := (F + i - 1 + 3) % 7 + 1) (by omega), cond_dec, wrap_i64 (x := c + 1) (by omega) (by omega), wrap_i64 (x := i + 1) (by omega) (by omega)]
    by_cases hP : ((F + i - 1 + 3) % 7 + 1) % 7 = d
    · rw [if_pos hP, cond_dec]
      have hq : (i - 1 - A) % 7 = 0 := by omega
      by_cases hcw : c < w
      · rw [if_pos hcw]
        simp only [Option.bind_some, Sum.elim_inl]
        exact day1 y k m w d t F A hy hm hw hd hF hA hA1 j (F + i - 1) (c + 1) (i + 1) (by omega) (by omega) (by omega) (fun _ => by omega)
      · rw [if_neg hcw]
        simp only [Option.bind_some, Sum.elim_inl]
        exact day1 y k m w d t F A hy hm hw hd hF hA hA1 j f c (i + 1) (by omega) (by omega) (by omega) hf
    · rw [if_neg hP]
      simp only [Option.bind_some, Sum.elim_inl]
      have hq : (i - 1 - A) % 7 ≠ 0 := by omega
      exact day1 y k m w d t F A hy hm hw hd hF hA hA1 j f c (i + 1) (by omega) (by omega) (by omega) hf
theorem r6Day {r : Rul} (h : rckR r = 0) (y : Int) (hy : -20000 ≤ y ∧ y ≤ 20000) : F_r6Day (r, y) = some (rD r y) := by
  obtain ⟨hm, _⟩ := rck_may h
  unfold may at hm
  obtain ⟨k, m, w, d, t⟩ := r
  have b1 : -20000000 ≤ yS y ∧ yS y ≤ 20000000 := by unfold yS; omega
  rw [e_r6Day, cond_dec]
  unfold rD
  simp only at hm ⊢
  by_cases h2 : k = 2
  · rw [if_pos h2, r5Start y (by omega), if_neg (by omega), if_neg (by omega)]
    simp only [Option.bind_some]
    rw [wrap_i64 (by omega) (by omega)]
  · rw [if_neg h2, cond_dec]
    by_cases h1 : k = 1
    · rw [if_pos h1, if_neg (by omega), if_pos h1]
      have hz : mC 2001 1 = 0 := mC_1 2001
      obtain ⟨n', m', h3, h4, h5, h6, h7, h8⟩ := day0 y 11 d 1 (by omega) (by omega) (by omega) (by omega)
      have hl := mL_le 2001 m'
      rw [h3]
      simp only [Option.bind_some]
      rw [r5Of y m' n' (by omega) ⟨h7, h8⟩ (by omega)]
      simp only [Option.bind_some, Option.some.injEq]
      unfold dN
      by_cases hm2 : m' ≤ 2
      · have e1 : mC y m' = 31 * (m' - 1) := by unfold mC; rw [if_pos hm2]
        have e2 : mC 2001 m' = 31 * (m' - 1) := by unfold mC; rw [if_pos hm2]
        have e3 : d < 60 := by
          rcases (by omega : m' = 1 ∨ m' = 2) with rfl | rfl
          · omega
          · have : mL 2001 2 = 28 := by decide
            omega
        rw [if_pos (.inl e3)]
        omega
      · have e2 : mC 2001 m' = (153 * (m' - 3) + 2) / 5 + 59 + 0 := by unfold mC; rw [if_neg hm2, if_neg leap_2001]
        have e3 : ¬ d < 60 := by omega
        by_cases hlp : leap y
        · have e1 : mC y m' = (153 * (m' - 3) + 2) / 5 + 59 + 1 := by unfold mC; rw [if_neg hm2, if_pos hlp]
          rw [if_neg (by simp [e3, hlp])]
          omega
        · have e1 : mC y m' = (153 * (m' - 3) + 2) / 5 + 59 + 0 := by unfold mC; rw [if_neg hm2, if_neg hlp]
          rw [if_pos (.inr hlp)]
          omega
    · have h3 : k = 3 := by omega
      rw [if_neg h1, if_pos h3]
      have hL := mL_le y m
      have hs := mC_succ y m (by omega) (by omega)
      rw [day1 y k m w d t (yS y + mC y m) ((d - ((yS y + mC y m + 3) % 7 + 1) % 7 + 7) % 7) (by omega) (by omega) (by omega) (by omega) rfl (by omega) (by omega) (mL y m).toNat 0 0 1 (by omega) (by omega) (by omega) (fun hq => absurd rfl hq)]
      simp only [Option.bind_some, Option.some.injEq]
      unfold wkD
      rw [hs, ← Int.add_assoc]
      generalize yS y + mC y m = F
      generalize hA : (d - ((F + 3) % 7 + 1) % 7 + 7) % 7 = A
      have hA0 : 0 ≤ A ∧ A ≤ 6 := by omega
      clear hA
      split
      · omega
      · omega
theorem r8Begin {p : Pln} (h : Two p) (y : Int) (hy : -20000 ≤ y ∧ y ≤ 20000) : F_r8Begin (p, y) = some (tB p y) := by
  obtain ⟨hb, hc, ho, ha⟩ := h.b
  have hS := yS_big hy
  have hr := rD_range hb y
  obtain ⟨_, ht⟩ := rck_may hb
  rw [e_r8Begin, r6Day hb y hy]
  simp only [Option.bind_some, wrap_add_l, wrap_sub_l]
  rw [wrap_i64 (by omega) (by omega)]
  rfl
theorem r8End {p : Pln} (h : Two p) (y : Int) (hy : -20000 ≤ y ∧ y ≤ 20000) : F_r8End (p, y) = some (tE p y) := by
  obtain ⟨hb, hc, ho, ha⟩ := h.b
  have hS := yS_big hy
  have hr := rD_range hc y
  obtain ⟨_, ht⟩ := rck_may hc
  rw [e_r8End, r6Day hc y hy]
  simp only [Option.bind_some, wrap_add_l, wrap_sub_l]
  rw [wrap_i64 (by omega) (by omega)]
  rfl
/-- The greater one of those that aren't behind a second. -/
def mx (t u x : Int) : Int := if x ≤ t ∧ u < x then x else u
theorem mx_hit {t u x : Int} (h1 : x ≤ t) (h2 : u < x) : mx t u x = x := by unfold mx; rw [if_pos ⟨h1, h2⟩]
theorem mx_miss {t u x : Int} (h : t < x) : mx t u x = u := by unfold mx; rw [if_neg (by omega)]
theorem at_round {p : Pln} (h : Two p) (t : Int) (a b : Loc) (y u v k k' : Int) (hy : -9999 ≤ y ∧ y ≤ 9999) (h1 : y - 2 ≤ k) (h2 : k ≤ y + 2) (hk : k' = k + 1) :
    w_r8At_0 (t, p, a, b, y, u, v, k) = w_r8At_0 (t, p, a, b, y, mx t u (tB p k), mx t v (tE p k), k') := by
  subst hk
  rw [ew_r8At_0, es_r8At_0, wrap_i64 (x := y + 2) (by omega) (by omega), cond_dec, if_pos (by omega), r8Begin h k (by omega), r8End h k (by omega), wrap_i64 (x := k + 1) (by omega) (by omega)]
  simp only [Option.bind_some]
  unfold mx
  by_cases q1 : tB p k ≤ t <;> by_cases q2 : u < tB p k <;> by_cases q3 : tE p k ≤ t <;> by_cases q4 : v < tE p k <;> simp [q1, q2, q3, q4]
theorem five_mx {f : Int → Int} (hf : ∀ y, f y + 330 * 86400 ≤ f (y + 1)) (y k t U : Int) (h1 : f k ≤ t) (h2 : t < f (k + 1)) (hk1 : y - 2 ≤ k) (hk2 : k ≤ y + 1) (hU : U < f (y - 2)) :
    mx t (mx t (mx t (mx t (mx t U (f (y - 2))) (f (y - 1))) (f y)) (f (y + 1))) (f (y + 2)) = f k := by
  have r1 := rise hf (show y - 2 < y - 1 by omega)
  have r2 := rise hf (show y - 1 < y by omega)
  have r3 := rise hf (show y < y + 1 by omega)
  have r4 := rise hf (show y + 1 < y + 2 by omega)
  rcases (by omega : k = y - 2 ∨ k = y - 1 ∨ k = y ∨ k = y + 1) with rfl | rfl | rfl | rfl
  · rw [show y - 2 + 1 = y - 1 by omega] at h2
    rw [mx_hit h1 hU, mx_miss h2, mx_miss (by omega), mx_miss (by omega), mx_miss (by omega)]
  · rw [show y - 1 + 1 = y by omega] at h2
    rw [mx_hit (by omega) hU, mx_hit h1 r1, mx_miss h2, mx_miss (by omega), mx_miss (by omega)]
  · rw [mx_hit (by omega) hU, mx_hit (by omega) r1, mx_hit h1 r2, mx_miss h2, mx_miss (by omega)]
  · rw [show y + 1 + 1 = y + 2 by omega] at h2
    rw [mx_hit (by omega) hU, mx_hit (by omega) r1, mx_hit (by omega) r2, mx_hit h1 r3, mx_miss h2]
theorem r8At_two {p : Pln} (h : Two p) {t kB kE : Int} (ht : i64 t) (hd : dated t) (b1 : tB p kB ≤ t) (b2 : t < tB p (kB + 1)) (e1 : tE p kE ≤ t) (e2 : t < tE p (kE + 1)) :
    F_r8At (p, t) = some (if tE p kE ≤ tB p kB then (p.2.2.2.1, true, p.2.1) else (p.2.2.1, false, p.1)) := by
  obtain ⟨y, hy, hy1, hy2⟩ := year_ex _ hd
  obtain ⟨n1, n2⟩ := near (tB_range h) b1 b2 hy1 hy2
  obtain ⟨n3, n4⟩ := near (tE_range h) e1 e2 hy1 hy2
  have hS := yS_big (y := y - 2) (by omega)
  have hrB := tB_range h (y - 2)
  have hrE := tE_range h (y - 2)
  have hl : 0 < p.2.1.length := List.length_pos_iff.2 h.two
  rw [e_r8At, cond_dec, if_neg (by omega), r8Year_ok t y ht hd hy1 hy2]
  simp only [Option.bind_some]
  rw [wrap_i64 (x := y - 2) (by omega) (by omega)]
  rw [at_round h t _ _ y _ _ (y - 2) (y - 1) hy (by omega) (by omega) (by omega), at_round h t _ _ y _ _ (y - 1) y hy (by omega) (by omega) (by omega), at_round h t _ _ y _ _ y (y + 1) hy (by omega) (by omega) (by omega),
    at_round h t _ _ y _ _ (y + 1) (y + 2) hy (by omega) (by omega) (by omega), at_round h t _ _ y _ _ (y + 2) (y + 3) hy (by omega) (by omega) (by omega)]
  rw [five_mx (tB_next h) y kB t _ b1 b2 n1 n2 (by omega), five_mx (tE_next h) y kE t _ e1 e2 n3 n4 (by omega)]
  rw [ew_r8At_0, es_r8At_0, wrap_i64 (x := y + 2) (by omega) (by omega), cond_dec, if_neg (by omega)]
  simp only [Option.bind_some, Sum.elim_inr]
  rw [cond_dec, ite_some]
def mn (t u x : Int) : Int := if t < x ∧ x < u then x else u
theorem next_round {p : Pln} (h : Two p) (t : Int) (y u k k' : Int) (hy : -9999 ≤ y ∧ y ≤ 9999) (h1 : y - 2 ≤ k) (h2 : k ≤ y + 2) (hk : k' = k + 1) :
    w_r8Next_0 (t, p, y, u, k) = w_r8Next_0 (t, p, y, mn t (mn t u (tB p k)) (tE p k), k') := by
  subst hk
  rw [ew_r8Next_0, es_r8Next_0, wrap_i64 (x := y + 2) (by omega) (by omega), cond_dec, if_pos (by omega), r8Begin h k (by omega), r8End h k (by omega), wrap_i64 (x := k + 1) (by omega) (by omega)]
  simp only [Option.bind_some]
  unfold mn
  by_cases q1 : t < tB p k
  · by_cases q2 : tB p k < u
    · by_cases q3 : t < tE p k <;> by_cases q4 : tE p k < tB p k <;> simp [q1, q2, q3, q4]
    · by_cases q3 : t < tE p k <;> by_cases q4 : tE p k < u <;> simp [q1, q2, q3, q4]
  · by_cases q3 : t < tE p k <;> by_cases q4 : tE p k < u <;> simp [q1, q3, q4]
theorem mn_spec (t : Int) : ∀ (l : List Int) (u : Int), l.foldl (mn t) u ≤ u ∧ (∀ x ∈ l, t < x → l.foldl (mn t) u ≤ x) ∧ (l.foldl (mn t) u = u ∨ (l.foldl (mn t) u ∈ l ∧ t < l.foldl (mn t) u))
  | [], u => ⟨Int.le_refl _, (fun x hx => absurd hx (by simp)), .inl rfl⟩
  | y :: l, u => by
    rw [List.foldl_cons]
    obtain ⟨i1, i2, i3⟩ := mn_spec t l (mn t u y)
    by_cases hc : t < y ∧ y < u
    · have hn : mn t u y = y := by unfold mn; rw [if_pos hc]
      rw [hn] at i1 i2 i3 ⊢
      refine ⟨by omega, fun x hx hx2 => ?_, ?_⟩
      · rcases List.mem_cons.1 hx with rfl | hx
        · exact i1
        · exact i2 x hx hx2
      · right
        rcases i3 with i3 | ⟨i3, i4⟩
        · rw [i3]; exact ⟨List.mem_cons_self .., hc.1⟩
        · exact ⟨List.mem_cons_of_mem _ i3, i4⟩
    · have hn : mn t u y = u := by unfold mn; rw [if_neg hc]
      rw [hn] at i1 i2 i3 ⊢
      refine ⟨i1, fun x hx hx2 => ?_, ?_⟩
      · rcases List.mem_cons.1 hx with rfl | hx
        · have : ¬ x < u := fun q => hc ⟨hx2, q⟩
          omega
        · exact i2 x hx hx2
      · rcases i3 with i3 | ⟨i3, i4⟩
        · exact .inl i3
        · exact .inr ⟨List.mem_cons_of_mem _ i3, i4⟩
theorem r8Next_two {p : Pln} (h : Two p) {t kB kE : Int} (ht : i64 t) (hd : dated t) (b1 : tB p kB ≤ t) (b2 : t < tB p (kB + 1)) (e1 : tE p kE ≤ t) (e2 : t < tE p (kE + 1)) :
    F_r8Next (p, t) = some (nX p kB kE, true) := by
  obtain ⟨y, hy, hy1, hy2⟩ := year_ex _ hd
  obtain ⟨n1, n2⟩ := near (tB_range h) b1 b2 hy1 hy2
  obtain ⟨n3, n4⟩ := near (tE_range h) e1 e2 hy1 hy2
  obtain ⟨m1, m2⟩ := five_next (tB_next h) b1 b2 n1 n2
  obtain ⟨m3, m4⟩ := five_next (tE_next h) e1 e2 n3 n4
  have hS := yS_big (y := kB + 1) (by omega)
  have hrB := tB_range h (kB + 1)
  have hl : 0 < p.2.1.length := List.length_pos_iff.2 h.two
  rw [e_r8Next, cond_dec, if_neg (by omega), r8Year_ok t y ht hd hy1 hy2]
  simp only [Option.bind_some]
  rw [wrap_i64 (x := y - 2) (by omega) (by omega)]
  rw [next_round h t y _ (y - 2) (y - 1) hy (by omega) (by omega) (by omega), next_round h t y _ (y - 1) y hy (by omega) (by omega) (by omega), next_round h t y _ y (y + 1) hy (by omega) (by omega) (by omega),
    next_round h t y _ (y + 1) (y + 2) hy (by omega) (by omega) (by omega), next_round h t y _ (y + 2) (y + 3) hy (by omega) (by omega) (by omega)]
  rw [ew_r8Next_0, es_r8Next_0, wrap_i64 (x := y + 2) (by omega) (by omega), cond_dec, if_neg (by omega)]
  simp only [Option.bind_some, Sum.elim_inr, Option.some.injEq, Prod.mk.injEq, and_true]
  obtain ⟨s1, s2, s3⟩ := mn_spec t [tB p (y - 2), tE p (y - 2), tB p (y - 1), tE p (y - 1), tB p y, tE p y, tB p (y + 1), tE p (y + 1), tB p (y + 2), tE p (y + 2)] 4611686018427387904
  have hall : ∀ x, x ∈ [tB p (y - 2), tE p (y - 2), tB p (y - 1), tE p (y - 1), tB p y, tE p y, tB p (y + 1), tE p (y + 1), tB p (y + 2), tE p (y + 2)] ↔ (x ∈ [tB p (y - 2), tB p (y - 1), tB p y, tB p (y + 1), tB p (y + 2)] ∨ x ∈ [tE p (y - 2), tE p (y - 1), tE p y, tE p (y + 1), tE p (y + 2)]) := by
    intro x
    simp only [List.mem_cons, List.not_mem_nil, or_false]
    constructor
    · rintro (q | q | q | q | q | q | q | q | q | q) <;> simp [q]
    · rintro ((q | q | q | q | q) | (q | q | q | q | q)) <;> simp [q]
  have l1 := s2 _ ((hall _).2 (.inl m1)) b2
  have l2 := s2 _ ((hall _).2 (.inr m3)) e2
  have hfold : List.foldl (mn t) 4611686018427387904 [tB p (y - 2), tE p (y - 2), tB p (y - 1), tE p (y - 1), tB p y, tE p y, tB p (y + 1), tE p (y + 1), tB p (y + 2), tE p (y + 2)] = nX p kB kE := by
    unfold nX
    rcases s3 with s3 | ⟨s3, s4⟩
    · rw [s3] at l1
      omega
    · rcases (hall _).1 s3 with q | q
      · have := m2 _ q s4
        omega
      · have := m4 _ q s4
        omega
  exact hfold
theorem lawFooterTells (p : Pln) (t : Int) (ht : i64 t) : F_lawFooterTells (p, t) = some true := by
  rw [e_lawFooterTells, law18alive]
  simp only [Option.bind_some, Bool.not_true, cond_false]
  rw [law17LongA]
  simp only [Option.bind_some]
  rw [cond_dec]
  by_cases hL : 60 < p.1.length ∨ 60 < p.2.1.length
  · rw [if_pos hL]
  · have h1 : small p.1 := by unfold small; omega
    have h2 : small p.2.1 := by unfold small; omega
    rw [if_neg hL, law17Document]
    simp only [Option.bind_some]
    by_cases hp : pck p = 0
    · by_cases hd : dated t
      · obtain ⟨y, hy, hy1, hy2⟩ := year_ex _ hd
        by_cases hs : p.2.1 = []
        · have hN : F_r8Next (p, t) = some (0, false) := by rw [e_r8Next, cond_dec, if_pos (by rw [hs]; rfl)]
          have hA : F_r8At (p, t) = some (p.2.2.1, false, p.1) := by rw [e_r8At, cond_dec, if_pos (by rw [hs]; rfl)]
          rw [ftAt_one hp hs h1 ht hd, ftNext_one hp hs h1 ht hd, r7Check p h1 h2, r8Year_ok t y ht hd hy1 hy2, hN, hA]
          simp [hp, e_law18Document]
        · have h : Two p := ⟨hp, hs⟩
          obtain ⟨kB, b1, b2⟩ := near_ex (tB_next h) (tB_range h) hy1 hy2
          obtain ⟨kE, e1, e2⟩ := near_ex (tE_next h) (tE_range h) hy1 hy2
          rw [ftAt_two h h1 h2 ht hd b1 b2 e1 e2, ftNext_two h h1 h2 ht hd b1 b2 e1 e2, r7Check p h1 h2, r8Year_ok t y ht hd hy1 hy2, r8Next_two h ht hd b1 b2 e1 e2, r8At_two h ht hd b1 b2 e1 e2]
          simp [hp, e_law18Document]
      · rw [ftAt_bad hp h1 h2 ht hd, ftNext_bad hp h1 h2 ht hd, r7Check p h1 h2, r8Year_bad t ht hd]
        simp [hp, lawNum]
    · have hY : ∃ q, F_r8Year t = some q := by
        by_cases hd : dated t
        · obtain ⟨y, hy, hy1, hy2⟩ := year_ex _ hd
          exact ⟨_, r8Year_ok t y ht hd hy1 hy2⟩
        · exact ⟨_, r8Year_bad t ht hd⟩
      obtain ⟨q, hq⟩ := hY
      rw [ftAt_wrong hp h1 h2, ftNext_wrong hp h1 h2, r7Check p h1 h2, hq]
      simp [hp, lawNum]
theorem wf_i64 {t : Int} (h : (Lit.int .i64 t).wf = true) : i64 t := by
  simp [Lit.wf, IntKind.has, IntKind.min, IntKind.max, IntKind.bits, IntKind.signed] at h
  unfold i64
  omega
end Go.Sm
/- From a law's function that answers true to its contract. -/
set_option linter.unusedVariables false
namespace Go.Sm
theorem sim_true {P : Program} {f : FuncId} {σ : Type} {A : Codec σ} {F : σ → Option Bool} (h : SoundT P f (specF A 1 (codP [pB]) F)) {args : List AV} {x : σ} (hd : A.dec args [] = some x) (hF : F x = some true) : Sim P f args [] (.bool true) [] := by
  refine h args [] (.bool true) [] ?_
  show (specF A 1 (codP [pB]) F args []).run = _
  unfold specF
  rw [hd]
  dsimp only
  rw [hF]
  rfl
end Go.Sm
