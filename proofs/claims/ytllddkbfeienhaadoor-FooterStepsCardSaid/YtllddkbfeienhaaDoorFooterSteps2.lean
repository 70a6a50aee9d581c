/- The references of rules and plans. No condition. -/
import Derived.Test.YtllddkbfeienhaaDoorFooterSteps1
set_option linter.unusedVariables false
namespace Go.Sm
open Go.Proofs
/-! ### horologe/horologeref02.Is -/
noncomputable abbrev ct_r2Is : List (FuncId × Bool × SpecT) := []
theorem cs_r2Is : AllSound Tryd.prog ct_r2Is := trivial
-- loop 0 (key 2) exit 0: [0, 3]
-- loop 0 (key 2) exit 2: [2]
-- loop 0 (key 2) exit 3: []
abbrev kp_r2Is : Keep := keepT [(2, 0, [(0, none), (3, none)]), (2, 2, [(2, none)]), (2, 3, [])]
noncomputable abbrev b_r2Is_0 : Code := loopAt Tryd.f148 0
noncomputable def sp_r2Is_0 (x : (UInt8 × UInt8)) : Option ((UInt8 × UInt8) ⊕ ((Bool) ⊕ Unit)) := (stepL Tryd.prog (lookT ct_r2Is) kp_r2Is (loopsT []) 0 false b_r2Is_0 (codP [pU, pU]) (exS (exO .ret (codP [pB])) (exO (.ext 0) (codP []))) x).run
noncomputable def w_r2Is_0 : (UInt8 × UInt8) → Option ((Bool) ⊕ Unit) := whileO sp_r2Is_0
theorem ew_r2Is_0 (x : (UInt8 × UInt8)) : w_r2Is_0 x = (sp_r2Is_0 x).bind (Sum.elim w_r2Is_0 some) := whileO_eq _ _
noncomputable abbrev l_r2Is_0 : LT := ltF (codP [pU, pU]) (exS (exO .ret (codP [pB])) (exO (.ext 0) (codP []))) w_r2Is_0
theorem lo_r2Is_0 : LoopOk Tryd.prog Tryd.f148.ntmps kp_r2Is 0 false b_r2Is_0 l_r2Is_0 := loopG mixed cs_r2Is (lps := loopsT []) (by kernel_rfl) (ls := []) (by kernel_rfl) lps_nil
noncomputable def F_r2Is (x : (UInt8)) : Option (Bool) := (evalF Tryd.prog (lookT ct_r2Is) (kp_r2Is) (loopsT [(2, l_r2Is_0)]) false false Tryd.f148 (codP [pU]) 1 (codP [pB]) x).run
noncomputable abbrev s_r2Is : SpecT := specF (codP [pU]) 1 (codP [pB]) F_r2Is
theorem so_r2Is : SoundT Tryd.prog 148 s_r2Is := soundG (P := Tryd.prog) mixed (t := ct_r2Is) cs_r2Is (f := 148) (fn := Tryd.f148) Tryd.func148 (by kernel_rfl) (by kernel_rfl) (by kernel_rfl) (ls := [b_r2Is_0]) (by kernel_rfl) (kp := kp_r2Is) (lps := loopsT [(2, l_r2Is_0)]) (bump := false) (ice := false) (A := (codP [pU])) (n := 1) (R := (codP [pB])) fun _ => (lps_cons l_r2Is_0 (by kernel_rfl) lo_r2Is_0 lps_nil)

theorem es_r2Is_0 (b c : UInt8) : sp_r2Is_0 (b, c) = (
  bif decide (c ≤ (57 : UInt8)) then bif decide (b = c) then some (Sum.inr (Sum.inl true)) else some (Sum.inl (b, c + (1 : UInt8))) else some (Sum.inr (Sum.inr ()))) := by kernel_rfl

theorem e_r2Is (b : UInt8) : F_r2Is b = (
  (w_r2Is_0 (b, (48 : UInt8))).bind fun x1 => Sum.elim (fun x2 => some x2) (fun x2 => some false) x1) := by kernel_rfl


/-! ### horologe/horologeref02.Many -/
noncomputable abbrev ct_r2Many : List (FuncId × Bool × SpecT) := [(148, false, s_r2Is)]
theorem cs_r2Many : AllSound Tryd.prog ct_r2Many := ⟨so_r2Is, trivial⟩
-- loop 0 (key 2) exit 0: [0, 3]
-- loop 0 (key 2) exit 2: [2]
-- loop 0 (key 2) exit 3: [0]
abbrev kp_r2Many : Keep := keepT [(2, 0, [(0, none), (3, none)]), (2, 2, [(2, none)]), (2, 3, [(0, none)])]
noncomputable abbrev b_r2Many_0 : Code := loopAt Tryd.f125 0
noncomputable def sp_r2Many_0 (x : ((List UInt8) × Int)) : Option (((List UInt8) × Int) ⊕ ((Int) ⊕ ((List UInt8)))) := (stepL Tryd.prog (lookT ct_r2Many) kp_r2Many (loopsT []) 0 false b_r2Many_0 (codP [pS, pI]) (exS (exO .ret (codP [pI])) (exO (.ext 0) (codP [pS]))) x).run
noncomputable def w_r2Many_0 : ((List UInt8) × Int) → Option ((Int) ⊕ ((List UInt8))) := whileO sp_r2Many_0
theorem ew_r2Many_0 (x : ((List UInt8) × Int)) : w_r2Many_0 x = (sp_r2Many_0 x).bind (Sum.elim w_r2Many_0 some) := whileO_eq _ _
noncomputable abbrev l_r2Many_0 : LT := ltF (codP [pS, pI]) (exS (exO .ret (codP [pI])) (exO (.ext 0) (codP [pS]))) w_r2Many_0
theorem lo_r2Many_0 : LoopOk Tryd.prog Tryd.f125.ntmps kp_r2Many 0 false b_r2Many_0 l_r2Many_0 := loopG mixed cs_r2Many (lps := loopsT []) (by kernel_rfl) (ls := []) (by kernel_rfl) lps_nil
noncomputable def F_r2Many (x : ((List UInt8))) : Option (Int) := (evalF Tryd.prog (lookT ct_r2Many) (kp_r2Many) (loopsT [(2, l_r2Many_0)]) false false Tryd.f125 (codP [pS]) 1 (codP [pI]) x).run
noncomputable abbrev s_r2Many : SpecT := specF (codP [pS]) 1 (codP [pI]) F_r2Many
theorem so_r2Many : SoundT Tryd.prog 125 s_r2Many := soundG (P := Tryd.prog) mixed (t := ct_r2Many) cs_r2Many (f := 125) (fn := Tryd.f125) Tryd.func125 (by kernel_rfl) (by kernel_rfl) (by kernel_rfl) (ls := [b_r2Many_0]) (by kernel_rfl) (kp := kp_r2Many) (lps := loopsT [(2, l_r2Many_0)]) (bump := false) (ice := false) (A := (codP [pS])) (n := 1) (R := (codP [pI])) fun _ => (lps_cons l_r2Many_0 (by kernel_rfl) lo_r2Many_0 lps_nil)

theorem es_r2Many_0 (s : List UInt8) (i : Int) : sp_r2Many_0 (s, i) = (
  bif decide (i < (↑s.length : Int)) then (getI s i).bind fun x1 => (F_r2Is x1).bind fun x2 => bif !x2 then some (Sum.inr (Sum.inl i)) else some (Sum.inl (s, IntKind.i64.wrap (i + (1 : Int))))
  else some (Sum.inr (Sum.inr s))) := by kernel_rfl

theorem e_r2Many (s : List UInt8) : F_r2Many s = (
  (w_r2Many_0 (s, (0 : Int))).bind fun x1 => Sum.elim (fun x2 => some x2) (fun x2 => some (↑x2.length : Int)) x1) := by kernel_rfl


/-! ### horologe/horologeref02.Raw -/
noncomputable abbrev ct_r2Raw : List (FuncId × Bool × SpecT) := []
theorem cs_r2Raw : AllSound Tryd.prog ct_r2Raw := trivial
-- loop 0 (key 2) exit 0: [0, 1, 5]
-- loop 0 (key 2) exit 3: [1, 5]
-- loop 1 (key 5) exit 0: [1, 5]
-- loop 1 (key 5) exit 5: [5]
abbrev kp_r2Raw : Keep := keepT [(2, 0, [(0, none), (1, none), (5, none)]), (2, 3, [(1, none), (5, none)]), (5, 0, [(1, none), (5, none)]), (5, 5, [(5, none)])]
noncomputable abbrev b_r2Raw_0 : Code := loopAt Tryd.f111 0
noncomputable abbrev b_r2Raw_1 : Code := loopAt Tryd.f111 1
noncomputable def sp_r2Raw_1 (x : (Int × (List UInt8))) : Option ((Int × (List UInt8)) ⊕ ((List UInt8))) := (stepL Tryd.prog (lookT ct_r2Raw) kp_r2Raw (loopsT []) 0 false b_r2Raw_1 (codP [pI, pS]) (exO (.ext 2) (codP [pS])) x).run
noncomputable def w_r2Raw_1 : (Int × (List UInt8)) → Option ((List UInt8)) := whileO sp_r2Raw_1
theorem ew_r2Raw_1 (x : (Int × (List UInt8))) : w_r2Raw_1 x = (sp_r2Raw_1 x).bind (Sum.elim w_r2Raw_1 some) := whileO_eq _ _
noncomputable abbrev l_r2Raw_1 : LT := ltF (codP [pI, pS]) (exO (.ext 2) (codP [pS])) w_r2Raw_1
theorem lo_r2Raw_1 : LoopOk Tryd.prog Tryd.f111.ntmps kp_r2Raw 0 false b_r2Raw_1 l_r2Raw_1 := loopG mixed cs_r2Raw (lps := loopsT []) (by kernel_rfl) (ls := []) (by kernel_rfl) lps_nil
noncomputable def sp_r2Raw_0 (x : (Int × Int × (List UInt8))) : Option ((Int × Int × (List UInt8)) ⊕ (Int × (List UInt8))) := (stepL Tryd.prog (lookT ct_r2Raw) kp_r2Raw (loopsT []) 0 false b_r2Raw_0 (codP [pI, pI, pS]) (exO (.ext 0) (codP [pI, pS])) x).run
noncomputable def w_r2Raw_0 : (Int × Int × (List UInt8)) → Option (Int × (List UInt8)) := whileO sp_r2Raw_0
theorem ew_r2Raw_0 (x : (Int × Int × (List UInt8))) : w_r2Raw_0 x = (sp_r2Raw_0 x).bind (Sum.elim w_r2Raw_0 some) := whileO_eq _ _
noncomputable abbrev l_r2Raw_0 : LT := ltF (codP [pI, pI, pS]) (exO (.ext 0) (codP [pI, pS])) w_r2Raw_0
theorem lo_r2Raw_0 : LoopOk Tryd.prog Tryd.f111.ntmps kp_r2Raw 0 false b_r2Raw_0 l_r2Raw_0 := loopG mixed cs_r2Raw (lps := loopsT []) (by kernel_rfl) (ls := []) (by kernel_rfl) lps_nil
noncomputable def F_r2Raw (x : (Int × Int)) : Option ((List UInt8)) := (evalF Tryd.prog (lookT ct_r2Raw) (kp_r2Raw) (loopsT [(2, l_r2Raw_0), (5, l_r2Raw_1)]) false false Tryd.f111 (codP [pI, pI]) 1 (codP [pS]) x).run
noncomputable abbrev s_r2Raw : SpecT := specF (codP [pI, pI]) 1 (codP [pS]) F_r2Raw
theorem so_r2Raw : SoundT Tryd.prog 111 s_r2Raw := soundG (P := Tryd.prog) mixed (t := ct_r2Raw) cs_r2Raw (f := 111) (fn := Tryd.f111) Tryd.func111 (by kernel_rfl) (by kernel_rfl) (by kernel_rfl) (ls := [b_r2Raw_0, b_r2Raw_1]) (by kernel_rfl) (kp := kp_r2Raw) (lps := loopsT [(2, l_r2Raw_0), (5, l_r2Raw_1)]) (bump := false) (ice := false) (A := (codP [pI, pI])) (n := 1) (R := (codP [pS])) fun _ => (lps_cons l_r2Raw_0 (by kernel_rfl) lo_r2Raw_0 (lps_cons l_r2Raw_1 (by kernel_rfl) lo_r2Raw_1 lps_nil))

theorem es_r2Raw_0 (n w : Int) (s : List UInt8) : sp_r2Raw_0 (n, w, s) = (
  bif decide ((0 : Int) < n) then
    bif decide ([byteI (IntKind.i64.wrap ((48 : Int) + n.tmod (10 : Int)))].length + s.length ≤ (9223372036854775807 : Nat)) then
      some (Sum.inl (IntKind.i64.wrap (n.tdiv (10 : Int)), w, [byteI (IntKind.i64.wrap ((48 : Int) + n.tmod (10 : Int)))] ++ s))
    else none
  else some (Sum.inr (w, s))) := by kernel_rfl

theorem es_r2Raw_1 (w : Int) (s : List UInt8) : sp_r2Raw_1 (w, s) = (
  bif decide ((↑s.length : Int) < w) then bif decide ((1 : Nat) + s.length ≤ (9223372036854775807 : Nat)) then some (Sum.inl (w, [(48 : UInt8)] ++ s)) else none
  else bif decide ((↑s.length : Int) = (0 : Int)) then bif decide ((1 : Nat) + s.length ≤ (9223372036854775807 : Nat)) then some (Sum.inl (w, [(48 : UInt8)] ++ s)) else none else some (Sum.inr s)) := by kernel_rfl

theorem e_r2Raw (n w : Int) : F_r2Raw (n, w) = (
  (w_r2Raw_0 (n, w, [])).bind fun x1 => (w_r2Raw_1 x1).bind fun x2 => some x2) := by kernel_rfl


/-! ### horologe/horologeref16.Check -/
noncomputable abbrev ct_r6Check : List (FuncId × Bool × SpecT) := []
theorem cs_r6Check : AllSound Tryd.prog ct_r6Check := trivial
noncomputable def F_r6Check (x : ((Int × Int × Int × Int × Int))) : Option (Int) := (evalF Tryd.prog (lookT ct_r6Check) (keepT []) (loopsT []) false false Tryd.f69 (codP [pRule]) 1 (codP [pI]) x).run
noncomputable abbrev s_r6Check : SpecT := specF (codP [pRule]) 1 (codP [pI]) F_r6Check
theorem so_r6Check : SoundT Tryd.prog 69 s_r6Check := soundG (P := Tryd.prog) mixed (t := ct_r6Check) cs_r6Check (f := 69) (fn := Tryd.f69) Tryd.func69 (by kernel_rfl) (by kernel_rfl) (by kernel_rfl) (ls := []) (by kernel_rfl) (kp := keepT []) (lps := loopsT []) (bump := false) (ice := false) (A := (codP [pRule])) (n := 1) (R := (codP [pI])) fun _ => lps_nil

theorem e_r6Check (r : Int × Int × Int × Int × Int) : F_r6Check r = (
  bif decide ((-604799 : Int) ≤ r.snd.snd.snd.snd) then
    bif decide (r.fst = (1 : Int)) then
      bif decide (r.snd.snd.snd.snd ≤ (604799 : Int)) then
        bif decide ((1 : Int) ≤ r.snd.snd.snd.fst) then
          bif decide (r.snd.snd.snd.fst ≤ (365 : Int)) then bif decide (r.snd.fst = (0 : Int)) then bif !decide (r.snd.snd.fst = (0 : Int)) then some (1 : Int) else some (0 : Int) else some (1 : Int)
          else some (1 : Int)
        else some (1 : Int)
      else some (1 : Int)
    else
      bif decide (r.fst = (2 : Int)) then
        bif decide (r.snd.snd.snd.snd ≤ (604799 : Int)) then
          bif decide ((0 : Int) ≤ r.snd.snd.snd.fst) then
            bif decide (r.snd.snd.snd.fst ≤ (365 : Int)) then bif decide (r.snd.fst = (0 : Int)) then bif !decide (r.snd.snd.fst = (0 : Int)) then some (1 : Int) else some (0 : Int) else some (1 : Int)
            else some (1 : Int)
          else some (1 : Int)
        else some (1 : Int)
      else
        bif decide (r.fst = (3 : Int)) then
          bif decide (r.snd.snd.snd.snd ≤ (604799 : Int)) then
            bif decide ((1 : Int) ≤ r.snd.fst) then
              bif decide (r.snd.fst ≤ (12 : Int)) then
                bif decide ((1 : Int) ≤ r.snd.snd.fst) then
                  bif decide (r.snd.snd.fst ≤ (5 : Int)) then
                    bif decide ((0 : Int) ≤ r.snd.snd.snd.fst) then bif !decide (r.snd.snd.snd.fst ≤ (6 : Int)) then some (1 : Int) else some (0 : Int) else some (1 : Int)
                  else some (1 : Int)
                else some (1 : Int)
              else some (1 : Int)
            else some (1 : Int)
          else some (1 : Int)
        else some (11 : Int)
  else bif decide (r.fst = (1 : Int)) then some (1 : Int) else bif decide (r.fst = (2 : Int)) then some (1 : Int) else bif decide (r.fst = (3 : Int)) then some (1 : Int) else some (11 : Int)) := by kernel_rfl


/-! ### horologe/horologeref16.Clock -/
noncomputable abbrev ct_r6Clock : List (FuncId × Bool × SpecT) := [(111, false, s_r2Raw)]
theorem cs_r6Clock : AllSound Tryd.prog ct_r6Clock := ⟨so_r2Raw, trivial⟩
noncomputable def F_r6Clock (x : (Int)) : Option ((List UInt8)) := (evalF Tryd.prog (lookT ct_r6Clock) (keepT []) (loopsT []) false false Tryd.f76 (codP [pI]) 1 (codP [pS]) x).run
noncomputable abbrev s_r6Clock : SpecT := specF (codP [pI]) 1 (codP [pS]) F_r6Clock
theorem so_r6Clock : SoundT Tryd.prog 76 s_r6Clock := soundG (P := Tryd.prog) mixed (t := ct_r6Clock) cs_r6Clock (f := 76) (fn := Tryd.f76) Tryd.func76 (by kernel_rfl) (by kernel_rfl) (by kernel_rfl) (ls := []) (by kernel_rfl) (kp := keepT []) (lps := loopsT []) (bump := false) (ice := false) (A := (codP [pI])) (n := 1) (R := (codP [pS])) fun _ => lps_nil

theorem e_r6Clock (t : Int) : F_r6Clock t = (
  bif decide (t < (0 : Int)) then
    (F_r2Raw (IntKind.i64.wrap ((IntKind.i64.wrap ((0 : Int) - t)).tdiv (3600 : Int)), (1 : Int))).bind fun x1 =>
      bif decide ((1 : Nat) + x1.length ≤ (9223372036854775807 : Nat)) then
        bif decide ((IntKind.i64.wrap ((0 : Int) - t)).tmod (3600 : Int) ≠ (0 : Int)) then
          (F_r2Raw ((IntKind.i64.wrap ((IntKind.i64.wrap ((0 : Int) - t)).tdiv (60 : Int))).tmod (60 : Int), (2 : Int))).bind fun x2 =>
            bif decide ((1 : Nat) + x2.length ≤ (9223372036854775807 : Nat)) then
              bif decide (([(45 : UInt8)] ++ x1).length + ([(58 : UInt8)] ++ x2).length ≤ (9223372036854775807 : Nat)) then
                bif decide ((IntKind.i64.wrap ((0 : Int) - t)).tmod (60 : Int) ≠ (0 : Int)) then
                  (F_r2Raw ((IntKind.i64.wrap ((0 : Int) - t)).tmod (60 : Int), (2 : Int))).bind fun x3 =>
                    bif decide ((1 : Nat) + x3.length ≤ (9223372036854775807 : Nat)) then
                      bif decide (([(45 : UInt8)] ++ x1 ++ ([(58 : UInt8)] ++ x2)).length + ([(58 : UInt8)] ++ x3).length ≤ (9223372036854775807 : Nat)) then
                        some ([(45 : UInt8)] ++ x1 ++ ([(58 : UInt8)] ++ x2) ++ ([(58 : UInt8)] ++ x3))
                      else none
                    else none
                else some ([(45 : UInt8)] ++ x1 ++ ([(58 : UInt8)] ++ x2))
              else none
            else none
        else
          bif decide ((IntKind.i64.wrap ((0 : Int) - t)).tmod (60 : Int) ≠ (0 : Int)) then
            (F_r2Raw ((IntKind.i64.wrap ((0 : Int) - t)).tmod (60 : Int), (2 : Int))).bind fun x2 =>
              bif decide ((1 : Nat) + x2.length ≤ (9223372036854775807 : Nat)) then
                bif decide (([(45 : UInt8)] ++ x1).length + ([(58 : UInt8)] ++ x2).length ≤ (9223372036854775807 : Nat)) then some ([(45 : UInt8)] ++ x1 ++ ([(58 : UInt8)] ++ x2)) else none
              else none
          else some ([(45 : UInt8)] ++ x1)
      else none
  else
    (F_r2Raw (IntKind.i64.wrap (t.tdiv (3600 : Int)), (1 : Int))).bind fun x1 =>
      bif decide ((0 : Nat) + x1.length ≤ (9223372036854775807 : Nat)) then
        bif decide (t.tmod (3600 : Int) ≠ (0 : Int)) then
          (F_r2Raw ((IntKind.i64.wrap (t.tdiv (60 : Int))).tmod (60 : Int), (2 : Int))).bind fun x2 =>
            bif decide ((1 : Nat) + x2.length ≤ (9223372036854775807 : Nat)) then
              bif decide (([] ++ x1).length + ([(58 : UInt8)] ++ x2).length ≤ (9223372036854775807 : Nat)) then
                bif decide (t.tmod (60 : Int) ≠ (0 : Int)) then
                  (F_r2Raw (t.tmod (60 : Int), (2 : Int))).bind fun x3 =>
                    bif decide ((1 : Nat) + x3.length ≤ (9223372036854775807 : Nat)) then
                      bif decide (([] ++ x1 ++ ([(58 : UInt8)] ++ x2)).length + ([(58 : UInt8)] ++ x3).length ≤ (9223372036854775807 : Nat)) then
                        some ([] ++ x1 ++ ([(58 : UInt8)] ++ x2) ++ ([(58 : UInt8)] ++ x3))
                      else none
                    else none
                else some ([] ++ x1 ++ ([(58 : UInt8)] ++ x2))
              else none
            else none
        else
          bif decide (t.tmod (60 : Int) ≠ (0 : Int)) then
            (F_r2Raw (t.tmod (60 : Int), (2 : Int))).bind fun x2 =>
              bif decide ((1 : Nat) + x2.length ≤ (9223372036854775807 : Nat)) then
                bif decide (([] ++ x1).length + ([(58 : UInt8)] ++ x2).length ≤ (9223372036854775807 : Nat)) then some ([] ++ x1 ++ ([(58 : UInt8)] ++ x2)) else none
              else none
          else some ([] ++ x1)
      else none) := by kernel_rfl


/-! ### horologe/horologeref16.number -/
noncomputable abbrev ct_r6number : List (FuncId × Bool × SpecT) := [(125, false, s_r2Many)]
theorem cs_r6number : AllSound Tryd.prog ct_r6number := ⟨so_r2Many, trivial⟩
-- loop 0 (key 5) exit 0: [0, 8, 9]
-- loop 0 (key 5) exit 3: [8]
abbrev kp_r6number : Keep := keepT [(5, 0, [(0, none), (8, none), (9, none)]), (5, 3, [(8, none)])]
noncomputable abbrev b_r6number_0 : Code := loopAt Tryd.f96 0
noncomputable def sp_r6number_0 (x : ((List UInt8) × Int × Int)) : Option (((List UInt8) × Int × Int) ⊕ (Int)) := (stepL Tryd.prog (lookT ct_r6number) kp_r6number (loopsT []) 0 false b_r6number_0 (codP [pS, pI, pI]) (exO (.ext 0) (codP [pI])) x).run
noncomputable def w_r6number_0 : ((List UInt8) × Int × Int) → Option (Int) := whileO sp_r6number_0
theorem ew_r6number_0 (x : ((List UInt8) × Int × Int)) : w_r6number_0 x = (sp_r6number_0 x).bind (Sum.elim w_r6number_0 some) := whileO_eq _ _
noncomputable abbrev l_r6number_0 : LT := ltF (codP [pS, pI, pI]) (exO (.ext 0) (codP [pI])) w_r6number_0
theorem lo_r6number_0 : LoopOk Tryd.prog Tryd.f96.ntmps kp_r6number 0 false b_r6number_0 l_r6number_0 := loopG mixed cs_r6number (lps := loopsT []) (by kernel_rfl) (ls := []) (by kernel_rfl) lps_nil
noncomputable def F_r6number (x : ((List UInt8) × Int × Int)) : Option (Int × Bool) := (evalF Tryd.prog (lookT ct_r6number) (kp_r6number) (loopsT [(5, l_r6number_0)]) false false Tryd.f96 (codP [pS, pI, pI]) 2 (codP [pI, pB]) x).run
noncomputable abbrev s_r6number : SpecT := specF (codP [pS, pI, pI]) 2 (codP [pI, pB]) F_r6number
theorem so_r6number : SoundT Tryd.prog 96 s_r6number := soundG (P := Tryd.prog) mixed (t := ct_r6number) cs_r6number (f := 96) (fn := Tryd.f96) Tryd.func96 (by kernel_rfl) (by kernel_rfl) (by kernel_rfl) (ls := [b_r6number_0]) (by kernel_rfl) (kp := kp_r6number) (lps := loopsT [(5, l_r6number_0)]) (bump := false) (ice := false) (A := (codP [pS, pI, pI])) (n := 2) (R := (codP [pI, pB])) fun _ => (lps_cons l_r6number_0 (by kernel_rfl) lo_r6number_0 lps_nil)

theorem es_r6number_0 (s : List UInt8) (n i : Int) : sp_r6number_0 (s, n, i) = (
  bif decide (i < (↑s.length : Int)) then
    (getI s i).bind fun x1 => some (Sum.inl (s, IntKind.i64.wrap (IntKind.i64.wrap (n * (10 : Int)) + (↑(x1 - (48 : UInt8)).toNat : Int)), IntKind.i64.wrap (i + (1 : Int))))
  else some (Sum.inr n)) := by kernel_rfl

theorem e_r6number (s : List UInt8) (l m : Int) : F_r6number (s, l, m) = (
  bif decide ((↑s.length : Int) < l) then some ((0 : Int), false)
  else
    bif decide (m < (↑s.length : Int)) then some ((0 : Int), false)
    else (F_r2Many s).bind fun x1 => bif decide (x1 < (↑s.length : Int)) then some ((0 : Int), false) else (w_r6number_0 (s, (0 : Int), (0 : Int))).bind fun x2 => some (x2, true)) := by kernel_rfl


/-! ### horologe/horologeref16.parts -/
noncomputable abbrev ct_r6parts : List (FuncId × Bool × SpecT) := []
theorem cs_r6parts : AllSound Tryd.prog ct_r6parts := trivial
-- loop 0 (key 3) exit 0: [0, 1, 5, 6]
-- loop 0 (key 3) exit 3: [5]
abbrev kp_r6parts : Keep := keepT [(3, 0, [(0, none), (1, none), (5, some .str), (6, none)]), (3, 3, [(5, some .str)])]
noncomputable abbrev b_r6parts_0 : Code := loopAt Tryd.f95 0
noncomputable def sp_r6parts_0 (x : ((List UInt8) × UInt8 × (List (List UInt8)) × Int)) : Option (((List UInt8) × UInt8 × (List (List UInt8)) × Int) ⊕ ((List (List UInt8)))) := (stepL Tryd.prog (lookT ct_r6parts) kp_r6parts (loopsT []) 0 false b_r6parts_0 (codP [pS, pU, (.own .str), pI]) (exO (.ext 0) (codP [(.own .str)])) x).run
noncomputable def w_r6parts_0 : ((List UInt8) × UInt8 × (List (List UInt8)) × Int) → Option ((List (List UInt8))) := whileO sp_r6parts_0
theorem ew_r6parts_0 (x : ((List UInt8) × UInt8 × (List (List UInt8)) × Int)) : w_r6parts_0 x = (sp_r6parts_0 x).bind (Sum.elim w_r6parts_0 some) := whileO_eq _ _
noncomputable abbrev l_r6parts_0 : LT := ltF (codP [pS, pU, (.own .str), pI]) (exO (.ext 0) (codP [(.own .str)])) w_r6parts_0
theorem lo_r6parts_0 : LoopOk Tryd.prog Tryd.f95.ntmps kp_r6parts 0 false b_r6parts_0 l_r6parts_0 := loopG mixed cs_r6parts (lps := loopsT []) (by kernel_rfl) (ls := []) (by kernel_rfl) lps_nil
noncomputable def F_r6parts (x : ((List UInt8) × UInt8)) : Option ((List (List UInt8))) := (evalF Tryd.prog (lookT ct_r6parts) (kp_r6parts) (loopsT [(3, l_r6parts_0)]) false true Tryd.f95 (codP [pS, pU]) 1 (codP [(.pure (.lst .str))]) x).run
noncomputable abbrev s_r6parts : SpecT := specF (codP [pS, pU]) 1 (codP [(.pure (.lst .str))]) F_r6parts
theorem so_r6parts : SoundT Tryd.prog 95 s_r6parts := soundG (P := Tryd.prog) mixed (t := ct_r6parts) cs_r6parts (f := 95) (fn := Tryd.f95) Tryd.func95 (by kernel_rfl) (by kernel_rfl) (by kernel_rfl) (ls := [b_r6parts_0]) (by kernel_rfl) (kp := kp_r6parts) (lps := loopsT [(3, l_r6parts_0)]) (bump := false) (ice := true) (A := (codP [pS, pU])) (n := 1) (R := (codP [(.pure (.lst .str))])) fun _ => (lps_cons l_r6parts_0 (by kernel_rfl) lo_r6parts_0 lps_nil)

theorem es_r6parts_0 (s : List UInt8) (g : UInt8) (o : List (List UInt8)) (i : Int) : sp_r6parts_0 (s, g, o, i) = (
  bif decide (i < (↑s.length : Int)) then
    (getI s i).bind fun x1 =>
      bif decide (x1 = g) then bif roomB o.length (1 : Nat) (16 : Nat) then some (Sum.inl (s, g, o ++ [[]], IntKind.i64.wrap (i + (1 : Int)))) else none
      else
        bif decide ((0 : Int) ≤ IntKind.i64.wrap ((↑o.length : Int) - (1 : Int)) ∧ IntKind.i64.wrap ((↑o.length : Int) - (1 : Int)) < (↑o.length : Int)) then
          o[(IntKind.i64.wrap ((↑o.length : Int) - (1 : Int))).toNat]?.bind fun x2 =>
            (subI s i (IntKind.i64.wrap (i + (1 : Int)))).bind fun x3 =>
              bif decide (x2.length + x3.length ≤ (9223372036854775807 : Nat)) then
                bif decide ((0 : Int) ≤ IntKind.i64.wrap ((↑o.length : Int) - (1 : Int)) ∧ IntKind.i64.wrap ((↑o.length : Int) - (1 : Int)) < (↑o.length : Int)) then
                  o[(IntKind.i64.wrap ((↑o.length : Int) - (1 : Int))).toNat]?.bind fun x4 =>
                    some (Sum.inl (s, g, o.set (IntKind.i64.wrap ((↑o.length : Int) - (1 : Int))).toNat (x2 ++ x3), IntKind.i64.wrap (i + (1 : Int))))
                else none
              else none
        else none
  else some (Sum.inr o)) := by kernel_rfl

theorem e_r6parts (s : List UInt8) (g : UInt8) : F_r6parts (s, g) = (
  (w_r6parts_0 (s, g, [[]], (0 : Int))).bind fun x1 => some x1) := by kernel_rfl


/-! ### horologe/horologeref16.ParseClock -/
noncomputable abbrev ct_r6ParseClock : List (FuncId × Bool × SpecT) := [(95, false, s_r6parts), (96, false, s_r6number)]
theorem cs_r6ParseClock : AllSound Tryd.prog ct_r6ParseClock := ⟨so_r6parts, so_r6number, trivial⟩
-- loop 0 (key 16) exit 0: [6, 7, 8, 10, 11, 12, 13]
-- loop 0 (key 16) exit 2: [4, 5]
-- loop 0 (key 16) exit 3: [6, 8, 10, 11]
abbrev kp_r6ParseClock : Keep := keepT [(16, 0, [(6, none), (7, none), (8, none), (10, none), (11, none), (12, none), (13, none)]), (16, 2, [(4, none), (5, none)]), (16, 3, [(6, none), (8, none), (10, none), (11, none)])]
noncomputable abbrev b_r6ParseClock_0 : Code := loopAt Tryd.f49 0
noncomputable def sp_r6ParseClock_0 (x : (Int × (List (List UInt8)) × Int × Int × Bool × Int × Int)) : Option ((Int × (List (List UInt8)) × Int × Int × Bool × Int × Int) ⊕ ((Int × Int) ⊕ (Int × Int × Int × Bool))) := (stepL Tryd.prog (lookT ct_r6ParseClock) kp_r6ParseClock (loopsT []) 0 false b_r6ParseClock_0 (codP [pI, (.pure (.lst .str)), pI, pI, pB, pI, pI]) (exS (exO .ret (codP [pI, pI])) (exO (.ext 0) (codP [pI, pI, pI, pB]))) x).run
noncomputable def w_r6ParseClock_0 : (Int × (List (List UInt8)) × Int × Int × Bool × Int × Int) → Option ((Int × Int) ⊕ (Int × Int × Int × Bool)) := whileO sp_r6ParseClock_0
theorem ew_r6ParseClock_0 (x : (Int × (List (List UInt8)) × Int × Int × Bool × Int × Int)) : w_r6ParseClock_0 x = (sp_r6ParseClock_0 x).bind (Sum.elim w_r6ParseClock_0 some) := whileO_eq _ _
noncomputable abbrev l_r6ParseClock_0 : LT := ltF (codP [pI, (.pure (.lst .str)), pI, pI, pB, pI, pI]) (exS (exO .ret (codP [pI, pI])) (exO (.ext 0) (codP [pI, pI, pI, pB]))) w_r6ParseClock_0
theorem lo_r6ParseClock_0 : LoopOk Tryd.prog Tryd.f49.ntmps kp_r6ParseClock 0 false b_r6ParseClock_0 l_r6ParseClock_0 := loopG mixed cs_r6ParseClock (lps := loopsT []) (by kernel_rfl) (ls := []) (by kernel_rfl) lps_nil
noncomputable def F_r6ParseClock (x : ((List UInt8) × Int)) : Option (Int × Int) := (evalF Tryd.prog (lookT ct_r6ParseClock) (kp_r6ParseClock) (loopsT [(16, l_r6ParseClock_0)]) false false Tryd.f49 (codP [pS, pI]) 2 (codP [pI, pI]) x).run
noncomputable abbrev s_r6ParseClock : SpecT := specF (codP [pS, pI]) 2 (codP [pI, pI]) F_r6ParseClock
theorem so_r6ParseClock : SoundT Tryd.prog 49 s_r6ParseClock := soundG (P := Tryd.prog) mixed (t := ct_r6ParseClock) cs_r6ParseClock (f := 49) (fn := Tryd.f49) Tryd.func49 (by kernel_rfl) (by kernel_rfl) (by kernel_rfl) (ls := [b_r6ParseClock_0]) (by kernel_rfl) (kp := kp_r6ParseClock) (lps := loopsT [(16, l_r6ParseClock_0)]) (bump := false) (ice := false) (A := (codP [pS, pI])) (n := 2) (R := (codP [pI, pI])) fun _ => (lps_cons l_r6ParseClock_0 (by kernel_rfl) lo_r6ParseClock_0 lps_nil)

theorem es_r6ParseClock_0 (g : Int) (l : List (List UInt8)) (h r : Int) (b : Bool) (u i : Int) : sp_r6ParseClock_0 (g, l, h, r, b, u, i) = (
  bif decide (i < (↑l.length : Int)) then
    (getI l i).bind fun x1 =>
      (F_r6number (x1, (2 : Int), (2 : Int))).bind fun x2 =>
        bif !x2.snd then some (Sum.inr (Sum.inl ((0 : Int), (2 : Int))))
        else
          bif b then some (Sum.inl (g, l, h, IntKind.i64.wrap (r + IntKind.i64.wrap (x2.fst * u)), true, (1 : Int), IntKind.i64.wrap (i + (1 : Int))))
          else some (Sum.inl (g, l, h, IntKind.i64.wrap (r + IntKind.i64.wrap (x2.fst * u)), decide ((59 : Int) < x2.fst), (1 : Int), IntKind.i64.wrap (i + (1 : Int))))
  else some (Sum.inr (Sum.inr (g, h, r, b)))) := by kernel_rfl

theorem e_r6ParseClock (s : List UInt8) (m : Int) : F_r6ParseClock (s, m) = (
  bif decide (m < (0 : Int)) then some ((0 : Int), (1 : Int))
  else
    bif decide ((999 : Int) < m) then some ((0 : Int), (1 : Int))
    else
      bif decide ((0 : Int) < (↑s.length : Int)) then
        (getI s (0 : Int)).bind fun x1 =>
          bif decide (x1 = (43 : UInt8)) then
            (getI s (0 : Int)).bind fun x2 =>
              bif decide (x2 = (45 : UInt8)) then
                (subI s (1 : Int) (↑s.length : Int)).bind fun x3 =>
                  (F_r6parts (x3, (58 : UInt8))).bind fun x4 =>
                    (getI x4 (0 : Int)).bind fun x5 =>
                      (F_r6number (x5, (1 : Int), (3 : Int))).bind fun x6 =>
                        bif !x6.snd then some ((0 : Int), (2 : Int))
                        else
                          bif decide ((3 : Int) < (↑x4.length : Int)) then some ((0 : Int), (2 : Int))
                          else
                            (w_r6ParseClock_0 ((-1 : Int), x4, x6.fst, (0 : Int), decide (m < x6.fst), (60 : Int), (1 : Int))).bind fun x7 =>
                              Sum.elim (fun x8 => some x8)
                                (fun x8 =>
                                  bif x8.snd.snd.snd then some ((0 : Int), (1 : Int))
                                  else some (IntKind.i64.wrap (x8.fst * IntKind.i64.wrap (IntKind.i64.wrap (x8.snd.fst * (3600 : Int)) + x8.snd.snd.fst)), (0 : Int)))
                                x7
              else
                (subI s (1 : Int) (↑s.length : Int)).bind fun x3 =>
                  (F_r6parts (x3, (58 : UInt8))).bind fun x4 =>
                    (getI x4 (0 : Int)).bind fun x5 =>
                      (F_r6number (x5, (1 : Int), (3 : Int))).bind fun x6 =>
                        bif !x6.snd then some ((0 : Int), (2 : Int))
                        else
                          bif decide ((3 : Int) < (↑x4.length : Int)) then some ((0 : Int), (2 : Int))
                          else
                            (w_r6ParseClock_0 ((1 : Int), x4, x6.fst, (0 : Int), decide (m < x6.fst), (60 : Int), (1 : Int))).bind fun x7 =>
                              Sum.elim (fun x8 => some x8)
                                (fun x8 =>
                                  bif x8.snd.snd.snd then some ((0 : Int), (1 : Int))
                                  else some (IntKind.i64.wrap (x8.fst * IntKind.i64.wrap (IntKind.i64.wrap (x8.snd.fst * (3600 : Int)) + x8.snd.snd.fst)), (0 : Int)))
                                x7
          else
            (getI s (0 : Int)).bind fun x2 =>
              bif decide (x2 = (45 : UInt8)) then
                (getI s (0 : Int)).bind fun x3 =>
                  bif decide (x3 = (45 : UInt8)) then
                    (subI s (1 : Int) (↑s.length : Int)).bind fun x4 =>
                      (F_r6parts (x4, (58 : UInt8))).bind fun x5 =>
                        (getI x5 (0 : Int)).bind fun x6 =>
                          (F_r6number (x6, (1 : Int), (3 : Int))).bind fun x7 =>
                            bif !x7.snd then some ((0 : Int), (2 : Int))
                            else
                              bif decide ((3 : Int) < (↑x5.length : Int)) then some ((0 : Int), (2 : Int))
                              else
                                (w_r6ParseClock_0 ((-1 : Int), x5, x7.fst, (0 : Int), decide (m < x7.fst), (60 : Int), (1 : Int))).bind fun x8 =>
                                  Sum.elim (fun x9 => some x9)
                                    (fun x9 =>
                                      bif x9.snd.snd.snd then some ((0 : Int), (1 : Int))
                                      else some (IntKind.i64.wrap (x9.fst * IntKind.i64.wrap (IntKind.i64.wrap (x9.snd.fst * (3600 : Int)) + x9.snd.snd.fst)), (0 : Int)))
                                    x8
                  else
                    (subI s (1 : Int) (↑s.length : Int)).bind fun x4 =>
                      (F_r6parts (x4, (58 : UInt8))).bind fun x5 =>
                        (getI x5 (0 : Int)).bind fun x6 =>
                          (F_r6number (x6, (1 : Int), (3 : Int))).bind fun x7 =>
                            bif !x7.snd then some ((0 : Int), (2 : Int))
                            else
                              bif decide ((3 : Int) < (↑x5.length : Int)) then some ((0 : Int), (2 : Int))
                              else
                                (w_r6ParseClock_0 ((1 : Int), x5, x7.fst, (0 : Int), decide (m < x7.fst), (60 : Int), (1 : Int))).bind fun x8 =>
                                  Sum.elim (fun x9 => some x9)
                                    (fun x9 =>
                                      bif x9.snd.snd.snd then some ((0 : Int), (1 : Int))
                                      else some (IntKind.i64.wrap (x9.fst * IntKind.i64.wrap (IntKind.i64.wrap (x9.snd.fst * (3600 : Int)) + x9.snd.snd.fst)), (0 : Int)))
                                    x8
              else
                (F_r6parts (s, (58 : UInt8))).bind fun x3 =>
                  (getI x3 (0 : Int)).bind fun x4 =>
                    (F_r6number (x4, (1 : Int), (3 : Int))).bind fun x5 =>
                      bif !x5.snd then some ((0 : Int), (2 : Int))
                      else
                        bif decide ((3 : Int) < (↑x3.length : Int)) then some ((0 : Int), (2 : Int))
                        else
                          (w_r6ParseClock_0 ((1 : Int), x3, x5.fst, (0 : Int), decide (m < x5.fst), (60 : Int), (1 : Int))).bind fun x6 =>
                            Sum.elim (fun x7 => some x7)
                              (fun x7 =>
                                bif x7.snd.snd.snd then some ((0 : Int), (1 : Int))
                                else some (IntKind.i64.wrap (x7.fst * IntKind.i64.wrap (IntKind.i64.wrap (x7.snd.fst * (3600 : Int)) + x7.snd.snd.fst)), (0 : Int)))
                              x6
      else
        (F_r6parts (s, (58 : UInt8))).bind fun x1 =>
          (getI x1 (0 : Int)).bind fun x2 =>
            (F_r6number (x2, (1 : Int), (3 : Int))).bind fun x3 =>
              bif !x3.snd then some ((0 : Int), (2 : Int))
              else
                bif decide ((3 : Int) < (↑x1.length : Int)) then some ((0 : Int), (2 : Int))
                else
                  (w_r6ParseClock_0 ((1 : Int), x1, x3.fst, (0 : Int), decide (m < x3.fst), (60 : Int), (1 : Int))).bind fun x4 =>
                    Sum.elim (fun x5 => some x5)
                      (fun x5 =>
                        bif x5.snd.snd.snd then some ((0 : Int), (1 : Int))
                        else some (IntKind.i64.wrap (x5.fst * IntKind.i64.wrap (IntKind.i64.wrap (x5.snd.fst * (3600 : Int)) + x5.snd.snd.fst)), (0 : Int)))
                      x4) := by kernel_rfl


/-! ### horologe/horologeref16.Put -/
noncomputable abbrev ct_r6Put : List (FuncId × Bool × SpecT) := [(111, false, s_r2Raw), (76, false, s_r6Clock)]
theorem cs_r6Put : AllSound Tryd.prog ct_r6Put := ⟨so_r2Raw, so_r6Clock, trivial⟩
noncomputable def F_r6Put (x : ((Int × Int × Int × Int × Int))) : Option ((List UInt8)) := (evalF Tryd.prog (lookT ct_r6Put) (keepT []) (loopsT []) false false Tryd.f77 (codP [pRule]) 1 (codP [pS]) x).run
noncomputable abbrev s_r6Put : SpecT := specF (codP [pRule]) 1 (codP [pS]) F_r6Put
theorem so_r6Put : SoundT Tryd.prog 77 s_r6Put := soundG (P := Tryd.prog) mixed (t := ct_r6Put) cs_r6Put (f := 77) (fn := Tryd.f77) Tryd.func77 (by kernel_rfl) (by kernel_rfl) (by kernel_rfl) (ls := []) (by kernel_rfl) (kp := keepT []) (lps := loopsT []) (bump := false) (ice := false) (A := (codP [pRule])) (n := 1) (R := (codP [pS])) fun _ => lps_nil

theorem e_r6Put (r : Int × Int × Int × Int × Int) : F_r6Put r = (
  (F_r2Raw (r.snd.snd.snd.fst, (1 : Int))).bind fun x1 =>
    bif decide (r.fst = (1 : Int)) then
      bif decide ((1 : Nat) + x1.length ≤ (9223372036854775807 : Nat)) then
        bif decide (r.fst = (3 : Int)) then
          (F_r2Raw (r.snd.fst, (1 : Int))).bind fun x2 =>
            bif decide ((1 : Nat) + x2.length ≤ (9223372036854775807 : Nat)) then
              bif decide (([(77 : UInt8)] ++ x2).length + (1 : Nat) ≤ (9223372036854775807 : Nat)) then
                (F_r2Raw (r.snd.snd.fst, (1 : Int))).bind fun x3 =>
                  bif decide (([(77 : UInt8)] ++ x2 ++ [(46 : UInt8)]).length + x3.length ≤ (9223372036854775807 : Nat)) then
                    bif decide (([(77 : UInt8)] ++ x2 ++ [(46 : UInt8)] ++ x3).length + (1 : Nat) ≤ (9223372036854775807 : Nat)) then
                      bif decide (([(77 : UInt8)] ++ x2 ++ [(46 : UInt8)] ++ x3 ++ [(46 : UInt8)]).length + ([(74 : UInt8)] ++ x1).length ≤ (9223372036854775807 : Nat)) then
                        bif decide (r.snd.snd.snd.snd ≠ (7200 : Int)) then
                          (F_r6Clock r.snd.snd.snd.snd).bind fun x4 =>
                            bif decide ((1 : Nat) + x4.length ≤ (9223372036854775807 : Nat)) then
                              bif
                                  decide
                                    (([(77 : UInt8)] ++ x2 ++ [(46 : UInt8)] ++ x3 ++ [(46 : UInt8)] ++ ([(74 : UInt8)] ++ x1)).length + ([(47 : UInt8)] ++ x4).length ≤ (9223372036854775807 : Nat)) then
                                some ([(77 : UInt8)] ++ x2 ++ [(46 : UInt8)] ++ x3 ++ [(46 : UInt8)] ++ ([(74 : UInt8)] ++ x1) ++ ([(47 : UInt8)] ++ x4))
                              else none
                            else none
                        else some ([(77 : UInt8)] ++ x2 ++ [(46 : UInt8)] ++ x3 ++ [(46 : UInt8)] ++ ([(74 : UInt8)] ++ x1))
                      else none
                    else none
                  else none
              else none
            else none
        else
          bif decide (r.snd.snd.snd.snd ≠ (7200 : Int)) then
            (F_r6Clock r.snd.snd.snd.snd).bind fun x2 =>
              bif decide ((1 : Nat) + x2.length ≤ (9223372036854775807 : Nat)) then
                bif decide (([(74 : UInt8)] ++ x1).length + ([(47 : UInt8)] ++ x2).length ≤ (9223372036854775807 : Nat)) then some ([(74 : UInt8)] ++ x1 ++ ([(47 : UInt8)] ++ x2)) else none
              else none
          else some ([(74 : UInt8)] ++ x1)
      else none
    else
      bif decide (r.fst = (3 : Int)) then
        (F_r2Raw (r.snd.fst, (1 : Int))).bind fun x2 =>
          bif decide ((1 : Nat) + x2.length ≤ (9223372036854775807 : Nat)) then
            bif decide (([(77 : UInt8)] ++ x2).length + (1 : Nat) ≤ (9223372036854775807 : Nat)) then
              (F_r2Raw (r.snd.snd.fst, (1 : Int))).bind fun x3 =>
                bif decide (([(77 : UInt8)] ++ x2 ++ [(46 : UInt8)]).length + x3.length ≤ (9223372036854775807 : Nat)) then
                  bif decide (([(77 : UInt8)] ++ x2 ++ [(46 : UInt8)] ++ x3).length + (1 : Nat) ≤ (9223372036854775807 : Nat)) then
                    bif decide (([(77 : UInt8)] ++ x2 ++ [(46 : UInt8)] ++ x3 ++ [(46 : UInt8)]).length + x1.length ≤ (9223372036854775807 : Nat)) then
                      bif decide (r.snd.snd.snd.snd ≠ (7200 : Int)) then
                        (F_r6Clock r.snd.snd.snd.snd).bind fun x4 =>
                          bif decide ((1 : Nat) + x4.length ≤ (9223372036854775807 : Nat)) then
                            bif decide (([(77 : UInt8)] ++ x2 ++ [(46 : UInt8)] ++ x3 ++ [(46 : UInt8)] ++ x1).length + ([(47 : UInt8)] ++ x4).length ≤ (9223372036854775807 : Nat)) then
                              some ([(77 : UInt8)] ++ x2 ++ [(46 : UInt8)] ++ x3 ++ [(46 : UInt8)] ++ x1 ++ ([(47 : UInt8)] ++ x4))
                            else none
                          else none
                      else some ([(77 : UInt8)] ++ x2 ++ [(46 : UInt8)] ++ x3 ++ [(46 : UInt8)] ++ x1)
                    else none
                  else none
                else none
            else none
          else none
      else
        bif decide (r.snd.snd.snd.snd ≠ (7200 : Int)) then
          (F_r6Clock r.snd.snd.snd.snd).bind fun x2 =>
            bif decide ((1 : Nat) + x2.length ≤ (9223372036854775807 : Nat)) then
              bif decide (x1.length + ([(47 : UInt8)] ++ x2).length ≤ (9223372036854775807 : Nat)) then some (x1 ++ ([(47 : UInt8)] ++ x2)) else none
            else none
        else some x1) := by kernel_rfl


/-! ### horologe/horologeref16.Parse -/
noncomputable abbrev ct_r6Parse : List (FuncId × Bool × SpecT) := [(96, false, s_r6number), (95, false, s_r6parts), (49, false, s_r6ParseClock), (69, false, s_r6Check)]
theorem cs_r6Parse : AllSound Tryd.prog ct_r6Parse := ⟨so_r6number, so_r6parts, so_r6ParseClock, so_r6Check, trivial⟩
-- loop 0 (key 2) exit 0: [0, 2, 4]
-- loop 0 (key 2) exit 3: [0, 2, 4]
-- loop 1 (key 15) exit 0: [0, 2, 4, 6, 7, 8, 9]
-- loop 1 (key 15) exit 5: [0, 2, 4, 6, 7]
abbrev kp_r6Parse : Keep := keepT [(2, 0, [(0, none), (2, none), (4, none)]), (2, 3, [(0, none), (2, none), (4, none)]), (15, 0, [(0, none), (2, none), (4, none), (6, none), (7, none), (8, none), (9, none)]), (15, 5, [(0, none), (2, none), (4, none), (6, none), (7, none)])]
noncomputable abbrev b_r6Parse_0 : Code := loopAt Tryd.f50 0
noncomputable abbrev b_r6Parse_1 : Code := loopAt Tryd.f50 1
noncomputable def sp_r6Parse_0 (x : ((List UInt8) × (Int × Int × Int × Int × Int) × Int)) : Option (((List UInt8) × (Int × Int × Int × Int × Int) × Int) ⊕ ((List UInt8) × (Int × Int × Int × Int × Int) × Int)) := (stepL Tryd.prog (lookT ct_r6Parse) kp_r6Parse (loopsT []) 0 false b_r6Parse_0 (codP [pS, (.box cRule), pI]) (exO (.ext 0) (codP [pS, (.box cRule), pI])) x).run
noncomputable def w_r6Parse_0 : ((List UInt8) × (Int × Int × Int × Int × Int) × Int) → Option ((List UInt8) × (Int × Int × Int × Int × Int) × Int) := whileO sp_r6Parse_0
theorem ew_r6Parse_0 (x : ((List UInt8) × (Int × Int × Int × Int × Int) × Int)) : w_r6Parse_0 x = (sp_r6Parse_0 x).bind (Sum.elim w_r6Parse_0 some) := whileO_eq _ _
noncomputable abbrev l_r6Parse_0 : LT := ltF (codP [pS, (.box cRule), pI]) (exO (.ext 0) (codP [pS, (.box cRule), pI])) w_r6Parse_0
theorem lo_r6Parse_0 : LoopOk Tryd.prog Tryd.f50.ntmps kp_r6Parse 0 false b_r6Parse_0 l_r6Parse_0 := loopG mixed cs_r6Parse (lps := loopsT []) (by kernel_rfl) (ls := []) (by kernel_rfl) lps_nil
noncomputable def F_r6Parse (x : ((List UInt8))) : Option ((Int × Int × Int × Int × Int) × Int) := (evalF Tryd.prog (lookT ct_r6Parse) (kp_r6Parse) (loopsT [(2, l_r6Parse_0)]) false false Tryd.f50 (codP [pS]) 2 (codP [pRule, pI]) x).run
noncomputable abbrev s_r6Parse : SpecT := specF (codP [pS]) 2 (codP [pRule, pI]) F_r6Parse
theorem so_r6Parse : SoundT Tryd.prog 50 s_r6Parse := soundG (P := Tryd.prog) mixed (t := ct_r6Parse) cs_r6Parse (f := 50) (fn := Tryd.f50) Tryd.func50 (by kernel_rfl) (by kernel_rfl) (by kernel_rfl) (ls := [b_r6Parse_0, b_r6Parse_1]) (by kernel_rfl) (kp := kp_r6Parse) (lps := loopsT [(2, l_r6Parse_0)]) (bump := false) (ice := false) (A := (codP [pS])) (n := 2) (R := (codP [pRule, pI])) fun _ => (lps_cons l_r6Parse_0 (by kernel_rfl) lo_r6Parse_0 (lps_skip (by kernel_rfl) lps_nil))

theorem es_r6Parse_0 (s : List UInt8) (k m w d t i : Int) : sp_r6Parse_0 (s, (k, m, w, d, t), i) = (
  bif decide (i < (↑s.length : Int)) then
    (getI s i).bind fun x1 => bif decide (x1 ≠ (47 : UInt8)) then some (Sum.inl (s, (k, m, w, d, t), IntKind.i64.wrap (i + (1 : Int)))) else some (Sum.inr (s, (k, m, w, d, t), i))
  else some (Sum.inr (s, (k, m, w, d, t), i))) := by kernel_rfl

theorem e_r6Parse (s : List UInt8) : F_r6Parse s = (
  (w_r6Parse_0 (s, ((0 : Int), (0 : Int), (0 : Int), (0 : Int), (0 : Int)), (0 : Int))).bind fun x1 =>
    (subI x1.fst (0 : Int) x1.snd.snd).bind fun x2 =>
      bif decide ((0 : Int) < (↑x2.length : Int)) then
        (getI x2 (0 : Int)).bind fun x3 =>
          bif decide (x3 = (74 : UInt8)) then
            (subI x2 (1 : Int) (↑x2.length : Int)).bind fun x4 =>
              (F_r6number (x4, (1 : Int), (3 : Int))).bind fun x5 =>
                bif !x5.snd then some (((0 : Int), (0 : Int), (0 : Int), (0 : Int), (0 : Int)), (2 : Int))
                else
                  bif decide (x1.snd.snd < (↑(List.length x1.fst) : Int)) then
                    (subI x1.fst (IntKind.i64.wrap (x1.snd.snd + (1 : Int))) (↑(List.length x1.fst) : Int)).bind fun x6 =>
                      (F_r6ParseClock (x6, (167 : Int))).bind fun x7 =>
                        bif decide (x7.snd ≠ (0 : Int)) then some (((0 : Int), (0 : Int), (0 : Int), (0 : Int), (0 : Int)), x7.snd)
                        else
                          (F_r6Check ((1 : Int), (0 : Int), (0 : Int), x5.fst, x7.fst)).bind fun x8 =>
                            bif decide (x8 ≠ (0 : Int)) then some (((0 : Int), (0 : Int), (0 : Int), (0 : Int), (0 : Int)), x8) else some (((1 : Int), (0 : Int), (0 : Int), x5.fst, x7.fst), (0 : Int))
                  else
                    (F_r6Check ((1 : Int), (0 : Int), (0 : Int), x5.fst, (7200 : Int))).bind fun x6 =>
                      bif decide (x6 ≠ (0 : Int)) then some (((0 : Int), (0 : Int), (0 : Int), (0 : Int), (0 : Int)), x6) else some (((1 : Int), (0 : Int), (0 : Int), x5.fst, (7200 : Int)), (0 : Int))
          else
            bif decide ((0 : Int) < (↑x2.length : Int)) then
              (getI x2 (0 : Int)).bind fun x4 =>
                bif decide (x4 = (77 : UInt8)) then
                  (subI x2 (1 : Int) (↑x2.length : Int)).bind fun x5 =>
                    (F_r6parts (x5, (46 : UInt8))).bind fun x6 =>
                      bif decide ((↑x6.length : Int) = (3 : Int)) then
                        (getI x6 (0 : Int)).bind fun x7 =>
                          (F_r6number (x7, (1 : Int), (2 : Int))).bind fun x8 =>
                            bif x8.snd then
                              (getI x6 (1 : Int)).bind fun x9 =>
                                (F_r6number (x9, (1 : Int), (1 : Int))).bind fun x10 =>
                                  bif x10.snd then
                                    (getI x6 (2 : Int)).bind fun x11 =>
                                      (F_r6number (x11, (1 : Int), (1 : Int))).bind fun x12 =>
                                        bif !x12.snd then some (((0 : Int), (0 : Int), (0 : Int), (0 : Int), (0 : Int)), (2 : Int))
                                        else
                                          bif decide (x1.snd.snd < (↑(List.length x1.fst) : Int)) then
                                            (subI x1.fst (IntKind.i64.wrap (x1.snd.snd + (1 : Int))) (↑(List.length x1.fst) : Int)).bind fun x13 =>
                                              (F_r6ParseClock (x13, (167 : Int))).bind fun x14 =>
                                                bif decide (x14.snd ≠ (0 : Int)) then some (((0 : Int), (0 : Int), (0 : Int), (0 : Int), (0 : Int)), x14.snd)
                                                else
                                                  (F_r6Check ((3 : Int), x8.fst, x10.fst, x12.fst, x14.fst)).bind fun x15 =>
                                                    bif decide (x15 ≠ (0 : Int)) then some (((0 : Int), (0 : Int), (0 : Int), (0 : Int), (0 : Int)), x15)
                                                    else some (((3 : Int), x8.fst, x10.fst, x12.fst, x14.fst), (0 : Int))
                                          else
                                            (F_r6Check ((3 : Int), x8.fst, x10.fst, x12.fst, (7200 : Int))).bind fun x13 =>
                                              bif decide (x13 ≠ (0 : Int)) then some (((0 : Int), (0 : Int), (0 : Int), (0 : Int), (0 : Int)), x13)
                                              else some (((3 : Int), x8.fst, x10.fst, x12.fst, (7200 : Int)), (0 : Int))
                                  else
                                    bif !x10.snd then some (((0 : Int), (0 : Int), (0 : Int), (0 : Int), (0 : Int)), (2 : Int))
                                    else
                                      bif decide (x1.snd.snd < (↑(List.length x1.fst) : Int)) then
                                        (subI x1.fst (IntKind.i64.wrap (x1.snd.snd + (1 : Int))) (↑(List.length x1.fst) : Int)).bind fun x11 =>
                                          (F_r6ParseClock (x11, (167 : Int))).bind fun x12 =>
                                            bif decide (x12.snd ≠ (0 : Int)) then some (((0 : Int), (0 : Int), (0 : Int), (0 : Int), (0 : Int)), x12.snd)
                                            else
                                              (F_r6Check ((3 : Int), x8.fst, x10.fst, (0 : Int), x12.fst)).bind fun x13 =>
                                                bif decide (x13 ≠ (0 : Int)) then some (((0 : Int), (0 : Int), (0 : Int), (0 : Int), (0 : Int)), x13)
                                                else some (((3 : Int), x8.fst, x10.fst, (0 : Int), x12.fst), (0 : Int))
                                      else
                                        (F_r6Check ((3 : Int), x8.fst, x10.fst, (0 : Int), (7200 : Int))).bind fun x11 =>
                                          bif decide (x11 ≠ (0 : Int)) then some (((0 : Int), (0 : Int), (0 : Int), (0 : Int), (0 : Int)), x11)
                                          else some (((3 : Int), x8.fst, x10.fst, (0 : Int), (7200 : Int)), (0 : Int))
                            else
                              bif !x8.snd then some (((0 : Int), (0 : Int), (0 : Int), (0 : Int), (0 : Int)), (2 : Int))
                              else
                                bif decide (x1.snd.snd < (↑(List.length x1.fst) : Int)) then
                                  (subI x1.fst (IntKind.i64.wrap (x1.snd.snd + (1 : Int))) (↑(List.length x1.fst) : Int)).bind fun x9 =>
                                    (F_r6ParseClock (x9, (167 : Int))).bind fun x10 =>
                                      bif decide (x10.snd ≠ (0 : Int)) then some (((0 : Int), (0 : Int), (0 : Int), (0 : Int), (0 : Int)), x10.snd)
                                      else
                                        (F_r6Check ((3 : Int), x8.fst, (0 : Int), (0 : Int), x10.fst)).bind fun x11 =>
                                          bif decide (x11 ≠ (0 : Int)) then some (((0 : Int), (0 : Int), (0 : Int), (0 : Int), (0 : Int)), x11)
                                          else some (((3 : Int), x8.fst, (0 : Int), (0 : Int), x10.fst), (0 : Int))
                                else
                                  (F_r6Check ((3 : Int), x8.fst, (0 : Int), (0 : Int), (7200 : Int))).bind fun x9 =>
                                    bif decide (x9 ≠ (0 : Int)) then some (((0 : Int), (0 : Int), (0 : Int), (0 : Int), (0 : Int)), x9)
                                    else some (((3 : Int), x8.fst, (0 : Int), (0 : Int), (7200 : Int)), (0 : Int))
                      else
                        bif !decide ((↑x6.length : Int) = (3 : Int)) then some (((0 : Int), (0 : Int), (0 : Int), (0 : Int), (0 : Int)), (2 : Int))
                        else
                          bif decide (x1.snd.snd < (↑(List.length x1.fst) : Int)) then
                            (subI x1.fst (IntKind.i64.wrap (x1.snd.snd + (1 : Int))) (↑(List.length x1.fst) : Int)).bind fun x7 =>
                              (F_r6ParseClock (x7, (167 : Int))).bind fun x8 =>
                                bif decide (x8.snd ≠ (0 : Int)) then some (((0 : Int), (0 : Int), (0 : Int), (0 : Int), (0 : Int)), x8.snd)
                                else
                                  (F_r6Check ((3 : Int), (0 : Int), (0 : Int), (0 : Int), x8.fst)).bind fun x9 =>
                                    bif decide (x9 ≠ (0 : Int)) then some (((0 : Int), (0 : Int), (0 : Int), (0 : Int), (0 : Int)), x9)
                                    else some (((3 : Int), (0 : Int), (0 : Int), (0 : Int), x8.fst), (0 : Int))
                          else
                            (F_r6Check ((3 : Int), (0 : Int), (0 : Int), (0 : Int), (7200 : Int))).bind fun x7 =>
                              bif decide (x7 ≠ (0 : Int)) then some (((0 : Int), (0 : Int), (0 : Int), (0 : Int), (0 : Int)), x7)
                              else some (((3 : Int), (0 : Int), (0 : Int), (0 : Int), (7200 : Int)), (0 : Int))
                else
                  (F_r6number (x2, (1 : Int), (3 : Int))).bind fun x5 =>
                    bif !x5.snd then some (((0 : Int), (0 : Int), (0 : Int), (0 : Int), (0 : Int)), (2 : Int))
                    else
                      bif decide (x1.snd.snd < (↑(List.length x1.fst) : Int)) then
                        (subI x1.fst (IntKind.i64.wrap (x1.snd.snd + (1 : Int))) (↑(List.length x1.fst) : Int)).bind fun x6 =>
                          (F_r6ParseClock (x6, (167 : Int))).bind fun x7 =>
                            bif decide (x7.snd ≠ (0 : Int)) then some (((0 : Int), (0 : Int), (0 : Int), (0 : Int), (0 : Int)), x7.snd)
                            else
                              (F_r6Check ((2 : Int), (0 : Int), (0 : Int), x5.fst, x7.fst)).bind fun x8 =>
                                bif decide (x8 ≠ (0 : Int)) then some (((0 : Int), (0 : Int), (0 : Int), (0 : Int), (0 : Int)), x8)
                                else some (((2 : Int), (0 : Int), (0 : Int), x5.fst, x7.fst), (0 : Int))
                      else
                        (F_r6Check ((2 : Int), (0 : Int), (0 : Int), x5.fst, (7200 : Int))).bind fun x6 =>
                          bif decide (x6 ≠ (0 : Int)) then some (((0 : Int), (0 : Int), (0 : Int), (0 : Int), (0 : Int)), x6)
                          else some (((2 : Int), (0 : Int), (0 : Int), x5.fst, (7200 : Int)), (0 : Int))
            else
              (F_r6number (x2, (1 : Int), (3 : Int))).bind fun x4 =>
                bif !x4.snd then some (((0 : Int), (0 : Int), (0 : Int), (0 : Int), (0 : Int)), (2 : Int))
                else
                  bif decide (x1.snd.snd < (↑(List.length x1.fst) : Int)) then
                    (subI x1.fst (IntKind.i64.wrap (x1.snd.snd + (1 : Int))) (↑(List.length x1.fst) : Int)).bind fun x5 =>
                      (F_r6ParseClock (x5, (167 : Int))).bind fun x6 =>
                        bif decide (x6.snd ≠ (0 : Int)) then some (((0 : Int), (0 : Int), (0 : Int), (0 : Int), (0 : Int)), x6.snd)
                        else
                          (F_r6Check ((2 : Int), (0 : Int), (0 : Int), x4.fst, x6.fst)).bind fun x7 =>
                            bif decide (x7 ≠ (0 : Int)) then some (((0 : Int), (0 : Int), (0 : Int), (0 : Int), (0 : Int)), x7) else some (((2 : Int), (0 : Int), (0 : Int), x4.fst, x6.fst), (0 : Int))
                  else
                    (F_r6Check ((2 : Int), (0 : Int), (0 : Int), x4.fst, (7200 : Int))).bind fun x5 =>
                      bif decide (x5 ≠ (0 : Int)) then some (((0 : Int), (0 : Int), (0 : Int), (0 : Int), (0 : Int)), x5) else some (((2 : Int), (0 : Int), (0 : Int), x4.fst, (7200 : Int)), (0 : Int))
      else
        bif decide ((0 : Int) < (↑x2.length : Int)) then
          (getI x2 (0 : Int)).bind fun x3 =>
            bif decide (x3 = (77 : UInt8)) then
              (subI x2 (1 : Int) (↑x2.length : Int)).bind fun x4 =>
                (F_r6parts (x4, (46 : UInt8))).bind fun x5 =>
                  bif decide ((↑x5.length : Int) = (3 : Int)) then
                    (getI x5 (0 : Int)).bind fun x6 =>
                      (F_r6number (x6, (1 : Int), (2 : Int))).bind fun x7 =>
                        bif x7.snd then
                          (getI x5 (1 : Int)).bind fun x8 =>
                            (F_r6number (x8, (1 : Int), (1 : Int))).bind fun x9 =>
                              bif x9.snd then
                                (getI x5 (2 : Int)).bind fun x10 =>
                                  (F_r6number (x10, (1 : Int), (1 : Int))).bind fun x11 =>
                                    bif !x11.snd then some (((0 : Int), (0 : Int), (0 : Int), (0 : Int), (0 : Int)), (2 : Int))
                                    else
                                      bif decide (x1.snd.snd < (↑(List.length x1.fst) : Int)) then
                                        (subI x1.fst (IntKind.i64.wrap (x1.snd.snd + (1 : Int))) (↑(List.length x1.fst) : Int)).bind fun x12 =>
                                          (F_r6ParseClock (x12, (167 : Int))).bind fun x13 =>
                                            bif decide (x13.snd ≠ (0 : Int)) then some (((0 : Int), (0 : Int), (0 : Int), (0 : Int), (0 : Int)), x13.snd)
                                            else
                                              (F_r6Check ((3 : Int), x7.fst, x9.fst, x11.fst, x13.fst)).bind fun x14 =>
                                                bif decide (x14 ≠ (0 : Int)) then some (((0 : Int), (0 : Int), (0 : Int), (0 : Int), (0 : Int)), x14)
                                                else some (((3 : Int), x7.fst, x9.fst, x11.fst, x13.fst), (0 : Int))
                                      else
                                        (F_r6Check ((3 : Int), x7.fst, x9.fst, x11.fst, (7200 : Int))).bind fun x12 =>
                                          bif decide (x12 ≠ (0 : Int)) then some (((0 : Int), (0 : Int), (0 : Int), (0 : Int), (0 : Int)), x12)
                                          else some (((3 : Int), x7.fst, x9.fst, x11.fst, (7200 : Int)), (0 : Int))
                              else
                                bif !x9.snd then some (((0 : Int), (0 : Int), (0 : Int), (0 : Int), (0 : Int)), (2 : Int))
                                else
                                  bif decide (x1.snd.snd < (↑(List.length x1.fst) : Int)) then
                                    (subI x1.fst (IntKind.i64.wrap (x1.snd.snd + (1 : Int))) (↑(List.length x1.fst) : Int)).bind fun x10 =>
                                      (F_r6ParseClock (x10, (167 : Int))).bind fun x11 =>
                                        bif decide (x11.snd ≠ (0 : Int)) then some (((0 : Int), (0 : Int), (0 : Int), (0 : Int), (0 : Int)), x11.snd)
                                        else
                                          (F_r6Check ((3 : Int), x7.fst, x9.fst, (0 : Int), x11.fst)).bind fun x12 =>
                                            bif decide (x12 ≠ (0 : Int)) then some (((0 : Int), (0 : Int), (0 : Int), (0 : Int), (0 : Int)), x12)
                                            else some (((3 : Int), x7.fst, x9.fst, (0 : Int), x11.fst), (0 : Int))
                                  else
                                    (F_r6Check ((3 : Int), x7.fst, x9.fst, (0 : Int), (7200 : Int))).bind fun x10 =>
                                      bif decide (x10 ≠ (0 : Int)) then some (((0 : Int), (0 : Int), (0 : Int), (0 : Int), (0 : Int)), x10)
                                      else some (((3 : Int), x7.fst, x9.fst, (0 : Int), (7200 : Int)), (0 : Int))
                        else
                          bif !x7.snd then some (((0 : Int), (0 : Int), (0 : Int), (0 : Int), (0 : Int)), (2 : Int))
                          else
                            bif decide (x1.snd.snd < (↑(List.length x1.fst) : Int)) then
                              (subI x1.fst (IntKind.i64.wrap (x1.snd.snd + (1 : Int))) (↑(List.length x1.fst) : Int)).bind fun x8 =>
                                (F_r6ParseClock (x8, (167 : Int))).bind fun x9 =>
                                  bif decide (x9.snd ≠ (0 : Int)) then some (((0 : Int), (0 : Int), (0 : Int), (0 : Int), (0 : Int)), x9.snd)
                                  else
                                    (F_r6Check ((3 : Int), x7.fst, (0 : Int), (0 : Int), x9.fst)).bind fun x10 =>
                                      bif decide (x10 ≠ (0 : Int)) then some (((0 : Int), (0 : Int), (0 : Int), (0 : Int), (0 : Int)), x10)
                                      else some (((3 : Int), x7.fst, (0 : Int), (0 : Int), x9.fst), (0 : Int))
                            else
                              (F_r6Check ((3 : Int), x7.fst, (0 : Int), (0 : Int), (7200 : Int))).bind fun x8 =>
                                bif decide (x8 ≠ (0 : Int)) then some (((0 : Int), (0 : Int), (0 : Int), (0 : Int), (0 : Int)), x8)
                                else some (((3 : Int), x7.fst, (0 : Int), (0 : Int), (7200 : Int)), (0 : Int))
                  else
                    bif !decide ((↑x5.length : Int) = (3 : Int)) then some (((0 : Int), (0 : Int), (0 : Int), (0 : Int), (0 : Int)), (2 : Int))
                    else
                      bif decide (x1.snd.snd < (↑(List.length x1.fst) : Int)) then
                        (subI x1.fst (IntKind.i64.wrap (x1.snd.snd + (1 : Int))) (↑(List.length x1.fst) : Int)).bind fun x6 =>
                          (F_r6ParseClock (x6, (167 : Int))).bind fun x7 =>
                            bif decide (x7.snd ≠ (0 : Int)) then some (((0 : Int), (0 : Int), (0 : Int), (0 : Int), (0 : Int)), x7.snd)
                            else
                              (F_r6Check ((3 : Int), (0 : Int), (0 : Int), (0 : Int), x7.fst)).bind fun x8 =>
                                bif decide (x8 ≠ (0 : Int)) then some (((0 : Int), (0 : Int), (0 : Int), (0 : Int), (0 : Int)), x8)
                                else some (((3 : Int), (0 : Int), (0 : Int), (0 : Int), x7.fst), (0 : Int))
                      else
                        (F_r6Check ((3 : Int), (0 : Int), (0 : Int), (0 : Int), (7200 : Int))).bind fun x6 =>
                          bif decide (x6 ≠ (0 : Int)) then some (((0 : Int), (0 : Int), (0 : Int), (0 : Int), (0 : Int)), x6)
                          else some (((3 : Int), (0 : Int), (0 : Int), (0 : Int), (7200 : Int)), (0 : Int))
            else
              (F_r6number (x2, (1 : Int), (3 : Int))).bind fun x4 =>
                bif !x4.snd then some (((0 : Int), (0 : Int), (0 : Int), (0 : Int), (0 : Int)), (2 : Int))
                else
                  bif decide (x1.snd.snd < (↑(List.length x1.fst) : Int)) then
                    (subI x1.fst (IntKind.i64.wrap (x1.snd.snd + (1 : Int))) (↑(List.length x1.fst) : Int)).bind fun x5 =>
                      (F_r6ParseClock (x5, (167 : Int))).bind fun x6 =>
                        bif decide (x6.snd ≠ (0 : Int)) then some (((0 : Int), (0 : Int), (0 : Int), (0 : Int), (0 : Int)), x6.snd)
                        else
                          (F_r6Check ((2 : Int), (0 : Int), (0 : Int), x4.fst, x6.fst)).bind fun x7 =>
                            bif decide (x7 ≠ (0 : Int)) then some (((0 : Int), (0 : Int), (0 : Int), (0 : Int), (0 : Int)), x7) else some (((2 : Int), (0 : Int), (0 : Int), x4.fst, x6.fst), (0 : Int))
                  else
                    (F_r6Check ((2 : Int), (0 : Int), (0 : Int), x4.fst, (7200 : Int))).bind fun x5 =>
                      bif decide (x5 ≠ (0 : Int)) then some (((0 : Int), (0 : Int), (0 : Int), (0 : Int), (0 : Int)), x5) else some (((2 : Int), (0 : Int), (0 : Int), x4.fst, (7200 : Int)), (0 : Int))
        else
          (F_r6number (x2, (1 : Int), (3 : Int))).bind fun x3 =>
            bif !x3.snd then some (((0 : Int), (0 : Int), (0 : Int), (0 : Int), (0 : Int)), (2 : Int))
            else
              bif decide (x1.snd.snd < (↑(List.length x1.fst) : Int)) then
                (subI x1.fst (IntKind.i64.wrap (x1.snd.snd + (1 : Int))) (↑(List.length x1.fst) : Int)).bind fun x4 =>
                  (F_r6ParseClock (x4, (167 : Int))).bind fun x5 =>
                    bif decide (x5.snd ≠ (0 : Int)) then some (((0 : Int), (0 : Int), (0 : Int), (0 : Int), (0 : Int)), x5.snd)
                    else
                      (F_r6Check ((2 : Int), (0 : Int), (0 : Int), x3.fst, x5.fst)).bind fun x6 =>
                        bif decide (x6 ≠ (0 : Int)) then some (((0 : Int), (0 : Int), (0 : Int), (0 : Int), (0 : Int)), x6) else some (((2 : Int), (0 : Int), (0 : Int), x3.fst, x5.fst), (0 : Int))
              else
                (F_r6Check ((2 : Int), (0 : Int), (0 : Int), x3.fst, (7200 : Int))).bind fun x4 =>
                  bif decide (x4 ≠ (0 : Int)) then some (((0 : Int), (0 : Int), (0 : Int), (0 : Int), (0 : Int)), x4) else some (((2 : Int), (0 : Int), (0 : Int), x3.fst, (7200 : Int)), (0 : Int))) := by kernel_rfl


/-! ### horologe/horologeref17.letter -/
noncomputable abbrev ct_r7letter : List (FuncId × Bool × SpecT) := []
theorem cs_r7letter : AllSound Tryd.prog ct_r7letter := trivial
noncomputable def F_r7letter (x : (UInt8)) : Option (Bool) := (evalF Tryd.prog (lookT ct_r7letter) (keepT []) (loopsT []) false false Tryd.f79 (codP [pU]) 1 (codP [pB]) x).run
noncomputable abbrev s_r7letter : SpecT := specF (codP [pU]) 1 (codP [pB]) F_r7letter
theorem so_r7letter : SoundT Tryd.prog 79 s_r7letter := soundG (P := Tryd.prog) mixed (t := ct_r7letter) cs_r7letter (f := 79) (fn := Tryd.f79) Tryd.func79 (by kernel_rfl) (by kernel_rfl) (by kernel_rfl) (ls := []) (by kernel_rfl) (kp := keepT []) (lps := loopsT []) (bump := false) (ice := false) (A := (codP [pU])) (n := 1) (R := (codP [pB])) fun _ => lps_nil

theorem e_r7letter (b : UInt8) : F_r7letter b = (
  bif decide ((65 : UInt8) ≤ b) then bif decide (b ≤ (90 : UInt8)) then some true else bif decide ((97 : UInt8) ≤ b) then some (decide (b ≤ (122 : UInt8))) else some false
  else bif decide ((97 : UInt8) ≤ b) then some (decide (b ≤ (122 : UInt8))) else some false) := by kernel_rfl


/-! ### horologe/horologeref17.figure -/
noncomputable abbrev ct_r7figure : List (FuncId × Bool × SpecT) := []
theorem cs_r7figure : AllSound Tryd.prog ct_r7figure := trivial
noncomputable def F_r7figure (x : (UInt8)) : Option (Bool) := (evalF Tryd.prog (lookT ct_r7figure) (keepT []) (loopsT []) false false Tryd.f80 (codP [pU]) 1 (codP [pB]) x).run
noncomputable abbrev s_r7figure : SpecT := specF (codP [pU]) 1 (codP [pB]) F_r7figure
theorem so_r7figure : SoundT Tryd.prog 80 s_r7figure := soundG (P := Tryd.prog) mixed (t := ct_r7figure) cs_r7figure (f := 80) (fn := Tryd.f80) Tryd.func80 (by kernel_rfl) (by kernel_rfl) (by kernel_rfl) (ls := []) (by kernel_rfl) (kp := keepT []) (lps := loopsT []) (bump := false) (ice := false) (A := (codP [pU])) (n := 1) (R := (codP [pB])) fun _ => lps_nil

theorem e_r7figure (b : UInt8) : F_r7figure b = (
  bif decide ((48 : UInt8) ≤ b) then some (decide (b ≤ (57 : UInt8))) else some false) := by kernel_rfl


/-! ### horologe/horologeref17.Name -/
noncomputable abbrev ct_r7Name : List (FuncId × Bool × SpecT) := [(79, false, s_r7letter), (80, false, s_r7figure)]
theorem cs_r7Name : AllSound Tryd.prog ct_r7Name := ⟨so_r7letter, so_r7figure, trivial⟩
-- loop 0 (key 2) exit 0: [0, 3]
-- loop 0 (key 2) exit 2: [2]
-- loop 0 (key 2) exit 3: [0]
abbrev kp_r7Name : Keep := keepT [(2, 0, [(0, none), (3, none)]), (2, 2, [(2, none)]), (2, 3, [(0, none)])]
noncomputable abbrev b_r7Name_0 : Code := loopAt Tryd.f35 0
noncomputable def sp_r7Name_0 (x : ((List UInt8) × Int)) : Option (((List UInt8) × Int) ⊕ ((Bool) ⊕ ((List UInt8)))) := (stepL Tryd.prog (lookT ct_r7Name) kp_r7Name (loopsT []) 0 false b_r7Name_0 (codP [pS, pI]) (exS (exO .ret (codP [pB])) (exO (.ext 0) (codP [pS]))) x).run
noncomputable def w_r7Name_0 : ((List UInt8) × Int) → Option ((Bool) ⊕ ((List UInt8))) := whileO sp_r7Name_0
theorem ew_r7Name_0 (x : ((List UInt8) × Int)) : w_r7Name_0 x = (sp_r7Name_0 x).bind (Sum.elim w_r7Name_0 some) := whileO_eq _ _
noncomputable abbrev l_r7Name_0 : LT := ltF (codP [pS, pI]) (exS (exO .ret (codP [pB])) (exO (.ext 0) (codP [pS]))) w_r7Name_0
theorem lo_r7Name_0 : LoopOk Tryd.prog Tryd.f35.ntmps kp_r7Name 0 false b_r7Name_0 l_r7Name_0 := loopG mixed cs_r7Name (lps := loopsT []) (by kernel_rfl) (ls := []) (by kernel_rfl) lps_nil
noncomputable def F_r7Name (x : ((List UInt8))) : Option (Bool) := (evalF Tryd.prog (lookT ct_r7Name) (kp_r7Name) (loopsT [(2, l_r7Name_0)]) false false Tryd.f35 (codP [pS]) 1 (codP [pB]) x).run
noncomputable abbrev s_r7Name : SpecT := specF (codP [pS]) 1 (codP [pB]) F_r7Name
theorem so_r7Name : SoundT Tryd.prog 35 s_r7Name := soundG (P := Tryd.prog) mixed (t := ct_r7Name) cs_r7Name (f := 35) (fn := Tryd.f35) Tryd.func35 (by kernel_rfl) (by kernel_rfl) (by kernel_rfl) (ls := [b_r7Name_0]) (by kernel_rfl) (kp := kp_r7Name) (lps := loopsT [(2, l_r7Name_0)]) (bump := false) (ice := false) (A := (codP [pS])) (n := 1) (R := (codP [pB])) fun _ => (lps_cons l_r7Name_0 (by kernel_rfl) lo_r7Name_0 lps_nil)

theorem es_r7Name_0 (s : List UInt8) (i : Int) : sp_r7Name_0 (s, i) = (
  bif decide (i < (↑s.length : Int)) then
    (getI s i).bind fun x1 =>
      (F_r7letter x1).bind fun x2 =>
        bif !x2 then
          (getI s i).bind fun x3 =>
            (F_r7figure x3).bind fun x4 =>
              bif !x4 then
                (getI s i).bind fun x5 =>
                  bif decide (x5 ≠ (43 : UInt8)) then
                    (getI s i).bind fun x6 => bif decide (x6 ≠ (45 : UInt8)) then some (Sum.inr (Sum.inl false)) else some (Sum.inl (s, IntKind.i64.wrap (i + (1 : Int))))
                  else some (Sum.inl (s, IntKind.i64.wrap (i + (1 : Int))))
              else some (Sum.inl (s, IntKind.i64.wrap (i + (1 : Int))))
        else some (Sum.inl (s, IntKind.i64.wrap (i + (1 : Int))))
  else some (Sum.inr (Sum.inr s))) := by kernel_rfl

theorem e_r7Name (s : List UInt8) : F_r7Name s = (
  (w_r7Name_0 (s, (0 : Int))).bind fun x1 => Sum.elim (fun x2 => some x2) (fun x2 => bif decide ((3 : Int) ≤ (↑x2.length : Int)) then some (decide ((↑x2.length : Int) ≤ (16 : Int))) else some false) x1) := by kernel_rfl


/-! ### horologe/horologeref17.Check -/
noncomputable abbrev ct_r7Check : List (FuncId × Bool × SpecT) := [(35, false, s_r7Name), (69, false, s_r6Check)]
theorem cs_r7Check : AllSound Tryd.prog ct_r7Check := ⟨so_r7Name, so_r6Check, trivial⟩
noncomputable def F_r7Check (x : ((List UInt8 × List UInt8 × Int × Int × (Int × Int × Int × Int × Int) × (Int × Int × Int × Int × Int)))) : Option (Int) := (evalF Tryd.prog (lookT ct_r7Check) (keepT []) (loopsT []) false false Tryd.f30 (codP [pPlan]) 1 (codP [pI]) x).run
noncomputable abbrev s_r7Check : SpecT := specF (codP [pPlan]) 1 (codP [pI]) F_r7Check
theorem so_r7Check : SoundT Tryd.prog 30 s_r7Check := soundG (P := Tryd.prog) mixed (t := ct_r7Check) cs_r7Check (f := 30) (fn := Tryd.f30) Tryd.func30 (by kernel_rfl) (by kernel_rfl) (by kernel_rfl) (ls := []) (by kernel_rfl) (kp := keepT []) (lps := loopsT []) (bump := false) (ice := false) (A := (codP [pPlan])) (n := 1) (R := (codP [pI])) fun _ => lps_nil

theorem e_r7Check (p : List UInt8 × List UInt8 × Int × Int × (Int × Int × Int × Int × Int) × (Int × Int × Int × Int × Int)) : F_r7Check p = (
  (F_r7Name p.fst).bind fun x1 =>
    bif !x1 then some (2 : Int)
    else
      bif decide ((↑(List.length p.snd.fst) : Int) = (0 : Int)) then
        bif decide (p.snd.snd.snd.fst ≠ (0 : Int)) then some (2 : Int)
        else
          bif
              !(decide (p.snd.snd.snd.snd.fst.fst = (0 : Int)) &&
                  (decide (p.snd.snd.snd.snd.fst.snd.fst = (0 : Int)) &&
                    (decide (p.snd.snd.snd.snd.fst.snd.snd.fst = (0 : Int)) &&
                      (decide (p.snd.snd.snd.snd.fst.snd.snd.snd.fst = (0 : Int)) && (decide (p.snd.snd.snd.snd.fst.snd.snd.snd.snd = (0 : Int)) && true))))) then
            some (2 : Int)
          else
            bif
                !(decide (p.snd.snd.snd.snd.snd.fst = (0 : Int)) &&
                    (decide (p.snd.snd.snd.snd.snd.snd.fst = (0 : Int)) &&
                      (decide (p.snd.snd.snd.snd.snd.snd.snd.fst = (0 : Int)) &&
                        (decide (p.snd.snd.snd.snd.snd.snd.snd.snd.fst = (0 : Int)) && (decide (p.snd.snd.snd.snd.snd.snd.snd.snd.snd = (0 : Int)) && true))))) then
              some (2 : Int)
            else
              bif decide ((0 : Int) < (↑(List.length p.snd.fst) : Int)) then
                (F_r7Name p.snd.fst).bind fun x2 =>
                  bif !x2 then some (2 : Int)
                  else
                    bif decide (p.snd.snd.fst < (-89999 : Int)) then some (1 : Int)
                    else
                      bif decide ((89999 : Int) < p.snd.snd.fst) then some (1 : Int)
                      else
                        bif decide (p.snd.snd.snd.fst < (-89999 : Int)) then some (1 : Int)
                        else
                          bif decide ((89999 : Int) < p.snd.snd.snd.fst) then some (1 : Int)
                          else
                            bif decide ((↑(List.length p.snd.fst) : Int) = (0 : Int)) then some (0 : Int)
                            else (F_r6Check p.snd.snd.snd.snd.fst).bind fun x3 => bif decide (x3 ≠ (0 : Int)) then some x3 else (F_r6Check p.snd.snd.snd.snd.snd).bind fun x4 => some x4
              else
                bif decide (p.snd.snd.fst < (-89999 : Int)) then some (1 : Int)
                else
                  bif decide ((89999 : Int) < p.snd.snd.fst) then some (1 : Int)
                  else
                    bif decide (p.snd.snd.snd.fst < (-89999 : Int)) then some (1 : Int)
                    else
                      bif decide ((89999 : Int) < p.snd.snd.snd.fst) then some (1 : Int)
                      else
                        bif decide ((↑(List.length p.snd.fst) : Int) = (0 : Int)) then some (0 : Int)
                        else (F_r6Check p.snd.snd.snd.snd.fst).bind fun x2 => bif decide (x2 ≠ (0 : Int)) then some x2 else (F_r6Check p.snd.snd.snd.snd.snd).bind fun x3 => some x3
      else
        bif decide ((0 : Int) < (↑(List.length p.snd.fst) : Int)) then
          (F_r7Name p.snd.fst).bind fun x2 =>
            bif !x2 then some (2 : Int)
            else
              bif decide (p.snd.snd.fst < (-89999 : Int)) then some (1 : Int)
              else
                bif decide ((89999 : Int) < p.snd.snd.fst) then some (1 : Int)
                else
                  bif decide (p.snd.snd.snd.fst < (-89999 : Int)) then some (1 : Int)
                  else
                    bif decide ((89999 : Int) < p.snd.snd.snd.fst) then some (1 : Int)
                    else
                      bif decide ((↑(List.length p.snd.fst) : Int) = (0 : Int)) then some (0 : Int)
                      else (F_r6Check p.snd.snd.snd.snd.fst).bind fun x3 => bif decide (x3 ≠ (0 : Int)) then some x3 else (F_r6Check p.snd.snd.snd.snd.snd).bind fun x4 => some x4
        else
          bif decide (p.snd.snd.fst < (-89999 : Int)) then some (1 : Int)
          else
            bif decide ((89999 : Int) < p.snd.snd.fst) then some (1 : Int)
            else
              bif decide (p.snd.snd.snd.fst < (-89999 : Int)) then some (1 : Int)
              else
                bif decide ((89999 : Int) < p.snd.snd.snd.fst) then some (1 : Int)
                else
                  bif decide ((↑(List.length p.snd.fst) : Int) = (0 : Int)) then some (0 : Int)
                  else (F_r6Check p.snd.snd.snd.snd.fst).bind fun x2 => bif decide (x2 ≠ (0 : Int)) then some x2 else (F_r6Check p.snd.snd.snd.snd.snd).bind fun x3 => some x3) := by kernel_rfl


/-! ### horologe/horologeref17.quoted -/
noncomputable abbrev ct_r7quoted : List (FuncId × Bool × SpecT) := [(79, false, s_r7letter)]
theorem cs_r7quoted : AllSound Tryd.prog ct_r7quoted := ⟨so_r7letter, trivial⟩
-- loop 0 (key 2) exit 0: [0, 3]
-- loop 0 (key 2) exit 2: [2]
-- loop 0 (key 2) exit 3: [0]
abbrev kp_r7quoted : Keep := keepT [(2, 0, [(0, none), (3, none)]), (2, 2, [(2, none)]), (2, 3, [(0, none)])]
noncomputable abbrev b_r7quoted_0 : Code := loopAt Tryd.f75 0
noncomputable def sp_r7quoted_0 (x : ((List UInt8) × Int)) : Option (((List UInt8) × Int) ⊕ (((List UInt8)) ⊕ ((List UInt8)))) := (stepL Tryd.prog (lookT ct_r7quoted) kp_r7quoted (loopsT []) 0 false b_r7quoted_0 (codP [pS, pI]) (exS (exO .ret (codP [pS])) (exO (.ext 0) (codP [pS]))) x).run
noncomputable def w_r7quoted_0 : ((List UInt8) × Int) → Option (((List UInt8)) ⊕ ((List UInt8))) := whileO sp_r7quoted_0
theorem ew_r7quoted_0 (x : ((List UInt8) × Int)) : w_r7quoted_0 x = (sp_r7quoted_0 x).bind (Sum.elim w_r7quoted_0 some) := whileO_eq _ _
noncomputable abbrev l_r7quoted_0 : LT := ltF (codP [pS, pI]) (exS (exO .ret (codP [pS])) (exO (.ext 0) (codP [pS]))) w_r7quoted_0
theorem lo_r7quoted_0 : LoopOk Tryd.prog Tryd.f75.ntmps kp_r7quoted 0 false b_r7quoted_0 l_r7quoted_0 := loopG mixed cs_r7quoted (lps := loopsT []) (by kernel_rfl) (ls := []) (by kernel_rfl) lps_nil
noncomputable def F_r7quoted (x : ((List UInt8))) : Option ((List UInt8)) := (evalF Tryd.prog (lookT ct_r7quoted) (kp_r7quoted) (loopsT [(2, l_r7quoted_0)]) false false Tryd.f75 (codP [pS]) 1 (codP [pS]) x).run
noncomputable abbrev s_r7quoted : SpecT := specF (codP [pS]) 1 (codP [pS]) F_r7quoted
theorem so_r7quoted : SoundT Tryd.prog 75 s_r7quoted := soundG (P := Tryd.prog) mixed (t := ct_r7quoted) cs_r7quoted (f := 75) (fn := Tryd.f75) Tryd.func75 (by kernel_rfl) (by kernel_rfl) (by kernel_rfl) (ls := [b_r7quoted_0]) (by kernel_rfl) (kp := kp_r7quoted) (lps := loopsT [(2, l_r7quoted_0)]) (bump := false) (ice := false) (A := (codP [pS])) (n := 1) (R := (codP [pS])) fun _ => (lps_cons l_r7quoted_0 (by kernel_rfl) lo_r7quoted_0 lps_nil)

theorem es_r7quoted_0 (s : List UInt8) (i : Int) : sp_r7quoted_0 (s, i) = (
  bif decide (i < (↑s.length : Int)) then
    (getI s i).bind fun x1 =>
      (F_r7letter x1).bind fun x2 =>
        bif !x2 then
          bif decide ((1 : Nat) + s.length ≤ (9223372036854775807 : Nat)) then
            bif decide (([(60 : UInt8)] ++ s).length + (1 : Nat) ≤ (9223372036854775807 : Nat)) then some (Sum.inr (Sum.inl ([(60 : UInt8)] ++ s ++ [(62 : UInt8)]))) else none
          else none
        else some (Sum.inl (s, IntKind.i64.wrap (i + (1 : Int))))
  else some (Sum.inr (Sum.inr s))) := by kernel_rfl

theorem e_r7quoted (s : List UInt8) : F_r7quoted s = (
  (w_r7quoted_0 (s, (0 : Int))).bind fun x1 => Sum.elim (fun x2 => some x2) (fun x2 => some x2) x1) := by kernel_rfl


/-! ### horologe/horologeref17.Put -/
noncomputable abbrev ct_r7Put : List (FuncId × Bool × SpecT) := [(75, false, s_r7quoted), (76, false, s_r6Clock), (77, false, s_r6Put)]
theorem cs_r7Put : AllSound Tryd.prog ct_r7Put := ⟨so_r7quoted, so_r6Clock, so_r6Put, trivial⟩
noncomputable def F_r7Put (x : ((List UInt8 × List UInt8 × Int × Int × (Int × Int × Int × Int × Int) × (Int × Int × Int × Int × Int)))) : Option ((List UInt8)) := (evalF Tryd.prog (lookT ct_r7Put) (keepT []) (loopsT []) false false Tryd.f32 (codP [pPlan]) 1 (codP [pS]) x).run
noncomputable abbrev s_r7Put : SpecT := specF (codP [pPlan]) 1 (codP [pS]) F_r7Put
theorem so_r7Put : SoundT Tryd.prog 32 s_r7Put := soundG (P := Tryd.prog) mixed (t := ct_r7Put) cs_r7Put (f := 32) (fn := Tryd.f32) Tryd.func32 (by kernel_rfl) (by kernel_rfl) (by kernel_rfl) (ls := []) (by kernel_rfl) (kp := keepT []) (lps := loopsT []) (bump := false) (ice := false) (A := (codP [pPlan])) (n := 1) (R := (codP [pS])) fun _ => lps_nil

theorem e_r7Put (p : List UInt8 × List UInt8 × Int × Int × (Int × Int × Int × Int × Int) × (Int × Int × Int × Int × Int)) : F_r7Put p = (
  (F_r7quoted p.fst).bind fun x1 =>
    (F_r6Clock (IntKind.i64.wrap ((0 : Int) - p.snd.snd.fst))).bind fun x2 =>
      bif decide (x1.length + x2.length ≤ (9223372036854775807 : Nat)) then
        bif decide ((↑(List.length p.snd.fst) : Int) = (0 : Int)) then some (x1 ++ x2)
        else
          (F_r7quoted p.snd.fst).bind fun x3 =>
            bif decide ((x1 ++ x2).length + x3.length ≤ (9223372036854775807 : Nat)) then
              bif decide (IntKind.i64.wrap (p.snd.snd.snd.fst - p.snd.snd.fst) ≠ (3600 : Int)) then
                (F_r6Clock (IntKind.i64.wrap ((0 : Int) - p.snd.snd.snd.fst))).bind fun x4 =>
                  bif decide ((x1 ++ x2 ++ x3).length + x4.length ≤ (9223372036854775807 : Nat)) then
                    bif decide ((x1 ++ x2 ++ x3 ++ x4).length + (1 : Nat) ≤ (9223372036854775807 : Nat)) then
                      (F_r6Put p.snd.snd.snd.snd.fst).bind fun x5 =>
                        bif decide ((x1 ++ x2 ++ x3 ++ x4 ++ [(44 : UInt8)]).length + x5.length ≤ (9223372036854775807 : Nat)) then
                          bif decide ((x1 ++ x2 ++ x3 ++ x4 ++ [(44 : UInt8)] ++ x5).length + (1 : Nat) ≤ (9223372036854775807 : Nat)) then
                            (F_r6Put p.snd.snd.snd.snd.snd).bind fun x6 =>
                              bif decide ((x1 ++ x2 ++ x3 ++ x4 ++ [(44 : UInt8)] ++ x5 ++ [(44 : UInt8)]).length + x6.length ≤ (9223372036854775807 : Nat)) then
                                some (x1 ++ x2 ++ x3 ++ x4 ++ [(44 : UInt8)] ++ x5 ++ [(44 : UInt8)] ++ x6)
                              else none
                          else none
                        else none
                    else none
                  else none
              else
                bif decide ((x1 ++ x2 ++ x3).length + (1 : Nat) ≤ (9223372036854775807 : Nat)) then
                  (F_r6Put p.snd.snd.snd.snd.fst).bind fun x4 =>
                    bif decide ((x1 ++ x2 ++ x3 ++ [(44 : UInt8)]).length + x4.length ≤ (9223372036854775807 : Nat)) then
                      bif decide ((x1 ++ x2 ++ x3 ++ [(44 : UInt8)] ++ x4).length + (1 : Nat) ≤ (9223372036854775807 : Nat)) then
                        (F_r6Put p.snd.snd.snd.snd.snd).bind fun x5 =>
                          bif decide ((x1 ++ x2 ++ x3 ++ [(44 : UInt8)] ++ x4 ++ [(44 : UInt8)]).length + x5.length ≤ (9223372036854775807 : Nat)) then
                            some (x1 ++ x2 ++ x3 ++ [(44 : UInt8)] ++ x4 ++ [(44 : UInt8)] ++ x5)
                          else none
                      else none
                    else none
                else none
            else none
      else none) := by kernel_rfl


/-! ### horologe/horologeref17.name -/
noncomputable abbrev ct_r7name : List (FuncId × Bool × SpecT) := [(35, false, s_r7Name), (79, false, s_r7letter)]
theorem cs_r7name : AllSound Tryd.prog ct_r7name := ⟨so_r7Name, so_r7letter, trivial⟩
-- loop 0 (key 3) exit 0: [0, 1, 6]
-- loop 0 (key 3) exit 3: [0, 1, 6]
-- loop 1 (key 9) exit 0: [0, 1, 7]
-- loop 1 (key 9) exit 5: [0, 1, 7]
abbrev kp_r7name : Keep := keepT [(3, 0, [(0, none), (1, none), (6, none)]), (3, 3, [(0, none), (1, none), (6, none)]), (9, 0, [(0, none), (1, none), (7, none)]), (9, 5, [(0, none), (1, none), (7, none)])]
noncomputable abbrev b_r7name_0 : Code := loopAt Tryd.f47 0
noncomputable abbrev b_r7name_1 : Code := loopAt Tryd.f47 1
noncomputable def sp_r7name_1 (x : ((List UInt8) × Int × Int)) : Option (((List UInt8) × Int × Int) ⊕ ((List UInt8) × Int × Int)) := (stepL Tryd.prog (lookT ct_r7name) kp_r7name (loopsT []) 0 false b_r7name_1 (codP [pS, pI, pI]) (exO (.ext 2) (codP [pS, pI, pI])) x).run
noncomputable def w_r7name_1 : ((List UInt8) × Int × Int) → Option ((List UInt8) × Int × Int) := whileO sp_r7name_1
theorem ew_r7name_1 (x : ((List UInt8) × Int × Int)) : w_r7name_1 x = (sp_r7name_1 x).bind (Sum.elim w_r7name_1 some) := whileO_eq _ _
noncomputable abbrev l_r7name_1 : LT := ltF (codP [pS, pI, pI]) (exO (.ext 2) (codP [pS, pI, pI])) w_r7name_1
theorem lo_r7name_1 : LoopOk Tryd.prog Tryd.f47.ntmps kp_r7name 0 false b_r7name_1 l_r7name_1 := loopG mixed cs_r7name (lps := loopsT []) (by kernel_rfl) (ls := []) (by kernel_rfl) lps_nil
noncomputable def sp_r7name_0 (x : ((List UInt8) × Int × Int)) : Option (((List UInt8) × Int × Int) ⊕ ((List UInt8) × Int × Int)) := (stepL Tryd.prog (lookT ct_r7name) kp_r7name (loopsT []) 0 false b_r7name_0 (codP [pS, pI, pI]) (exO (.ext 0) (codP [pS, pI, pI])) x).run
noncomputable def w_r7name_0 : ((List UInt8) × Int × Int) → Option ((List UInt8) × Int × Int) := whileO sp_r7name_0
theorem ew_r7name_0 (x : ((List UInt8) × Int × Int)) : w_r7name_0 x = (sp_r7name_0 x).bind (Sum.elim w_r7name_0 some) := whileO_eq _ _
noncomputable abbrev l_r7name_0 : LT := ltF (codP [pS, pI, pI]) (exO (.ext 0) (codP [pS, pI, pI])) w_r7name_0
theorem lo_r7name_0 : LoopOk Tryd.prog Tryd.f47.ntmps kp_r7name 0 false b_r7name_0 l_r7name_0 := loopG mixed cs_r7name (lps := loopsT []) (by kernel_rfl) (ls := []) (by kernel_rfl) lps_nil
noncomputable def F_r7name (x : ((List UInt8) × Int)) : Option ((List UInt8) × Int) := (evalF Tryd.prog (lookT ct_r7name) (kp_r7name) (loopsT [(3, l_r7name_0), (9, l_r7name_1)]) false false Tryd.f47 (codP [pS, pI]) 2 (codP [pS, pI]) x).run
noncomputable abbrev s_r7name : SpecT := specF (codP [pS, pI]) 2 (codP [pS, pI]) F_r7name
theorem so_r7name : SoundT Tryd.prog 47 s_r7name := soundG (P := Tryd.prog) mixed (t := ct_r7name) cs_r7name (f := 47) (fn := Tryd.f47) Tryd.func47 (by kernel_rfl) (by kernel_rfl) (by kernel_rfl) (ls := [b_r7name_0, b_r7name_1]) (by kernel_rfl) (kp := kp_r7name) (lps := loopsT [(3, l_r7name_0), (9, l_r7name_1)]) (bump := false) (ice := false) (A := (codP [pS, pI])) (n := 2) (R := (codP [pS, pI])) fun _ => (lps_cons l_r7name_0 (by kernel_rfl) lo_r7name_0 (lps_cons l_r7name_1 (by kernel_rfl) lo_r7name_1 lps_nil))

theorem es_r7name_0 (s : List UInt8) (a e : Int) : sp_r7name_0 (s, a, e) = (
  bif decide (e < (↑s.length : Int)) then (getI s e).bind fun x1 => bif decide (x1 ≠ (62 : UInt8)) then some (Sum.inl (s, a, IntKind.i64.wrap (e + (1 : Int)))) else some (Sum.inr (s, a, e))
  else some (Sum.inr (s, a, e))) := by kernel_rfl

theorem es_r7name_1 (s : List UInt8) (a e : Int) : sp_r7name_1 (s, a, e) = (
  bif decide (e < (↑s.length : Int)) then (getI s e).bind fun x1 => (F_r7letter x1).bind fun x2 => bif x2 then some (Sum.inl (s, a, IntKind.i64.wrap (e + (1 : Int)))) else some (Sum.inr (s, a, e))
  else some (Sum.inr (s, a, e))) := by kernel_rfl

theorem e_r7name (s : List UInt8) (a : Int) : F_r7name (s, a) = (
  bif decide (a < (↑s.length : Int)) then
    (getI s a).bind fun x1 =>
      bif decide (x1 = (60 : UInt8)) then
        (w_r7name_0 (s, a, IntKind.i64.wrap (a + (1 : Int)))).bind fun x2 =>
          bif decide ((↑(List.length x2.fst) : Int) ≤ x2.snd.snd) then some ([], (-1 : Int))
          else
            (subI x2.fst (IntKind.i64.wrap (x2.snd.fst + (1 : Int))) x2.snd.snd).bind fun x3 =>
              (F_r7Name x3).bind fun x4 =>
                bif !x4 then some ([], (-1 : Int)) else (subI x2.fst (IntKind.i64.wrap (x2.snd.fst + (1 : Int))) x2.snd.snd).bind fun x5 => some (x5, IntKind.i64.wrap (x2.snd.snd + (1 : Int)))
      else
        (w_r7name_1 (s, a, a)).bind fun x2 =>
          (subI x2.fst x2.snd.fst x2.snd.snd).bind fun x3 => (F_r7Name x3).bind fun x4 => bif !x4 then some ([], (-1 : Int)) else (subI x2.fst x2.snd.fst x2.snd.snd).bind fun x5 => some (x5, x2.snd.snd)
  else
    (w_r7name_1 (s, a, a)).bind fun x1 =>
      (subI x1.fst x1.snd.fst x1.snd.snd).bind fun x2 => (F_r7Name x2).bind fun x3 => bif !x3 then some ([], (-1 : Int)) else (subI x1.fst x1.snd.fst x1.snd.snd).bind fun x4 => some (x4, x1.snd.snd)) := by kernel_rfl


/-! ### horologe/horologeref17.clock -/
noncomputable abbrev ct_r7clock : List (FuncId × Bool × SpecT) := [(80, false, s_r7figure)]
theorem cs_r7clock : AllSound Tryd.prog ct_r7clock := ⟨so_r7figure, trivial⟩
-- loop 0 (key 1) exit 0: [0, 1]
-- loop 0 (key 1) exit 3: [1]
abbrev kp_r7clock : Keep := keepT [(1, 0, [(0, none), (1, none)]), (1, 3, [(1, none)])]
noncomputable abbrev b_r7clock_0 : Code := loopAt Tryd.f48 0
noncomputable def sp_r7clock_0 (x : ((List UInt8) × Int)) : Option (((List UInt8) × Int) ⊕ (Int)) := (stepL Tryd.prog (lookT ct_r7clock) kp_r7clock (loopsT []) 0 false b_r7clock_0 (codP [pS, pI]) (exO (.ext 0) (codP [pI])) x).run
noncomputable def w_r7clock_0 : ((List UInt8) × Int) → Option (Int) := whileO sp_r7clock_0
theorem ew_r7clock_0 (x : ((List UInt8) × Int)) : w_r7clock_0 x = (sp_r7clock_0 x).bind (Sum.elim w_r7clock_0 some) := whileO_eq _ _
noncomputable abbrev l_r7clock_0 : LT := ltF (codP [pS, pI]) (exO (.ext 0) (codP [pI])) w_r7clock_0
theorem lo_r7clock_0 : LoopOk Tryd.prog Tryd.f48.ntmps kp_r7clock 0 false b_r7clock_0 l_r7clock_0 := loopG mixed cs_r7clock (lps := loopsT []) (by kernel_rfl) (ls := []) (by kernel_rfl) lps_nil
noncomputable def F_r7clock (x : ((List UInt8) × Int)) : Option (Int) := (evalF Tryd.prog (lookT ct_r7clock) (kp_r7clock) (loopsT [(1, l_r7clock_0)]) false false Tryd.f48 (codP [pS, pI]) 1 (codP [pI]) x).run
noncomputable abbrev s_r7clock : SpecT := specF (codP [pS, pI]) 1 (codP [pI]) F_r7clock
theorem so_r7clock : SoundT Tryd.prog 48 s_r7clock := soundG (P := Tryd.prog) mixed (t := ct_r7clock) cs_r7clock (f := 48) (fn := Tryd.f48) Tryd.func48 (by kernel_rfl) (by kernel_rfl) (by kernel_rfl) (ls := [b_r7clock_0]) (by kernel_rfl) (kp := kp_r7clock) (lps := loopsT [(1, l_r7clock_0)]) (bump := false) (ice := false) (A := (codP [pS, pI])) (n := 1) (R := (codP [pI])) fun _ => (lps_cons l_r7clock_0 (by kernel_rfl) lo_r7clock_0 lps_nil)

theorem es_r7clock_0 (s : List UInt8) (a : Int) : sp_r7clock_0 (s, a) = (
  bif decide (a < (↑s.length : Int)) then
    (getI s a).bind fun x1 =>
      (F_r7figure x1).bind fun x2 =>
        bif x2 then some (Sum.inl (s, IntKind.i64.wrap (a + (1 : Int))))
        else
          (getI s a).bind fun x3 =>
            bif decide (x3 = (43 : UInt8)) then some (Sum.inl (s, IntKind.i64.wrap (a + (1 : Int))))
            else
              (getI s a).bind fun x4 =>
                bif decide (x4 = (45 : UInt8)) then some (Sum.inl (s, IntKind.i64.wrap (a + (1 : Int))))
                else (getI s a).bind fun x5 => bif decide (x5 = (58 : UInt8)) then some (Sum.inl (s, IntKind.i64.wrap (a + (1 : Int)))) else some (Sum.inr a)
  else some (Sum.inr a)) := by kernel_rfl

theorem e_r7clock (s : List UInt8) (a : Int) : F_r7clock (s, a) = (
  (w_r7clock_0 (s, a)).bind fun x1 => some x1) := by kernel_rfl

end Go.Sm
/- Plain Lean: clocks and rules as the program reads them. -/
set_option linter.unusedVariables false
set_option linter.unusedSimpArgs false
namespace Go.Sm
open Go.Proofs

theorem ruleIn (x l h : Int) : F_ruleIn (x, l, h) = some (decide (l ≤ x ∧ x ≤ h)) := by
  rw [e_ruleIn, cond_dec]
  by_cases h1 : l ≤ x <;> simp [h1]
theorem scNew (s : List UInt8) : F_scNew s = some (sc s s 0, ()) := by
  rw [e_scNew]
  unfold sc
  simp
theorem fgV_nn (l m : Nat) (r : List UInt8) (e : Int) (k : Nat) (hk : m ≤ k) : 0 ≤ fgV l m r e ∧ fgV l m r e < 10 ^ k := by
  have := figNum_lt m r k (by simpa using hk)
  have h10 : (0 : Int) < 10 ^ k := Int.pow_pos (by omega)
  unfold fgV
  split
  · constructor
    · omega
    · exact_mod_cast this
  · exact ⟨by omega, h10⟩
theorem tk_false {b : UInt8} {r : List UInt8} {e : Int} (h : tkB b r e = false) : tk b r e = r := by
  unfold tk
  rw [h]
  rfl
/-- A colon and two figures: what is left, the error, the number, whether the colon stood there. -/
def pt (r : List UInt8) (e : Int) : List UInt8 × Int × Int × Bool :=
  if tkB 58 r e then (fgR 2 2 (tk 58 r e) e, fgE 2 2 (tk 58 r e) e, fgV 2 2 (tk 58 r e) e, true) else (r, e, 0, false)
theorem suf_pt {t r : List UInt8} {e : Int} (h : r <:+ t) : (pt r e).1 <:+ t := by
  unfold pt
  split
  · exact suf_fgR _ _ (suf_tk _ h)
  · exact h
theorem pt_range (r : List UInt8) (e : Int) : 0 ≤ (pt r e).2.2.1 ∧ (pt r e).2.2.1 < 100 := by
  unfold pt
  split
  · exact fgV_nn 2 2 _ _ 2 (by omega)
  · exact ⟨by simp, by simp⟩
theorem rulePart {t r : List UInt8} {e : Int} (h : r <:+ t) (ht : small t) : F_rulePart (sc t r e, ()) = some (sc t (pt r e).1 (pt r e).2.1, (pt r e).2.2) := by
  have hf := scFigures (e := e) (suf_tk 58 (e := e) h) ht 2 2 (by omega) (by omega) (by omega)
  rw [show ((2 : Nat) : Int) = 2 from rfl] at hf
  rw [e_rulePart, scTake h ht]
  simp only [Option.bind_some]
  unfold pt
  cases hb : tkB 58 r e with
  | true =>
    simp only [Bool.not_true, cond_false]
    rw [hf]
    rfl
  | false =>
    rw [tk_false hb]
    rfl
/-- A clock's text: sign, hours, minutes, seconds. -/
def clkR (s : List UInt8) : List UInt8 := if tkB 45 s 0 then tk 45 s 0 else tk 43 s 0
def clkA (s : List UInt8) : List UInt8 × Int × Int := (fgR 1 3 (clkR s) 0, fgE 1 3 (clkR s) 0, fgV 1 3 (clkR s) 0)
def clkB (s : List UInt8) : List UInt8 × Int × Int × Bool := pt (clkA s).1 (clkA s).2.1
def clkC (s : List UInt8) : List UInt8 × Int × Int × Bool := if (clkB s).2.2.2 then pt (clkB s).1 (clkB s).2.1 else ((clkB s).1, (clkB s).2.1, 0, false)
def clkN (s : List UInt8) : Int := (clkA s).2.2 * 3600 + (clkB s).2.2.1 * 60 + (clkC s).2.2.1
def clk (s : List UInt8) (m : Int) : Int × Int :=
  if (clkC s).2.1 ≠ 0 ∨ (clkC s).1 ≠ [] then (0, 2)
  else if m < (clkA s).2.2 ∨ 60 ≤ (clkB s).2.2.1 ∨ 60 ≤ (clkC s).2.2.1 then (0, 1)
  else (if tkB 45 s 0 then -clkN s else clkN s, 0)
theorem suf_clkR (s : List UInt8) : clkR s <:+ s := by
  unfold clkR
  split
  · exact suf_tk _ (List.suffix_refl s)
  · exact suf_tk _ (List.suffix_refl s)
theorem suf_clkA (s : List UInt8) : (clkA s).1 <:+ s := suf_fgR _ _ (suf_clkR s)
theorem suf_clkB (s : List UInt8) : (clkB s).1 <:+ s := suf_pt (suf_clkA s)
/-- What stands at the end of a clock. -/
def clkEnd (e : Int) (r : List UInt8) : Int := if e ≠ 0 then e else if r = [] then 0 else 2
theorem clkEnd_ne (e : Int) (r : List UInt8) : clkEnd e r ≠ 0 ↔ e ≠ 0 ∨ r ≠ [] := by
  unfold clkEnd
  by_cases h : e = 0
  · by_cases h2 : r = [] <;> simp [h, h2]
  · simp [h]
theorem clk_tail (s : List UInt8) (m : Int) (hA : 0 ≤ (clkA s).2.2 ∧ (clkA s).2.2 < 1000) (hB : 0 ≤ (clkB s).2.2.1 ∧ (clkB s).2.2.1 < 100) (hC : 0 ≤ (clkC s).2.2.1 ∧ (clkC s).2.2.1 < 100) (bl : Bool) (hbl : bl = tkB 45 s 0) :
    (if clkEnd (clkC s).2.1 (clkC s).1 ≠ 0 then some ((0 : Int), (2 : Int))
      else if m < (clkA s).2.2 then some (0, 1) else if 60 ≤ (clkB s).2.2.1 then some (0, 1) else if 60 ≤ (clkC s).2.2.1 then some (0, 1)
      else bif bl then some (IntKind.i64.wrap (0 - IntKind.i64.wrap (IntKind.i64.wrap (IntKind.i64.wrap ((clkA s).2.2 * 3600) + IntKind.i64.wrap ((clkB s).2.2.1 * 60)) + (clkC s).2.2.1)), 0)
      else some (IntKind.i64.wrap (IntKind.i64.wrap (IntKind.i64.wrap ((clkA s).2.2 * 3600) + IntKind.i64.wrap ((clkB s).2.2.1 * 60)) + (clkC s).2.2.1), 0)) = some (clk s m) := by
  subst hbl
  unfold clk clkN
  rw [wrap_i64 (x := (clkA s).2.2 * 3600) (by omega) (by omega), wrap_i64 (x := (clkB s).2.2.1 * 60) (by omega) (by omega), wrap_i64 (x := (clkA s).2.2 * 3600 + (clkB s).2.2.1 * 60) (by omega) (by omega),
    wrap_i64 (x := (clkA s).2.2 * 3600 + (clkB s).2.2.1 * 60 + (clkC s).2.2.1) (by omega) (by omega), wrap_i64 (x := 0 - _) (by omega) (by omega)]
  by_cases h1 : clkEnd (clkC s).2.1 (clkC s).1 ≠ 0
  · rw [if_pos h1, if_pos ((clkEnd_ne _ _).1 h1)]
  · rw [if_neg h1, if_neg (fun h => h1 ((clkEnd_ne _ _).2 h))]
    by_cases h2 : m < (clkA s).2.2
    · rw [if_pos h2, if_pos (.inl h2)]
    · rw [if_neg h2]
      by_cases h3 : 60 ≤ (clkB s).2.2.1
      · rw [if_pos h3, if_pos (.inr (.inl h3))]
      · rw [if_neg h3]
        by_cases h4 : 60 ≤ (clkC s).2.2.1
        · rw [if_pos h4, if_pos (.inr (.inr h4))]
        · rw [if_neg h4, if_neg (by omega)]
          cases tkB 45 s 0
          · rfl
          · simp
theorem ruleParseClock (s : List UInt8) (m : Int) (hs : small s) (h0 : 0 ≤ m) (h1 : m ≤ 999) : F_ruleParseClock (s, m) = some (clk s m) := by
  have hA : 0 ≤ (clkA s).2.2 ∧ (clkA s).2.2 < 1000 := fgV_nn 1 3 _ _ 3 (by omega)
  have hB : 0 ≤ (clkB s).2.2.1 ∧ (clkB s).2.2.1 < 100 := pt_range _ _
  have hC : 0 ≤ (clkC s).2.2.1 ∧ (clkC s).2.2.1 < 100 := by
    unfold clkC
    split
    · exact pt_range _ _
    · exact ⟨by simp, by simp⟩
  have hfig : F_scFigures (sc s (clkR s) 0, (), (1 : Int), (3 : Int)) = some (sc s (clkA s).1 (clkA s).2.1, (clkA s).2.2) := scFigures (suf_clkR s) hs 1 3 (by omega) (by omega) (by omega)
  have hpB : F_rulePart (sc s (clkA s).1 (clkA s).2.1, ()) = some (sc s (clkB s).1 (clkB s).2.1, (clkB s).2.2) := rulePart (suf_clkA s) hs
  have hpC := rulePart (e := (clkB s).2.1) (suf_clkB s) hs
  have htail := fun bl hbl => clk_tail s m hA hB hC bl hbl
  have hend : ∀ r e, r <:+ s → F_scEnd (sc s r e, ()) = some (sc s r e, clkEnd e r) := fun r e h => scEnd h
  rw [e_ruleParseClock, ruleIn]
  simp only [Option.bind_some]
  rw [decide_eq_true ⟨h0, h1⟩]
  simp only [Bool.not_true, cond_false]
  rw [scNew]
  simp only [Option.bind_some]
  rw [scTake (List.suffix_refl s) hs]
  simp only [Option.bind_some]
  cases hb : tkB 45 s 0 with
  | true =>
    have hR : tk 45 s 0 = clkR s := by unfold clkR; rw [hb]; rfl
    have ht := htail true hb.symm
    simp only [Bool.not_true, cond_false, hR, cond_true] at ht ⊢
    rw [hfig]
    simp only [Option.bind_some]
    rw [hpB]
    simp only [Option.bind_some]
    cases hm : (clkB s).2.2.2 with
    | true =>
      have hCe : clkC s = pt (clkB s).1 (clkB s).2.1 := by unfold clkC; rw [hm]; rfl
      rw [← hCe] at hpC
      simp only [cond_true]
      rw [hpC]
      simp only [Option.bind_some]
      rw [hend _ _ (by rw [hCe]; exact suf_pt (suf_clkB s))]
      simp only [Option.bind_some, cond_dec]
      exact ht
    | false =>
      have hCe : clkC s = ((clkB s).1, (clkB s).2.1, 0, false) := by unfold clkC; rw [hm]; rfl
      simp only [cond_false]
      rw [hend _ _ (suf_clkB s)]
      simp only [Option.bind_some, cond_dec]
      rw [hCe] at ht
      simpa using ht
  | false =>
    have hR : tk 43 s 0 = clkR s := by unfold clkR; rw [hb]; rfl
    have ht := htail false hb.symm
    have h43 := scTake (e := 0) (List.suffix_refl s) hs 43
    rw [tk_false hb]
    simp only [Bool.not_false, cond_true, cond_false] at ht ⊢
    rw [h43]
    simp only [Option.bind_some, hR]
    rw [hfig]
    simp only [Option.bind_some]
    rw [hpB]
    simp only [Option.bind_some]
    cases hm : (clkB s).2.2.2 with
    | true =>
      have hCe : clkC s = pt (clkB s).1 (clkB s).2.1 := by unfold clkC; rw [hm]; rfl
      rw [← hCe] at hpC
      simp only [cond_true]
      rw [hpC]
      simp only [Option.bind_some]
      rw [hend _ _ (by rw [hCe]; exact suf_pt (suf_clkB s))]
      simp only [Option.bind_some, cond_dec]
      exact ht
    | false =>
      have hCe : clkC s = ((clkB s).1, (clkB s).2.1, 0, false) := by unfold clkC; rw [hm]; rfl
      simp only [cond_false]
      rw [hend _ _ (suf_clkB s)]
      simp only [Option.bind_some, cond_dec]
      rw [hCe] at ht
      simpa using ht
end Go.Sm
/- Plain Lean: rules: the checks (program and reference), the cut at a byte, weekly rules. -/
set_option linter.unusedVariables false
set_option linter.unusedSimpArgs false
namespace Go.Sm
open Go.Proofs

abbrev may (k m w d : Int) : Prop := (k = 1 ∧ 1 ≤ d ∧ d ≤ 365 ∧ m = 0 ∧ w = 0) ∨ (k = 2 ∧ 0 ≤ d ∧ d ≤ 365 ∧ m = 0 ∧ w = 0) ∨ (k = 3 ∧ 1 ≤ m ∧ m ≤ 12 ∧ 1 ≤ w ∧ w ≤ 5 ∧ 0 ≤ d ∧ d ≤ 6)
/-- What is wrong with a rule. -/
def rck (k m w d t : Int) : Int := if 1 ≤ k ∧ k ≤ 3 then (if may k m w d ∧ -604799 ≤ t ∧ t ≤ 604799 then 0 else 1) else 11
theorem ite_some {α : Type} (p : Prop) [Decidable p] (a b : α) : (if p then some a else some b) = some (if p then a else b) := by
  by_cases h : p <;> simp [h]
theorem ruleMay (k m w d t : Int) (h : 1 ≤ k ∧ k ≤ 3) : F_ruleMay (k, m, w, d, t) = some (decide (may k m w d)) := by
  rw [e_ruleMay]
  show (bif decide (k = 1) then (F_ruleIn (d, 1, 365)).bind fun x1 => bif x1 then bif decide (m = 0) then some (decide (w = 0)) else some false else some false
    else bif decide (k = 2) then (F_ruleIn (d, 0, 365)).bind fun x1 => bif x1 then bif decide (m = 0) then some (decide (w = 0)) else some false else some false
    else (F_ruleIn (m, 1, 12)).bind fun x1 => bif x1 then (F_ruleIn (w, 1, 5)).bind fun x2 => bif x2 then (F_ruleIn (d, 0, 6)).bind fun x3 => some x3 else some false else some false) = some (decide (may k m w d))
  simp only [ruleIn, Option.bind_some, cond_dec, ite_some, Option.some.injEq]
  rw [Bool.eq_iff_iff]
  by_cases h1 : k = 1
  · rw [if_pos h1]
    by_cases hd : 1 ≤ d ∧ d ≤ 365
    · rw [if_pos hd]
      by_cases hm : m = 0
      · rw [if_pos hm, decide_eq_true_eq, decide_eq_true_eq]; omega
      · rw [if_neg hm, decide_eq_true_eq]; simp only [Bool.false_eq_true, false_iff]; omega
    · rw [if_neg hd, decide_eq_true_eq]; simp only [Bool.false_eq_true, false_iff]; omega
  · rw [if_neg h1]
    by_cases h2 : k = 2
    · rw [if_pos h2]
      by_cases hd : 0 ≤ d ∧ d ≤ 365
      · rw [if_pos hd]
        by_cases hm : m = 0
        · rw [if_pos hm, decide_eq_true_eq, decide_eq_true_eq]; omega
        · rw [if_neg hm, decide_eq_true_eq]; simp only [Bool.false_eq_true, false_iff]; omega
      · rw [if_neg hd, decide_eq_true_eq]; simp only [Bool.false_eq_true, false_iff]; omega
    · rw [if_neg h2]
      by_cases hm : 1 ≤ m ∧ m ≤ 12
      · rw [if_pos hm]
        by_cases hw : 1 ≤ w ∧ w ≤ 5
        · rw [if_pos hw, decide_eq_true_eq, decide_eq_true_eq]; omega
        · rw [if_neg hw, decide_eq_true_eq]; simp only [Bool.false_eq_true, false_iff]; omega
      · rw [if_neg hm, decide_eq_true_eq]; simp only [Bool.false_eq_true, false_iff]; omega
theorem ruleCheck (k m w d t : Int) : F_ruleCheck (k, m, w, d, t) = some (rck k m w d t) := by
  rw [e_ruleCheck]
  show ((F_ruleIn (k, 1, 3)).bind fun x1 => bif !x1 then some 11 else (F_ruleMay (k, m, w, d, t)).bind fun x2 => bif !x2 then some 1 else (F_ruleIn (t, -604799, 604799)).bind fun x3 => bif !x3 then some 1 else some 0) = some (rck k m w d t)
  unfold rck
  by_cases h : 1 ≤ k ∧ k ≤ 3
  · rw [ruleMay k m w d t h, ruleIn, ruleIn, decide_eq_true h, if_pos h]
    by_cases h2 : may k m w d
    · by_cases h3 : -604799 ≤ t ∧ t ≤ 604799
      · rw [decide_eq_true h2, decide_eq_true h3, if_pos ⟨h2, h3⟩]; rfl
      · rw [decide_eq_true h2, decide_eq_false h3, if_neg (fun q => h3 q.2)]; rfl
    · rw [decide_eq_false h2, if_neg (fun q => h2 q.1)]; rfl
  · rw [ruleIn, decide_eq_false h, if_neg h]; rfl
theorem r6Check (k m w d t : Int) : F_r6Check (k, m, w, d, t) = some (rck k m w d t) := by
  rw [e_r6Check]
  unfold rck
  simp only [cond_dec]
  by_cases ht : -604799 ≤ t
  · rw [if_pos ht]
    by_cases h1 : k = 1
    · rw [if_pos h1, if_pos (show 1 ≤ k ∧ k ≤ 3 by omega)]
      by_cases hq : may k m w d ∧ -604799 ≤ t ∧ t ≤ 604799
      · rw [if_pos hq, if_pos (by omega), if_pos (by omega), if_pos (by omega), if_pos (by omega), decide_eq_true (show w = 0 by omega)]; rfl
      · rw [if_neg hq]
        repeat' split
        all_goals first | rfl | skip
        cases hw : decide (w = 0) with
        | false => rfl
        | true => exact absurd (of_decide_eq_true hw) (by omega)
    · rw [if_neg h1]
      by_cases h2 : k = 2
      · rw [if_pos h2, if_pos (show 1 ≤ k ∧ k ≤ 3 by omega)]
        by_cases hq : may k m w d ∧ -604799 ≤ t ∧ t ≤ 604799
        · rw [if_pos hq, if_pos (by omega), if_pos (by omega), if_pos (by omega), if_pos (by omega), decide_eq_true (show w = 0 by omega)]; rfl
        · rw [if_neg hq]
          repeat' split
          all_goals first | rfl | skip
          cases hw : decide (w = 0) with
          | false => rfl
          | true => exact absurd (of_decide_eq_true hw) (by omega)
      · rw [if_neg h2]
        by_cases h3 : k = 3
        · rw [if_pos h3, if_pos (show 1 ≤ k ∧ k ≤ 3 by omega)]
          by_cases hq : may k m w d ∧ -604799 ≤ t ∧ t ≤ 604799
          · rw [if_pos hq, if_pos (by omega), if_pos (by omega), if_pos (by omega), if_pos (by omega), if_pos (by omega), if_pos (by omega), decide_eq_true (show d ≤ 6 by omega)]; rfl
          · rw [if_neg hq]
            repeat' split
            all_goals first | rfl | skip
            cases hw : decide (d ≤ 6) with
            | false => rfl
            | true => exact absurd (of_decide_eq_true hw) (by omega)
        · rw [if_neg h3, if_neg (by omega)]
  · rw [if_neg ht]
    by_cases h0 : 1 ≤ k ∧ k ≤ 3
    · rw [if_pos h0, if_neg (show ¬ (may k m w d ∧ -604799 ≤ t ∧ t ≤ 604799) by omega)]
      repeat' split
      all_goals first | rfl | omega
    · rw [if_neg h0, if_neg (show ¬ k = 1 by omega), if_neg (show ¬ k = 2 by omega), if_neg (show ¬ k = 3 by omega)]
/-- What stands ahead of a byte, and behind it. -/
def cutB (c : UInt8) (s : List UInt8) : List UInt8 × List UInt8 × Bool := if s.contains c then (s.takeWhile (· != c), (s.dropWhile (· != c)).drop 1, true) else (s, [], false)
theorem cut (s : List UInt8) (c : UInt8) (hs : small s) : F_Cut (s, [c]) = some (cutB c s) := by
  unfold small at hs
  rw [e_Cut, e_sliteCut]
  simp only [cond_dec, indexByte_eq]
  unfold cutB
  cases hc : s.contains c with
  | true =>
    have hle := (List.takeWhile_prefix (p := (· != c)) (l := s)).length_le
    have hlt : (s.takeWhile (· != c)).length < s.length := by
      apply Nat.lt_of_le_of_ne hle
      intro he
      have : s.takeWhile (· != c) = s := List.IsPrefix.eq_of_length (List.takeWhile_prefix _) he
      have hm : c ∈ s := by simpa using hc
      rw [← this] at hm
      have := List.all_eq_true.1 (takeWhile_all (· != c) s) c hm
      simp at this
    have h1 := subI_nat s (a := 0) (b := (s.takeWhile (· != c)).length) (by omega) hle
    have h2 := subI_nat s (a := (s.takeWhile (· != c)).length + 1) (b := s.length) (by omega) (Nat.le_refl _)
    rw [List.drop_zero, Int.natCast_zero, take_takeWhile] at h1
    rw [List.take_length, ← List.drop_drop, drop_takeWhile] at h2
    simp only [if_true]
    rw [if_pos (by omega), h1, wrap_i64 (by simp; omega) (by simp; omega)]
    simp only [Option.bind_some, List.length_singleton]
    rw [show ((((s.takeWhile (· != c)).length : Nat) : Int) + ((1 : Nat) : Int)) = (((s.takeWhile (· != c)).length + 1 : Nat) : Int) by omega, h2]
    rfl
  | false =>
    simp only [Bool.false_eq_true, if_false]
    rw [if_neg (by omega)]
    rfl
end Go.Sm
/- Plain Lean: the program's reading of a rule. -/
set_option linter.unusedVariables false
set_option linter.unusedSimpArgs false
namespace Go.Sm
open Go.Proofs

/-- Figures and a point, by turns: what is left, the error. -/
def fgQ (l m : Nat) (q : List UInt8 × Int) : List UInt8 × Int := (fgR l m q.1 q.2, fgE l m q.1 q.2)
def muQ (c : UInt8) (q : List UInt8 × Int) : List UInt8 × Int := (tk c q.1 q.2, muE c q.1 q.2)
theorem suf_fgQ {t : List UInt8} {q : List UInt8 × Int} (l m : Nat) (h : q.1 <:+ t) : (fgQ l m q).1 <:+ t := suf_fgR l m h
theorem suf_muQ {t : List UInt8} {q : List UInt8 × Int} (c : UInt8) (h : q.1 <:+ t) : (muQ c q).1 <:+ t := suf_tk c h
def wk1 (q : List UInt8 × Int) := muQ 46 (fgQ 1 2 q)
def wk2 (q : List UInt8 × Int) := muQ 46 (fgQ 1 1 (wk1 q))
def wk3 (q : List UInt8 × Int) := fgQ 1 1 (wk2 q)
theorem ruleWeekly {t : List UInt8} {q : List UInt8 × Int} (h : q.1 <:+ t) (ht : small t) :
    F_ruleWeekly (sc t q.1 q.2, ()) = some (sc t (wk3 q).1 (wk3 q).2, (3, fgV 1 2 q.1 q.2, fgV 1 1 (wk1 q).1 (wk1 q).2, fgV 1 1 (wk2 q).1 (wk2 q).2, 0)) := by
  have f1 : F_scFigures (sc t q.1 q.2, (), (1 : Int), (2 : Int)) = some (sc t (fgQ 1 2 q).1 (fgQ 1 2 q).2, fgV 1 2 q.1 q.2) := scFigures h ht 1 2 (by omega) (by omega) (by omega)
  have m1 : F_scMust (sc t (fgQ 1 2 q).1 (fgQ 1 2 q).2, (), [46]) = some (sc t (wk1 q).1 (wk1 q).2, ()) := scMust1 (suf_fgQ 1 2 h) ht 46 (by decide) (by decide)
  have s1 : (wk1 q).1 <:+ t := suf_muQ 46 (suf_fgQ 1 2 h)
  have f2 : F_scFigures (sc t (wk1 q).1 (wk1 q).2, (), (1 : Int), (1 : Int)) = some (sc t (fgQ 1 1 (wk1 q)).1 (fgQ 1 1 (wk1 q)).2, fgV 1 1 (wk1 q).1 (wk1 q).2) := scFigures s1 ht 1 1 (by omega) (by omega) (by omega)
  have m2 : F_scMust (sc t (fgQ 1 1 (wk1 q)).1 (fgQ 1 1 (wk1 q)).2, (), [46]) = some (sc t (wk2 q).1 (wk2 q).2, ()) := scMust1 (suf_fgQ 1 1 s1) ht 46 (by decide) (by decide)
  have s2 : (wk2 q).1 <:+ t := suf_muQ 46 (suf_fgQ 1 1 s1)
  have f3 : F_scFigures (sc t (wk2 q).1 (wk2 q).2, (), (1 : Int), (1 : Int)) = some (sc t (wk3 q).1 (wk3 q).2, fgV 1 1 (wk2 q).1 (wk2 q).2) := scFigures s2 ht 1 1 (by omega) (by omega) (by omega)
  rw [e_ruleWeekly, f1]
  simp only [Option.bind_some]
  rw [m1]
  simp only [Option.bind_some]
  rw [f2]
  simp only [Option.bind_some]
  rw [m2]
  simp only [Option.bind_some]
  rw [f3]
  rfl
abbrev Rul := Int × Int × Int × Int × Int
def noRule : Rul := (0, 0, 0, 0, 0)
/-- A rule's date: what is left, the error, kind, month, week, day. -/
def dat (d : List UInt8) : (List UInt8 × Int) × Int × Int × Int × Int :=
  if tkB 74 d 0 then (fgQ 1 3 (tk 74 d 0, 0), 1, 0, 0, fgV 1 3 (tk 74 d 0) 0)
  else if tkB 77 d 0 then (wk3 (tk 77 d 0, 0), 3, fgV 1 2 (tk 77 d 0) 0, fgV 1 1 (wk1 (tk 77 d 0, 0)).1 (wk1 (tk 77 d 0, 0)).2, fgV 1 1 (wk2 (tk 77 d 0, 0)).1 (wk2 (tk 77 d 0, 0)).2)
  else (fgQ 1 3 (d, 0), 2, 0, 0, fgV 1 3 d 0)
/-- A rule with its time. -/
def fin (x : Int × Int × Int × Int) (t : Int) : Rul × Int := if rck x.1 x.2.1 x.2.2.1 x.2.2.2 t ≠ 0 then (noRule, rck x.1 x.2.1 x.2.2.1 x.2.2.2 t) else ((x.1, x.2.1, x.2.2.1, x.2.2.2, t), 0)
def rul (s : List UInt8) : Rul × Int :=
  if clkEnd (dat (cutB 47 s).1).1.2 (dat (cutB 47 s).1).1.1 ≠ 0 then (noRule, 2)
  else if (cutB 47 s).2.2 then (if (clk (cutB 47 s).2.1 167).2 ≠ 0 then (noRule, (clk (cutB 47 s).2.1 167).2) else fin (dat (cutB 47 s).1).2 (clk (cutB 47 s).2.1 167).1)
  else fin (dat (cutB 47 s).1).2 7200
theorem small_cut {s : List UInt8} (c : UInt8) (hs : small s) : small (cutB c s).1 ∧ small (cutB c s).2.1 := by
  unfold small cutB at *
  have h1 := (List.takeWhile_prefix (p := (· != c)) (l := s)).length_le
  have h2 := (List.dropWhile_suffix (p := (· != c)) (l := s)).length_le
  split
  · simp; omega
  · simp; omega
theorem rul_tail {t r : List UInt8} {e : Int} (h : r <:+ t) (b : Bool) (c : List UInt8) (hc : small c) (k m w d : Int) :
    ((F_scEnd (sc t r e, ())).bind fun x5 =>
      bif decide (x5.snd ≠ (0 : Int)) then some (((0 : Int), (0 : Int), (0 : Int), (0 : Int), (0 : Int)), (2 : Int))
      else
        bif b then
          (F_ruleParseClock (c, (167 : Int))).bind fun x6 =>
            bif decide (x6.snd ≠ (0 : Int)) then some (((0 : Int), (0 : Int), (0 : Int), (0 : Int), (0 : Int)), x6.snd)
            else
              (F_ruleCheck (k, m, w, d, x6.fst)).bind fun x7 =>
                bif decide (x7 ≠ (0 : Int)) then some (((0 : Int), (0 : Int), (0 : Int), (0 : Int), (0 : Int)), x7) else some ((k, m, w, d, x6.fst), (0 : Int))
        else
          (F_ruleCheck (k, m, w, d, (7200 : Int))).bind fun x6 =>
            bif decide (x6 ≠ (0 : Int)) then some (((0 : Int), (0 : Int), (0 : Int), (0 : Int), (0 : Int)), x6) else some ((k, m, w, d, (7200 : Int)), (0 : Int))) =
    some (if clkEnd e r ≠ 0 then (noRule, 2) else if b then (if (clk c 167).2 ≠ 0 then (noRule, (clk c 167).2) else fin (k, m, w, d) (clk c 167).1) else fin (k, m, w, d) 7200) := by
  have hend : F_scEnd (sc t r e, ()) = some (sc t r e, clkEnd e r) := scEnd h
  rw [hend]
  simp only [Option.bind_some, cond_dec]
  by_cases h1 : clkEnd e r ≠ 0
  · rw [if_pos h1, if_pos h1]; rfl
  · rw [if_neg h1, if_neg h1]
    cases b with
    | true =>
      simp only [cond_true, if_true]
      rw [ruleParseClock c 167 hc (by omega) (by omega)]
      simp only [Option.bind_some]
      by_cases h2 : (clk c 167).2 ≠ 0
      · rw [if_pos h2, if_pos h2]; rfl
      · rw [if_neg h2, if_neg h2, ruleCheck]
        simp only [Option.bind_some]
        unfold fin
        simp only
        by_cases h3 : rck k m w d (clk c 167).1 ≠ 0
        · rw [if_pos h3, if_pos h3]; rfl
        · rw [if_neg h3, if_neg h3]
    | false =>
      simp only [cond_false, Bool.false_eq_true, if_false]
      rw [ruleCheck]
      simp only [Option.bind_some]
      unfold fin
      simp only
      by_cases h3 : rck k m w d 7200 ≠ 0
      · rw [if_pos h3, if_pos h3]; rfl
      · rw [if_neg h3, if_neg h3]
theorem ruleParse (s : List UInt8) (hs : small s) : F_ruleParse s = some (rul s) := by
  obtain ⟨hd, hc⟩ := small_cut 47 hs
  rw [e_ruleParse, cut s 47 hs]
  simp only [Option.bind_some]
  unfold rul dat
  generalize (cutB 47 s).1 = x at *
  generalize (cutB 47 s).2.1 = c at *
  generalize (cutB 47 s).2.2 = b at *
  rw [scNew]
  simp only [Option.bind_some]
  rw [scTake (List.suffix_refl x) hd]
  simp only [Option.bind_some]
  cases hJ : tkB 74 x 0 with
  | true =>
    have hf : F_scFigures (sc x (tk 74 x 0) 0, (), (1 : Int), (3 : Int)) = some (sc x (fgQ 1 3 (tk 74 x 0, 0)).1 (fgQ 1 3 (tk 74 x 0, 0)).2, fgV 1 3 (tk 74 x 0) 0) := scFigures (suf_tk 74 (List.suffix_refl x)) hd 1 3 (by omega) (by omega) (by omega)
    simp only [cond_true, if_true]
    rw [hf]
    simp only [Option.bind_some]
    exact rul_tail (suf_fgQ 1 3 (suf_tk 74 (List.suffix_refl x))) b c hc 1 0 0 (fgV 1 3 (tk 74 x 0) 0)
  | false =>
    simp only [cond_false, Bool.false_eq_true, if_false]
    rw [tk_false hJ, scTake (List.suffix_refl x) hd]
    simp only [Option.bind_some]
    cases hM : tkB 77 x 0 with
    | true =>
      have hw := ruleWeekly (q := (tk 77 x 0, 0)) (suf_tk 77 (List.suffix_refl x)) hd
      simp only [cond_true, if_true]
      rw [hw]
      simp only [Option.bind_some]
      exact rul_tail (suf_fgQ 1 1 (suf_muQ 46 (suf_fgQ 1 1 (suf_muQ 46 (suf_fgQ 1 2 (suf_tk 77 (List.suffix_refl x))))))) b c hc 3 _ _ _
    | false =>
      have hf : F_scFigures (sc x x 0, (), (1 : Int), (3 : Int)) = some (sc x (fgQ 1 3 (x, 0)).1 (fgQ 1 3 (x, 0)).2, fgV 1 3 x 0) := scFigures (List.suffix_refl x) hd 1 3 (by omega) (by omega) (by omega)
      simp only [cond_false, Bool.false_eq_true, if_false]
      rw [tk_false hM, hf]
      simp only [Option.bind_some]
      exact rul_tail (suf_fgQ 1 3 (List.suffix_refl x)) b c hc 2 0 0 (fgV 1 3 x 0)
end Go.Sm
/- Plain Lean: names and checks of plans. -/
set_option linter.unusedVariables false
set_option linter.unusedSimpArgs false
namespace Go.Sm
open Go.Proofs

def letters : List UInt8 := [(65 : UInt8), (66 : UInt8), (67 : UInt8), (68 : UInt8), (69 : UInt8), (70 : UInt8), (71 : UInt8), (72 : UInt8), (73 : UInt8), (74 : UInt8), (75 : UInt8), (76 : UInt8), (77 : UInt8), (78 : UInt8), (79 : UInt8), (80 : UInt8), (81 : UInt8), (82 : UInt8), (83 : UInt8), (84 : UInt8), (85 : UInt8), (86 : UInt8), (87 : UInt8), (88 : UInt8), (89 : UInt8), (90 : UInt8), (97 : UInt8), (98 : UInt8), (99 : UInt8), (100 : UInt8), (101 : UInt8), (102 : UInt8), (103 : UInt8), (104 : UInt8), (105 : UInt8), (106 : UInt8), (107 : UInt8), (108 : UInt8), (109 : UInt8), (110 : UInt8), (111 : UInt8), (112 : UInt8), (113 : UInt8), (114 : UInt8), (115 : UInt8), (116 : UInt8), (117 : UInt8), (118 : UInt8), (119 : UInt8), (120 : UInt8), (121 : UInt8), (122 : UInt8)]
def named : List UInt8 := [(65 : UInt8), (66 : UInt8), (67 : UInt8), (68 : UInt8), (69 : UInt8), (70 : UInt8), (71 : UInt8), (72 : UInt8), (73 : UInt8), (74 : UInt8), (75 : UInt8), (76 : UInt8), (77 : UInt8), (78 : UInt8), (79 : UInt8), (80 : UInt8), (81 : UInt8), (82 : UInt8), (83 : UInt8), (84 : UInt8), (85 : UInt8), (86 : UInt8), (87 : UInt8), (88 : UInt8), (89 : UInt8), (90 : UInt8), (97 : UInt8), (98 : UInt8), (99 : UInt8), (100 : UInt8), (101 : UInt8), (102 : UInt8), (103 : UInt8), (104 : UInt8), (105 : UInt8), (106 : UInt8), (107 : UInt8), (108 : UInt8), (109 : UInt8), (110 : UInt8), (111 : UInt8), (112 : UInt8), (113 : UInt8), (114 : UInt8), (115 : UInt8), (116 : UInt8), (117 : UInt8), (118 : UInt8), (119 : UInt8), (120 : UInt8), (121 : UInt8), (122 : UInt8), (48 : UInt8), (49 : UInt8), (50 : UInt8), (51 : UInt8), (52 : UInt8), (53 : UInt8), (54 : UInt8), (55 : UInt8), (56 : UInt8), (57 : UInt8), (43 : UInt8), (45 : UInt8)]
def clocks : List UInt8 := [(48 : UInt8), (49 : UInt8), (50 : UInt8), (51 : UInt8), (52 : UInt8), (53 : UInt8), (54 : UInt8), (55 : UInt8), (56 : UInt8), (57 : UInt8), (43 : UInt8), (45 : UInt8), (58 : UInt8)]
theorem low_named : low named := by unfold low; decide
theorem low_letters : low letters := by unfold low; decide
/-- Is it a name? -/
def nameB (s : List UInt8) : Bool := decide (3 ≤ s.length ∧ s.length ≤ 16) && s.all fun c => named.contains c
theorem pxName (s : List UInt8) (hs : small s) : F_pxName s = some (nameB s) := by
  have h := pxOf s named hs low_named
  unfold named at h
  rw [e_pxName, h]
  simp only [cond_dec, Option.bind_some]
  unfold nameB
  by_cases h1 : 3 ≤ s.length
  · rw [if_pos (by omega)]
    by_cases h2 : s.length ≤ 16
    · rw [if_pos (by omega), decide_eq_true ⟨h1, h2⟩, Bool.true_and]
      rfl
    · rw [if_neg (by omega), decide_eq_false (by omega), Bool.false_and]
  · rw [if_neg (by omega), decide_eq_false (by omega), Bool.false_and]
end Go.Sm
/- Plain Lean: the program's reader of plans. -/
set_option linter.unusedVariables false
set_option linter.unusedSimpArgs false
namespace Go.Sm
open Go.Proofs

/-- A failure, if there was none before. -/
def fl (x e : Int) : Int := if e = 0 then x else e
/-- A name: what is left, the error, the name. -/
def nm (r : List UInt8) (e : Int) : List UInt8 × Int × List UInt8 :=
  if tkB 60 r e then
    (if nameB ((rd (tk 60 r e) e).takeWhile (· != 62)) then
      (tk 62 (wl (· != 62) (tk 60 r e) e) e, if tkB 62 (wl (· != 62) (tk 60 r e) e) e then e else fl 2 e, (rd (tk 60 r e) e).takeWhile (· != 62))
    else (wl (· != 62) (tk 60 r e) e, fl 2 e, (rd (tk 60 r e) e).takeWhile (· != 62)))
  else (wl (runP letters) r e, if nameB ((rd r e).takeWhile (runP letters)) then e else fl 2 e, (rd r e).takeWhile (runP letters))
theorem small_tw {s : List UInt8} (p : UInt8 → Bool) (h : small s) : small (s.takeWhile p) := by
  have := (List.takeWhile_prefix (p := p) (l := s)).length_le
  unfold small at *
  omega
theorem rdName {t r : List UInt8} {e : Int} (h : r <:+ t) (ht : small t) : F_rdName (sc t r e, ()) = some (sc t (nm r e).1 (nm r e).2.1, (nm r e).2.2) := by
  have hrun := scRun (e := e) h ht letters
  unfold letters at hrun
  rw [e_rdName, scTake h ht]
  simp only [Option.bind_some]
  unfold nm
  cases hb : tkB 60 r e with
  | false =>
    rw [tk_false hb]
    simp only [Bool.not_false, cond_true, Bool.false_eq_true, if_false]
    rw [hrun]
    simp only [Option.bind_some]
    rw [pxName _ (small_tw _ (small_rd h ht))]
    simp only [Option.bind_some]
    show _ = some (sc t (wl (runP letters) r e) _, _)
    cases hn : nameB ((rd r e).takeWhile (runP letters)) with
    | true =>
      unfold letters at hn
      rw [hn]
      rfl
    | false =>
      unfold letters at hn
      rw [hn]
      simp only [Bool.not_false, cond_true]
      rw [scFail]
      rfl
  | true =>
    have h1 := suf_tk 60 (e := e) h
    simp only [Bool.not_true, cond_false, if_true]
    rw [scUntil h1 ht]
    simp only [Option.bind_some]
    rw [pxName _ (small_tw _ (small_rd h1 ht))]
    simp only [Option.bind_some]
    cases hn : nameB ((rd (tk 60 r e) e).takeWhile (· != 62)) with
    | false =>
      simp only [Bool.not_false, cond_true, Bool.false_eq_true, if_false]
      rw [scFail]
      rfl
    | true =>
      simp only [Bool.not_true, cond_false, if_true]
      rw [scTake (suf_wl _ h1) ht]
      simp only [Option.bind_some]
      cases hq : tkB 62 (wl (· != 62) (tk 60 r e) e) e with
      | true => rfl
      | false =>
        simp only [Bool.not_false, cond_true]
        rw [scFail]
        rfl
theorem clk_range (s : List UInt8) (m : Int) : -4000000 ≤ (clk s m).1 ∧ (clk s m).1 ≤ 4000000 := by
  have hA : 0 ≤ (clkA s).2.2 ∧ (clkA s).2.2 < 1000 := fgV_nn 1 3 _ _ 3 (by omega)
  have hB : 0 ≤ (clkB s).2.2.1 ∧ (clkB s).2.2.1 < 100 := pt_range _ _
  have hC : 0 ≤ (clkC s).2.2.1 ∧ (clkC s).2.2.1 < 100 := by
    unfold clkC
    split
    · exact pt_range _ _
    · exact ⟨by simp, by simp⟩
  unfold clk clkN
  split
  · simp
  · split
    · simp
    · split
      · simp only; omega
      · simp only; omega
/-- An offset: what is left, the error, the offset. -/
def ofs (r : List UInt8) (e : Int) : List UInt8 × Int × Int :=
  (wl (runP clocks) r e, if e ≠ 0 then e else (clk ((rd r e).takeWhile (runP clocks)) 24).2, if e ≠ 0 then 0 else -(clk ((rd r e).takeWhile (runP clocks)) 24).1)
theorem rdOffset {t r : List UInt8} {e : Int} (h : r <:+ t) (ht : small t) : F_rdOffset (sc t r e, ()) = some (sc t (ofs r e).1 (ofs r e).2.1, (ofs r e).2.2) := by
  have hrun := scRun (e := e) h ht clocks
  unfold clocks at hrun
  rw [e_rdOffset, hrun]
  simp only [Option.bind_some]
  rw [scErr]
  simp only [Option.bind_some, cond_dec]
  unfold ofs
  by_cases h0 : e ≠ 0
  · rw [if_pos h0, if_pos h0, if_pos h0]
    rfl
  · rw [if_neg h0, if_neg h0, if_neg h0]
    have h0 : e = 0 := by omega
    subst h0
    have hc := ruleParseClock ((rd r 0).takeWhile (runP clocks)) 24 (small_tw _ (small_rd h ht)) (by omega) (by omega)
    have hr := clk_range ((rd r 0).takeWhile (runP clocks)) 24
    unfold clocks at hc hr ⊢
    rw [hc]
    simp only [Option.bind_some]
    rw [wrap_i64 (by omega) (by omega), Int.zero_sub]
    by_cases h1 : (clk ((rd r 0).takeWhile (runP clocks)) 24).2 ≠ 0
    · unfold clocks at h1
      rw [if_pos h1, scFail]
      rfl
    · unfold clocks at h1
      rw [if_neg h1]
      have h1 := Decidable.not_not.1 h1
      rw [h1]
/-- A comma and a rule: what is left, the error, the rule. -/
def rlE (r : List UInt8) (e : Int) : Int := if tkB 44 r e then e else fl 2 e
def rlS (r : List UInt8) (e : Int) : List UInt8 := (rd (tk 44 r e) (rlE r e)).takeWhile (· != 44)
def rl (r : List UInt8) (e : Int) : List UInt8 × Int × Rul :=
  (wl (· != 44) (tk 44 r e) (rlE r e), if rlE r e ≠ 0 then rlE r e else (rul (rlS r e)).2, if rlE r e ≠ 0 then noRule else (rul (rlS r e)).1)
theorem rl_tail {t r : List UInt8} {e : Int} (h : r <:+ t) (ht : small t) : ((F_scUntil (sc t r e, (), (44 : UInt8))).bind fun x2 =>
        (F_scErr (x2.fst, ())).bind fun x3 =>
          bif decide (x3.snd ≠ (0 : Int)) then some (x3.fst, (0 : Int), (0 : Int), (0 : Int), (0 : Int), (0 : Int))
          else (F_ruleParse x2.snd).bind fun x4 => bif decide (x4.snd ≠ (0 : Int)) then (F_scFail (x3.fst, (), x4.snd)).bind fun x5 => some (x5.fst, x4.fst) else some (x3.fst, x4.fst)) =
      some (sc t (wl (· != 44) r e) (if e ≠ 0 then e else (rul ((rd r e).takeWhile (· != 44))).2), if e ≠ 0 then noRule else (rul ((rd r e).takeWhile (· != 44))).1) := by
  rw [scUntil h ht]
  simp only [Option.bind_some]
  rw [scErr]
  simp only [Option.bind_some, cond_dec]
  by_cases h0 : e ≠ 0
  · rw [if_pos h0, if_pos h0, if_pos h0]
    rfl
  · rw [if_neg h0, if_neg h0, if_neg h0]
    have h0 : e = 0 := by omega
    subst h0
    rw [ruleParse _ (small_tw _ (small_rd h ht))]
    simp only [Option.bind_some]
    by_cases h1 : (rul ((rd r 0).takeWhile (· != 44))).2 ≠ 0
    · rw [if_pos h1, scFail]
      rfl
    · rw [if_neg h1]
      have h1 := Decidable.not_not.1 h1
      rw [h1]
theorem rdRule {t r : List UInt8} {e : Int} (h : r <:+ t) (ht : small t) : F_rdRule (sc t r e, ()) = some (sc t (rl r e).1 (rl r e).2.1, (rl r e).2.2) := by
  rw [e_rdRule, scTake h ht]
  simp only [Option.bind_some]
  unfold rl rlS rlE
  cases hb : tkB 44 r e with
  | true =>
    simp only [Bool.not_true, cond_false, if_true]
    exact rl_tail (suf_tk 44 h) ht
  | false =>
    simp only [Bool.not_false, cond_true, Bool.false_eq_true, if_false]
    rw [scFail]
    simp only [Option.bind_some]
    exact rl_tail (suf_tk 44 h) ht
end Go.Sm
/- Plain Lean: the summer part of a plan. -/
set_option linter.unusedVariables false
set_option linter.unusedSimpArgs false
namespace Go.Sm
open Go.Proofs

theorem suf_nm {t r : List UInt8} {e : Int} (h : r <:+ t) : (nm r e).1 <:+ t := by
  unfold nm
  split
  · split
    · exact suf_tk _ (suf_wl _ (suf_tk _ h))
    · exact suf_wl _ (suf_tk _ h)
  · exact suf_wl _ h
theorem suf_ofs {t r : List UInt8} {e : Int} (h : r <:+ t) : (ofs r e).1 <:+ t := suf_wl _ h
theorem suf_rl {t r : List UInt8} {e : Int} (h : r <:+ t) : (rl r e).1 <:+ t := suf_wl _ (suf_tk _ h)
/-- The summer's offset, told or not. -/
def ahd (r : List UInt8) (e o : Int) : List UInt8 × Int × Int :=
  match rd r e with
  | [] => (r, e, o + 3600)
  | b :: _ => if b ≠ 44 then ofs r e else (r, e, o + 3600)
theorem suf_ahd {t r : List UInt8} {e o : Int} (h : r <:+ t) : (ahd r e o).1 <:+ t := by
  unfold ahd
  split
  · exact h
  · split
    · exact suf_ofs h
    · exact h
abbrev Pln := List UInt8 × List UInt8 × Int × Int × Rul × Rul
def smA (r : List UInt8) (e o : Int) : List UInt8 × Int × Int := ahd (nm r e).1 (nm r e).2.1 o
def smB (r : List UInt8) (e o : Int) : List UInt8 × Int × Rul := rl (smA r e o).1 (smA r e o).2.1
def smC (r : List UInt8) (e o : Int) : List UInt8 × Int × Rul := rl (smB r e o).1 (smB r e o).2.1
theorem rdSummer {t r : List UInt8} {e : Int} (h : r <:+ t) (ht : small t) (n s : List UInt8) (o a : Int) (b c : Rul) (ho : -4000000 ≤ o ∧ o ≤ 4000000) :
    F_rdSummer (sc t r e, (), (n, s, o, a, b, c)) = some (sc t (smC r e o).1 (smC r e o).2.1, (n, (nm r e).2.2, o, (smA r e o).2.2, (smB r e o).2.2, (smC r e o).2.2)) := by
  have h1 := suf_nm (e := e) h
  have h2 : (smA r e o).1 <:+ t := suf_ahd h1
  have h3 : (smB r e o).1 <:+ t := suf_rl h2
  have hB : F_rdRule (sc t (smA r e o).1 (smA r e o).2.1, ()) = some (sc t (smB r e o).1 (smB r e o).2.1, (smB r e o).2.2) := rdRule h2 ht
  have hC : F_rdRule (sc t (smB r e o).1 (smB r e o).2.1, ()) = some (sc t (smC r e o).1 (smC r e o).2.1, (smC r e o).2.2) := rdRule h3 ht
  rw [e_rdSummer, rdName h ht]
  simp only [Option.bind_some]
  rw [scPeek h1]
  simp only [Option.bind_some]
  rw [wrap_i64 (by omega) (by omega)]
  cases hq : rd (nm r e).1 (nm r e).2.1 with
  | nil =>
    have hA : smA r e o = ((nm r e).1, (nm r e).2.1, o + 3600) := by unfold smA ahd; rw [hq]
    rw [hA] at hB
    simp only [cond_false]
    rw [hB]
    simp only [Option.bind_some]
    rw [hC, hA]
    rfl
  | cons x l =>
    simp only [cond_true, cond_dec]
    by_cases hx : x ≠ 44
    · have hA : smA r e o = ofs (nm r e).1 (nm r e).2.1 := by unfold smA ahd; rw [hq]; simp only; rw [if_pos hx]
      rw [if_pos hx, rdOffset h1 ht]
      simp only [Option.bind_some]
      rw [← hA, hB]
      simp only [Option.bind_some]
      rw [hC]
      rfl
    · have hA : smA r e o = ((nm r e).1, (nm r e).2.1, o + 3600) := by unfold smA ahd; rw [hq]; simp only; rw [if_neg hx]
      rw [hA] at hB
      rw [if_neg hx]
      rw [hB]
      simp only [Option.bind_some]
      rw [hC, hA]
      rfl
end Go.Sm
/- Plain Lean: the check of a plan; plans as the program reads them. -/
set_option linter.unusedVariables false
set_option linter.unusedSimpArgs false
namespace Go.Sm
open Go.Proofs

def shB (o : Int) : Bool := decide (-89999 ≤ o ∧ o ≤ 89999)
theorem pxShifts (o : Int) : F_pxShifts o = some (shB o) := by
  rw [e_pxShifts, cond_dec]
  unfold shB
  by_cases h : -89999 ≤ o
  · rw [if_pos h]; simp [h]
  · rw [if_neg h]; simp [h]
def isNo (b : Rul) : Bool := decide (b.1 = 0) && (decide (b.2.1 = 0) && (decide (b.2.2.1 = 0) && (decide (b.2.2.2.1 = 0) && (decide (b.2.2.2.2 = 0) && true))))
def idleB (a : Int) (b c : Rul) : Bool := decide (a = 0) && (isNo b && isNo c)
theorem pxIdle (p : Pln) : F_pxIdle p = some (idleB p.2.2.2.1 p.2.2.2.2.1 p.2.2.2.2.2) := by
  rw [e_pxIdle]
  unfold idleB
  cases decide (p.2.2.2.1 = 0) with
  | false => rfl
  | true =>
    rw [cond_true, Bool.true_and]
    show (bif isNo p.2.2.2.2.1 then some (isNo p.2.2.2.2.2) else some false) = _
    cases isNo p.2.2.2.2.1 <;> rfl
def rckR (b : Rul) : Int := rck b.1 b.2.1 b.2.2.1 b.2.2.2.1 b.2.2.2.2
theorem ruleCheckR (b : Rul) : F_ruleCheck b = some (rckR b) := ruleCheck _ _ _ _ _
/-- What is wrong with a plan. -/
def pck (p : Pln) : Int :=
  if nameB p.1 = false then 2
  else if p.2.1 ≠ [] then
    (if nameB p.2.1 = false then 2 else if shB p.2.2.1 = false then 1 else if shB p.2.2.2.1 = false then 1 else if rckR p.2.2.2.2.1 ≠ 0 then rckR p.2.2.2.2.1 else rckR p.2.2.2.2.2)
  else if idleB p.2.2.2.1 p.2.2.2.2.1 p.2.2.2.2.2 = false then 2 else if shB p.2.2.1 = false then 1 else if shB p.2.2.2.1 = false then 1 else 0
theorem pxCheck (p : Pln) (h1 : small p.1) (h2 : small p.2.1) : F_pxCheck p = some (pck p) := by
  have hch : F_pxChanges p = some (decide (p.2.1 ≠ [])) := e_pxChanges p
  rw [e_pxCheck, pxName _ h1]
  unfold pck
  simp only [Option.bind_some]
  cases hn : nameB p.1 with
  | false => rfl
  | true =>
    simp only [Bool.not_true, cond_false, Bool.true_eq_false, if_false]
    rw [hch]
    simp only [Option.bind_some]
    by_cases hs : p.2.1 ≠ []
    · rw [if_pos hs, decide_eq_true hs]
      simp only [cond_true, Bool.not_true, cond_false]
      rw [pxName _ h2]
      simp only [Option.bind_some]
      cases hm : nameB p.2.1 with
      | false => rfl
      | true =>
        simp only [Bool.not_true, cond_false, Bool.true_eq_false, if_false]
        rw [pxShifts]
        simp only [Option.bind_some]
        cases shB p.2.2.1 with
        | false => rfl
        | true =>
          simp only [Bool.not_true, cond_false, Bool.true_eq_false, if_false]
          rw [pxShifts]
          simp only [Option.bind_some]
          cases shB p.2.2.2.1 with
          | false => rfl
          | true =>
            simp only [Bool.not_true, cond_false, Bool.true_eq_false, if_false]
            rw [ruleCheckR]
            simp only [Option.bind_some, cond_dec]
            by_cases hr : rckR p.2.2.2.2.1 ≠ 0
            · rw [if_pos hr, if_pos hr]
            · rw [if_neg hr, if_neg hr, ruleCheckR]
              rfl
    · rw [if_neg hs, decide_eq_false hs]
      simp only [cond_false, Bool.not_false, cond_true]
      rw [pxIdle]
      simp only [Option.bind_some]
      cases idleB p.2.2.2.1 p.2.2.2.2.1 p.2.2.2.2.2 with
      | false => rfl
      | true =>
        simp only [Bool.not_true, cond_false, Bool.true_eq_false, if_false]
        rw [pxShifts]
        simp only [Option.bind_some]
        cases shB p.2.2.1 with
        | false => rfl
        | true =>
          simp only [Bool.not_true, cond_false, Bool.true_eq_false, if_false]
          rw [pxShifts]
          simp only [Option.bind_some]
          cases shB p.2.2.2.1 with
          | false => rfl
          | true => rfl
end Go.Sm
/- Plain Lean: the program's dates, the days of rules, years of seconds. -/
set_option linter.unusedVariables false
set_option linter.unusedSimpArgs false
namespace Go.Sm
open Go.Proofs

theorem yS_march (z E : Int) : yS (z + E * 400 + 1) = E * 146097 + 365 * z + z / 4 - z / 100 + z / 400 + 306 - 719468 := by
  have h4 : (z + E * 400 + 1 - 1) / 4 = z / 4 + E * 100 := by omega
  have h100 : (z + E * 400 + 1 - 1) / 100 = z / 100 + E * 4 := by omega
  have h400 : (z + E * 400 + 1 - 1) / 400 = z / 400 + E := by omega
  unfold yS
  rw [h4, h100, h400]
  omega
theorem dayDate (n : Int) (h1 : yS (-9999) ≤ n) (h2 : n < yS 10000) : ∃ y m d, F_dayDate n = some (y, m, d, 0) ∧ yS y ≤ n ∧ n < yS (y + 1) := by
  have a1 : yS (-9999) = -4371587 := by decide
  have a2 : yS 10000 = 2932897 := by decide
  rw [e_dayDate, dayFirst]
  simp only [Option.bind_some]
  rw [cond_dec, if_neg (by omega), dayLast]
  simp only [Option.bind_some]
  rw [cond_dec, if_neg (by omega), wrap_i64 (x := n + 719468) (by omega) (by omega), dayFloorC _ (by omega)]
  simp only [Option.bind_some]
  generalize hE : (n + 719468) / 146097 = E
  rw [wrap_i64 (x := E * 146097) (by omega) (by omega), wrap_i64 (x := n + 719468 - E * 146097) (by omega) (by omega)]
  generalize hF : n + 719468 - E * 146097 = f
  have hf0 : 0 ≤ f ∧ f ≤ 146096 := by omega
  rw [tdiv_nn (a := f) (b := 1460) (by omega), tdiv_nn (a := f) (b := 36524) (by omega), tdiv_nn (a := f) (b := 146096) (by omega), wrap_i64 (x := f / 1460) (by omega) (by omega), wrap_i64 (x := f / 36524) (by omega) (by omega), wrap_i64 (x := f / 146096) (by omega) (by omega), wrap_i64 (x := f - f / 1460) (by omega) (by omega), wrap_i64 (x := f - f / 1460 + f / 36524) (by omega) (by omega), wrap_i64 (x := f - f / 1460 + f / 36524 - f / 146096) (by omega) (by omega), tdiv_nn (a := f - f / 1460 + f / 36524 - f / 146096) (by omega)]
  generalize hO : (f - f / 1460 + f / 36524 - f / 146096) / 365 = o
  obtain ⟨o0, o1, o2, o3⟩ := civil f o hf0.1 hf0.2 hO.symm
  rw [wrap_i64 (x := o) (by omega) (by omega), wrap_i64 (x := 365 * o) (by omega) (by omega), tdiv_nn (a := o) (b := 4) (by omega), tdiv_nn (a := o) (b := 100) (by omega), wrap_i64 (x := o / 4) (by omega) (by omega), wrap_i64 (x := o / 100) (by omega) (by omega), wrap_i64 (x := 365 * o + o / 4) (by omega) (by omega), wrap_i64 (x := 365 * o + o / 4 - o / 100) (by omega) (by omega), wrap_i64 (x := f - (365 * o + o / 4 - o / 100)) (by omega) (by omega)]
  generalize hR : f - (365 * o + o / 4 - o / 100) = r
  have hr0 : 0 ≤ r ∧ r ≤ 366 := by omega
  rw [wrap_i64 (x := 5 * r) (by omega) (by omega), wrap_i64 (x := 5 * r + 2) (by omega) (by omega), tdiv_nn (a := 5 * r + 2) (b := 153) (by omega), wrap_i64 (x := (5 * r + 2) / 153) (by omega) (by omega), wrap_i64 (x := (5 * r + 2) / 153 + 3) (by omega) (by omega), wrap_i64 (x := E * 400) (by omega) (by omega), wrap_i64 (x := o + E * 400) (by omega) (by omega), cond_dec]
  by_cases hm : 12 < (5 * r + 2) / 153 + 3
  · rw [if_pos hm, wrap_i64 (x := o + E * 400 + 1) (by omega) (by omega)]
    refine ⟨_, _, _, rfl, ?_, ?_⟩
    · have : 306 ≤ r := by omega
      rw [yS_march]
      omega
    · rw [show o + E * 400 + 1 + 1 = (o + 1) + E * 400 + 1 by omega, yS_march]
      omega
  · rw [if_neg hm]
    have : r < 306 := by omega
    refine ⟨_, _, _, rfl, ?_, ?_⟩
    · rw [show o + E * 400 = (o - 1) + E * 400 + 1 by omega, yS_march]
      clear o3 hm hO
      omega
    · rw [yS_march]
      omega
theorem dayDate_bad (n : Int) (h : ¬ (yS (-9999) ≤ n ∧ n < yS 10000)) : F_dayDate n = some (0, 0, 0, 13) := by
  rw [e_dayDate, dayFirst]
  simp only [Option.bind_some]
  rw [cond_dec]
  by_cases h1 : n < yS (-9999)
  · rw [if_pos h1]
  · rw [if_neg h1, dayLast]
    simp only [Option.bind_some]
    rw [cond_dec, if_pos (by omega)]
theorem numDiv (a : Int) (h : -9223372036854775808 ≤ a ∧ a ≤ 9223372036854775807) : F_numDiv (a, (86400 : Int)) = some (a / 86400, 0) := by
  have key : (bif decide (a.tmod 86400 ≠ (0 : Int)) then
          bif !decide (a < (0 : Int)) == decide ((86400 : Int) < (0 : Int)) then some (IntKind.i64.wrap (IntKind.i64.wrap (a.tdiv 86400) - (1 : Int)), (0 : Int)) else some (IntKind.i64.wrap (a.tdiv 86400), (0 : Int))
        else some (IntKind.i64.wrap (a.tdiv 86400), (0 : Int))) = some (a / 86400, 0) := by
    rw [cond_dec]
    by_cases h0 : 0 ≤ a
    · rw [tmod_nn h0, tdiv_nn h0, decide_eq_false (show ¬ a < 0 by omega), wrap_i64 (x := a / 86400) (by omega) (by omega)]
      by_cases h1 : a % 86400 ≠ 0
      · rw [if_pos h1]; rfl
      · rw [if_neg h1]
    · rw [tmod_ng (by omega), tdiv_ng (by omega), decide_eq_true (show a < 0 by omega), wrap_i64 (x := -(-a / 86400)) (by omega) (by omega)]
      by_cases h1 : -(-a % 86400) ≠ 0
      · rw [if_pos h1]
        show some (IntKind.i64.wrap (-(-a / 86400) - 1), (0 : Int)) = _
        rw [wrap_i64 (by omega) (by omega)]
        congr 2
        omega
      · rw [if_neg h1]
        congr 2
        omega
  rw [e_numDiv, cond_dec, if_neg (by omega), cond_dec]
  by_cases hm : a = -9223372036854775808
  · rw [if_pos hm, cond_dec, if_neg (by omega), cond_dec, if_neg (by omega), cond_dec, if_neg (by omega)]
    exact key
  · rw [if_neg hm, cond_dec, if_neg (by omega), cond_dec, if_neg (by omega)]
    exact key
theorem numMod (a : Int) : ∃ r, F_numMod (a, (86400 : Int)) = some (r, 0) := by
  rw [e_numMod, cond_dec, if_neg (by omega), cond_dec, if_neg (by omega), cond_dec, if_neg (by omega), cond_dec]
  split
  · cases (!decide (a.tmod 86400 < 0) == decide ((86400 : Int) < 0)) with
    | true => exact ⟨_, rfl⟩
    | false => exact ⟨_, rfl⟩
  · exact ⟨_, rfl⟩
abbrev i64 (t : Int) : Prop := -9223372036854775808 ≤ t ∧ t ≤ 9223372036854775807
theorem ftYear_ok (t y : Int) (ht : i64 t) (hy : -9999 ≤ y ∧ y ≤ 9999) (h1 : yS y ≤ t / 86400) (h2 : t / 86400 < yS (y + 1)) : F_ftYear t = some (y, 0) := by
  have b1 := (yS_mono (x := -9999) (y := y) hy.1).1
  have b2 := (yS_mono (x := y + 1) (y := 10000) (by omega)).1
  obtain ⟨y', m, d, hd, h3, h4⟩ := dayDate (t / 86400) (by omega) (by omega)
  have := yS_uniq h1 h2 h3 h4
  subst this
  obtain ⟨r, hr⟩ := numMod t
  have hs : F_numSplit (t, (86400 : Int)) = some (t / 86400, r, 0) := by
    rw [e_numSplit, cond_dec, if_neg (by omega), numDiv t ht]
    simp only [Option.bind_some]
    rw [cond_dec, if_neg (by simp), hr]
    rfl
  rw [e_ftYear, hs]
  simp only [Option.bind_some]
  rw [cond_dec, if_neg (by simp), hd]
  rfl
abbrev dated (t : Int) : Prop := yS (-9999) ≤ t / 86400 ∧ t / 86400 < yS 10000
theorem ftYear_bad (t : Int) (ht : i64 t) (h : ¬ dated t) : F_ftYear t = some (0, 13) := by
  obtain ⟨r, hr⟩ := numMod t
  have hs : F_numSplit (t, (86400 : Int)) = some (t / 86400, r, 0) := by
    rw [e_numSplit, cond_dec, if_neg (by omega), numDiv t ht]
    simp only [Option.bind_some]
    rw [cond_dec, if_neg (by simp), hr]
    rfl
  rw [e_ftYear, hs]
  simp only [Option.bind_some]
  rw [cond_dec, if_neg (by simp), dayDate_bad _ h]
  rfl
/-- The year of a day that is a date's. -/
theorem year_ex (n : Int) (h : yS (-9999) ≤ n ∧ n < yS 10000) : ∃ y, (-9999 ≤ y ∧ y ≤ 9999) ∧ yS y ≤ n ∧ n < yS (y + 1) := by
  obtain ⟨y, m, d, _, h1, h2⟩ := dayDate n h.1 h.2
  refine ⟨y, ?_, h1, h2⟩
  constructor
  · by_cases hc : -9999 ≤ y
    · exact hc
    · have := (yS_mono (x := y + 1) (y := -9999) (by omega)).1
      omega
  · by_cases hc : y ≤ 9999
    · exact hc
    · have := (yS_mono (x := 10000) (y := y) (by omega)).1
      omega

/-! ### Days of rules -/
theorem leap_mod (y : Int) : leap (y.tmod 400 + 2000) ↔ leap y := by
  unfold leap
  by_cases h : 0 ≤ y
  · rw [tmod_nn h]; omega
  · rw [tmod_ng (by omega)]; omega
theorem mL_mod (y m : Int) : mL (y.tmod 400 + 2000) m = mL y m := by
  unfold mL
  by_cases h : leap y
  · rw [if_pos h, if_pos ((leap_mod y).2 h)]
  · rw [if_neg h, if_neg (fun q => h ((leap_mod y).1 q))]
theorem tmod_range (y : Int) : -400 < y.tmod 400 ∧ y.tmod 400 < 400 := by
  by_cases h : 0 ≤ y
  · rw [tmod_nn h]; omega
  · rw [tmod_ng (by omega)]; omega
theorem mC_le (y m : Int) (h1 : 1 ≤ m) (h2 : m ≤ 13) : 0 ≤ mC y m ∧ mC y m ≤ 366 := by
  unfold mC
  split
  · omega
  · split <;> omega
theorem month_loop (y w : Int) (hw : w ≤ 13) : ∀ (k : Nat) (n m : Int), 1 ≤ m → m + k = w → (-100000000 ≤ n ∧ n ≤ 100000000 + 400 * m) → w_ruleMonth_0 (y, w, n, m) = some (.inr (n + mC y w - mC y m))
  | 0, n, m, hm, hk, hn => by
    obtain rfl : m = w := by omega
    rw [ew_ruleMonth_0, es_ruleMonth_0, cond_dec, if_neg (by omega)]
    simp only [Option.bind_some, Sum.elim_inr]
    congr 2
    omega
  | k + 1, n, m, hm, hk, hn => by
    have hr := tmod_range y
    have hl := mL_le y m
    rw [ew_ruleMonth_0, es_ruleMonth_0, cond_dec, if_pos (by omega), wrap_i64 (x := y.tmod 400 + 2000) (by omega) (by omega), dayMonth _ m (by omega) (by omega), mL_mod]
    simp only [Option.bind_some]
    rw [cond_dec, if_neg (by simp), wrap_i64 (x := n + mL y m) (by omega) (by omega), wrap_i64 (x := m + 1) (by omega) (by omega)]
    simp only [Option.bind_some, Sum.elim_inl]
    rw [month_loop y w hw k (n + mL y m) (m + 1) (by omega) (by omega) (by omega), mC_succ y m (by omega) (by omega)]
    congr 2
    omega
theorem yS_big {y : Int} (h : -20000 ≤ y ∧ y ≤ 20000) : -9000000 ≤ yS y ∧ yS y ≤ 9000000 := by unfold yS; omega
theorem ruleMonth (y w : Int) (hy : -20000 ≤ y ∧ y ≤ 20000) (hw : 1 ≤ w ∧ w ≤ 13) : F_ruleMonth (y, w) = some (yS y + mC y w, 0) := by
  have hb := yS_big hy
  rw [e_ruleMonth, dayStart y hy]
  simp only [Option.bind_some]
  rw [cond_dec, if_neg (by simp), month_loop y w hw.2 (w - 1).toNat (yS y) 1 (by omega) (by omega) (by omega), mC_1]
  simp only [Option.bind_some, Sum.elim_inr]
  congr 2
  omega
/-- The day of a weekly rule. -/
def wkD (y m w d : Int) : Int :=
  if yS y + mC y (m + 1) ≤ yS y + mC y m + (d - ((yS y + mC y m + 3) % 7 + 1) % 7 + 7) % 7 + 7 * (w - 1) then yS y + mC y m + (d - ((yS y + mC y m + 3) % 7 + 1) % 7 + 7) % 7 + 7 * (w - 1) - 7
  else yS y + mC y m + (d - ((yS y + mC y m + 3) % 7 + 1) % 7 + 7) % 7 + 7 * (w - 1)
theorem ruleWeek (k m w d t y : Int) (hy : -20000 ≤ y ∧ y ≤ 20000) (hm : 1 ≤ m ∧ m ≤ 12) (hw : 1 ≤ w ∧ w ≤ 5) (hd : 0 ≤ d ∧ d ≤ 6) : F_ruleWeek ((k, m, w, d, t), y) = some (wkD y m w d, 0) := by
  have hb := yS_big hy
  have h1 := mC_le y m (by omega) (by omega)
  have h2 := mC_le y (m + 1) (by omega) (by omega)
  rw [e_ruleWeek, ruleMonth y m hy (by omega)]
  simp only [Option.bind_some]
  rw [cond_dec, if_neg (by simp), wrap_i64 (x := m + 1) (by omega) (by omega), ruleMonth y (m + 1) hy (by omega)]
  simp only [Option.bind_some]
  rw [cond_dec, if_neg (by simp), dayWeekday]
  simp only [Option.bind_some]
  unfold wkD
  have hF : -9000000 ≤ yS y + mC y m ∧ yS y + mC y m ≤ 9000400 := by omega
  generalize yS y + mC y m = F at hF ⊢
  generalize yS y + mC y (m + 1) = N
  rw [tmod_nn (a := (F + 3) % 7 + 1) (by omega)]
  simp only [wrap_add_l, wrap_add_r, wrap_sub_l, wrap_sub_r, wrap_mul_l, wrap_mul_r]
  rw [wrap_i64 (x := d - ((F + 3) % 7 + 1) % 7 + 7) (by omega) (by omega), tmod_nn (a := d - ((F + 3) % 7 + 1) % 7 + 7) (by omega)]
  rw [wrap_i64 (x := F + ((d - ((F + 3) % 7 + 1) % 7 + 7) % 7 + 7 * (w - 1))) (by omega) (by omega), wrap_i64 (x := F + ((d - ((F + 3) % 7 + 1) % 7 + 7) % 7 + 7 * (w - 1)) - 7) (by omega) (by omega), cond_dec, ← Int.add_assoc]
  by_cases hN : N ≤ F + (d - ((F + 3) % 7 + 1) % 7 + 7) % 7 + 7 * (w - 1)
  · rw [if_pos hN, if_pos hN]
  · rw [if_neg hN, if_neg hN]
/-- The day of a rule in a year. -/
def rD (r : Rul) (y : Int) : Int :=
  if r.1 = 3 then wkD y r.2.1 r.2.2.1 r.2.2.2.1 else if r.1 = 1 then (if r.2.2.2.1 < 60 ∨ ¬ leap y then yS y + r.2.2.2.1 - 1 else yS y + r.2.2.2.1) else yS y + r.2.2.2.1
theorem rck_may {r : Rul} (h : rckR r = 0) : may r.1 r.2.1 r.2.2.1 r.2.2.2.1 ∧ -604799 ≤ r.2.2.2.2 ∧ r.2.2.2.2 ≤ 604799 := by
  unfold rckR rck at h
  split at h
  · split at h
    · rename_i h2; exact h2
    · cases h
  · cases h
theorem wkD_range (y m w d : Int) (hm : 1 ≤ m ∧ m ≤ 12) (hw : 1 ≤ w ∧ w ≤ 5) : yS y + mC y m ≤ wkD y m w d ∧ wkD y m w d < yS y + mC y m + mL y m := by
  have h4 := mC_succ y m (by omega) (by omega)
  have h5 := mL_le y m
  unfold wkD
  rw [h4, ← Int.add_assoc]
  generalize yS y + mC y m = F
  split
  · omega
  · omega
/-- Where a rule's day lies. -/
theorem rD_range {r : Rul} (h : rckR r = 0) (y : Int) : yS y - 6 ≤ rD r y ∧ rD r y ≤ yS y + 366 := by
  obtain ⟨hm, _⟩ := rck_may h
  unfold may at hm
  unfold rD
  by_cases h3 : r.1 = 3
  · rw [if_pos h3]
    have h1 := mC_le y r.2.1 (by omega) (by omega)
    have h2 := mC_le y (r.2.1 + 1) (by omega) (by omega)
    have h4 := mC_succ y r.2.1 (by omega) (by omega)
    have h5 := wkD_range y r.2.1 r.2.2.1 r.2.2.2.1 (by omega) (by omega)
    omega
  · rw [if_neg h3]
    split
    · split
      · omega
      · omega
    · omega
/-- A rule's days are nearly a year apart. -/
theorem rD_next {r : Rul} (h : rckR r = 0) (y : Int) : rD r y + 330 ≤ rD r (y + 1) := by
  obtain ⟨hm, _⟩ := rck_may h
  have hy := yS_succ y
  have hL := yL_le y
  unfold may at hm
  unfold rD
  by_cases h3 : r.1 = 3
  · rw [if_pos h3, if_pos h3]
    have h5 := mL_le y r.2.1
    have h8 : mC y r.2.1 - 1 ≤ mC (y + 1) r.2.1 := by
      unfold mC
      split
      · omega
      · split
        · split <;> omega
        · split <;> omega
    have h9 := wkD_range y r.2.1 r.2.2.1 r.2.2.2.1 (by omega) (by omega)
    have h10 := wkD_range (y + 1) r.2.1 r.2.2.1 r.2.2.2.1 (by omega) (by omega)
    omega
  · rw [if_neg h3, if_neg h3]
    split
    · split
      · split <;> omega
      · split <;> omega
    · omega
theorem ruleDay {r : Rul} {y : Int} (h : rckR r = 0) (hy : -10001 ≤ y ∧ y ≤ 10001) : F_ruleDay (r, y) = some (rD r y, 0) := by
  obtain ⟨hm, _⟩ := rck_may h
  unfold may at hm
  obtain ⟨k, m, w, d, t⟩ := r
  have hb := yS_big (y := y) (by omega)
  have hc : F_ruleCheck (k, m, w, d, t) = some 0 := by rw [ruleCheck]; exact congrArg some h
  rw [e_ruleDay, hc]
  simp only [Option.bind_some]
  rw [cond_dec, if_neg (by simp), ruleIn, decide_eq_true (show (-10001 : Int) ≤ y ∧ y ≤ 10001 from hy)]
  simp only [Option.bind_some, Bool.not_true, cond_false]
  rw [cond_dec]
  unfold rD
  simp only at hm ⊢
  by_cases h3 : k = 3
  · rw [if_pos h3, if_pos h3, ruleWeek k m w d t y (by omega) (by omega) (by omega) (by omega)]
    rfl
  · rw [if_neg h3, if_neg h3, dayStart y (by omega)]
    simp only [Option.bind_some]
    rw [cond_dec, if_neg (by simp), cond_dec]
    by_cases h1 : k = 1
    · rw [if_pos h1, if_pos h1, cond_dec, wrap_sub_l, wrap_i64 (x := yS y + d - 1) (by omega) (by omega)]
      by_cases h60 : d < 60
      · rw [if_pos h60, if_pos (.inl h60)]
      · rw [if_neg h60, dayLeap]
        simp only [Option.bind_some]
        by_cases hl : leap y
        · rw [decide_eq_true hl, if_neg (by simp [h60, hl]), wrap_i64 (x := yS y + d) (by omega) (by omega)]
          rfl
        · rw [decide_eq_false hl, if_pos (.inr hl)]
          rfl
    · rw [if_neg h1, if_neg h1, wrap_i64 (x := yS y + d) (by omega) (by omega)]
def rA (r : Rul) (y : Int) : Int := rD r y * 86400 + r.2.2.2.2
theorem ruleAt {r : Rul} {y : Int} (h : rckR r = 0) (hy : -10001 ≤ y ∧ y ≤ 10001) : F_ruleAt (r, y) = some (rA r y, 0) := by
  have hb := yS_big (y := y) (by omega)
  have hr := rD_range h y
  obtain ⟨_, ht⟩ := rck_may h
  have hd := ruleDay h hy
  obtain ⟨k, m, w, d, t⟩ := r
  rw [e_ruleAt, hd]
  simp only [Option.bind_some]
  simp only at ht
  rw [cond_dec, if_neg (by simp), wrap_add_l, wrap_i64 (by omega) (by omega)]
  rfl
end Go.Sm
/- strings.Join, by the shelf's contract. Conditions: lengths as the contract says. -/
set_option linter.unusedVariables false
namespace Go.Sm
open Go.Proofs Go.RowKit

theorem ba_of {b : ByteArray} {s : List UInt8} (h : b.data.toList = s) : b = ⟨s.toArray⟩ := by
  obtain ⟨⟨l⟩⟩ := b
  simp at h
  rw [h]
theorem ba_map : ∀ l : List (List UInt8), (l.map fun s => (⟨s.toArray⟩ : ByteArray)).map (fun b => b.data.toList) = l
  | [] => rfl
  | a :: l => by rw [List.map_cons, List.map_cons, ba_map l]
def s_Join : SpecT := fun args H => match args, H with
  | [.lst .str l, .str sep], [] => .ite (decide ((l : List (List UInt8)).length ≤ 140737488355328 ∧ (Lib.join (l : List (List UInt8)) sep).length ≤ 140737488355328)) (.ret (.str (Lib.join (l : List (List UInt8)) sep), [])) .no
  | _, _ => .no
theorem so_Join : SoundT Tryd.prog 74 s_Join := by
  intro args H r H' h
  replace h : (s_Join args H).run = some (r, H') := h
  unfold s_Join at h
  split at h
  · rename_i l sep
    rcases run_ite h with ⟨hd, h⟩ | ⟨_, h⟩
    · obtain ⟨hl, hj⟩ := of_decide_eq_true hd
      obtain ⟨rfl, rfl⟩ := Prod.mk.inj (run_ret h)
      refine sim_pure ⟨_, Tryd.func74, rfl, by kernel_rfl⟩ fun M e w vs hr hc => ?_
      obtain ⟨v, u, rfl, hv, hu⟩ := cr_two hc
      cases hu with
      | @str _ _ sb hsb =>
        cases hv with
        | @lst _ _ _ a n cap g o f hn hcap hlies hvals =>
          subst hn
          cases l with
          | nil =>
            refine (Tryd.strings_Join_none a cap sb w).mono fun en w' ⟨he, hw⟩ => ?_
            subst hw
            exact ⟨_, he, Below.refl _ _, .str rfl⟩
          | cons x0 l0 =>
            have ha := hlies.at_ (by simp)
            subst ha
            have hcell : ∀ (j : Nat) x, ((x0 :: l0).map fun s => (⟨s.toArray⟩ : ByteArray))[j]? = some x → w.cell? ⟨g, o + j, none⟩ = some (.string x) := by
              intro j x hx
              rw [List.getElem?_map] at hx
              obtain ⟨s, hs, rfl⟩ := Option.map_eq_some_iff.1 hx
              have h1 : ((x0 :: l0).map (inj .str))[j]? = some (.str s) := by rw [List.getElem?_map, hs]; rfl
              have h2 := hlies.mem j 0 _ (.str s) h1 rfl
              have h3 := hvals j 0 _ (.str s) h1 rfl
              have h4 := hr.mem _ _ _ h2
              rw [show o + j * sizeC .str + 0 = o + j by simp [sizeC]] at h4
              rw [h4]
              cases h3' : f j 0 <;> rw [h3'] at h3 <;> cases h3
              rename_i b hb
              rw [ba_of hb]
            have hg : g < w.heap.size := by
              have := hcell 0 _ rfl
              unfold World.cell? at this
              cases hh : w.heap[g]? with
              | none => rw [hh] at this; cases this
              | some ob => exact (Array.getElem?_eq_some_iff.1 hh).1
            have hmap := ba_map (x0 :: l0)
            have hcall := Tryd.strings_Join g o cap ((x0 :: l0).map fun s => (⟨s.toArray⟩ : ByteArray)) sb w hcell hg (by simpa using hl) (by simpa using hcap) (by rw [hmap, hsb]; exact hj)
            rw [hmap, hsb, List.length_map] at hcall
            refine hcall.mono fun en w' ⟨he, hw⟩ => ?_
            exact ⟨_, he, hw, .str (by simp)⟩
    · exact (run_no h).elim
  · exact (run_no h).elim
end Go.Sm
/- Plans, rules and clocks as texts (program). No condition. -/
set_option linter.unusedVariables false
namespace Go.Sm
open Go.Proofs
/-! ### slices.Reverse[[]byte,byte] -/
noncomputable abbrev ct_slReverse : List (FuncId × Bool × SpecT) := []
theorem cs_slReverse : AllSound Tryd.prog ct_slReverse := trivial
-- loop 0 (key 1) exit 0: [0, 2, 3]
-- loop 0 (key 1) exit 3: []
abbrev kp_slReverse : Keep := keepT [(1, 0, [(0, some .u8), (2, none), (3, none)]), (1, 3, [])]
noncomputable abbrev b_slReverse_0 : Code := loopAt Tryd.f176 0
noncomputable def sp_slReverse_0 (x : ((List UInt8) × Int × Int)) : Option (((List UInt8) × Int × Int) ⊕ ((List UInt8))) := (stepL Tryd.prog (lookT ct_slReverse) kp_slReverse (loopsT []) 1 false b_slReverse_0 (codP [(.own .u8), pI, pI]) (exO (.ext 0) (codP [(.mem .u8)])) x).run
noncomputable def w_slReverse_0 : ((List UInt8) × Int × Int) → Option ((List UInt8)) := whileO sp_slReverse_0
theorem ew_slReverse_0 (x : ((List UInt8) × Int × Int)) : w_slReverse_0 x = (sp_slReverse_0 x).bind (Sum.elim w_slReverse_0 some) := whileO_eq _ _
noncomputable abbrev l_slReverse_0 : LT := ltF (codP [(.own .u8), pI, pI]) (exO (.ext 0) (codP [(.mem .u8)])) w_slReverse_0
theorem lo_slReverse_0 : LoopOk Tryd.prog Tryd.f176.ntmps kp_slReverse 1 false b_slReverse_0 l_slReverse_0 := loopG mixed cs_slReverse (lps := loopsT []) (by kernel_rfl) (ls := []) (by kernel_rfl) lps_nil
noncomputable def F_slReverse (x : ((List UInt8))) : Option ((List UInt8)) := (evalF Tryd.prog (lookT ct_slReverse) (kp_slReverse) (loopsT [(1, l_slReverse_0)]) false false Tryd.f176 (codP [(.own .u8)]) 0 (codP [(.mem .u8)]) x).run
noncomputable abbrev s_slReverse : SpecT := specF (codP [(.own .u8)]) 0 (codP [(.mem .u8)]) F_slReverse
theorem so_slReverse : SoundT Tryd.prog 176 s_slReverse := soundG (P := Tryd.prog) mixed (t := ct_slReverse) cs_slReverse (f := 176) (fn := Tryd.f176) Tryd.func176 (by kernel_rfl) (by kernel_rfl) (by kernel_rfl) (ls := [b_slReverse_0]) (by kernel_rfl) (kp := kp_slReverse) (lps := loopsT [(1, l_slReverse_0)]) (bump := false) (ice := false) (A := (codP [(.own .u8)])) (n := 0) (R := (codP [(.mem .u8)])) fun _ => (lps_cons l_slReverse_0 (by kernel_rfl) lo_slReverse_0 lps_nil)

theorem es_slReverse_0 (l : List UInt8) (i j : Int) : sp_slReverse_0 (l, i, j) = (
  bif decide (i < j) then
    bif decide ((0 : Int) ≤ j ∧ j < (↑l.length : Int)) then
      l[j.toNat]?.bind fun x1 =>
        bif decide ((0 : Int) ≤ i ∧ i < (↑l.length : Int)) then
          l[i.toNat]?.bind fun x2 =>
            bif decide ((0 : Int) ≤ i ∧ i < (↑l.length : Int)) then
              l[i.toNat]?.bind fun x3 =>
                bif decide ((0 : Int) ≤ j ∧ j < (↑(l.set i.toNat x1).length : Int)) then
                  (l.set i.toNat x1)[j.toNat]?.bind fun x4 => some (Sum.inl ((l.set i.toNat x1).set j.toNat x2, IntKind.i64.wrap (i + (1 : Int)), IntKind.i64.wrap (j - (1 : Int))))
                else none
            else none
        else none
    else none
  else some (Sum.inr l)) := by kernel_rfl

theorem e_slReverse (l : List UInt8) : F_slReverse l = (
  (w_slReverse_0 (l, (0 : Int), IntKind.i64.wrap ((↑l.length : Int) - (1 : Int)))).bind fun x1 => some x1) := by kernel_rfl


/-! ### horologe/figures.raw -/
noncomputable abbrev ct_figRaw : List (FuncId × Bool × SpecT) := [(176, false, s_slReverse)]
theorem cs_figRaw : AllSound Tryd.prog ct_figRaw := ⟨so_slReverse, trivial⟩
-- loop 0 (key 2) exit 0: [0, 1, 5]
-- loop 0 (key 2) exit 3: [5]
abbrev kp_figRaw : Keep := keepT [(2, 0, [(0, none), (1, none), (5, some .u8)]), (2, 3, [(5, some .u8)])]
noncomputable abbrev b_figRaw_0 : Code := loopAt Tryd.f160 0
noncomputable def sp_figRaw_0 (x : (Int × Int × (List UInt8))) : Option ((Int × Int × (List UInt8)) ⊕ ((List UInt8))) := (stepL Tryd.prog (lookT ct_figRaw) kp_figRaw (loopsT []) 0 false b_figRaw_0 (codP [pW, pI, (.own .u8)]) (exO (.ext 0) (codP [(.own .u8)])) x).run
noncomputable def w_figRaw_0 : (Int × Int × (List UInt8)) → Option ((List UInt8)) := whileO sp_figRaw_0
theorem ew_figRaw_0 (x : (Int × Int × (List UInt8))) : w_figRaw_0 x = (sp_figRaw_0 x).bind (Sum.elim w_figRaw_0 some) := whileO_eq _ _
noncomputable abbrev l_figRaw_0 : LT := ltF (codP [pW, pI, (.own .u8)]) (exO (.ext 0) (codP [(.own .u8)])) w_figRaw_0
theorem lo_figRaw_0 : LoopOk Tryd.prog Tryd.f160.ntmps kp_figRaw 0 false b_figRaw_0 l_figRaw_0 := loopG mixed cs_figRaw (lps := loopsT []) (by kernel_rfl) (ls := []) (by kernel_rfl) lps_nil
noncomputable def F_figRaw (x : (Int × Int)) : Option ((List UInt8)) := (evalF Tryd.prog (lookT ct_figRaw) (kp_figRaw) (loopsT [(2, l_figRaw_0)]) false false Tryd.f160 (codP [pW, pI]) 1 (codP [pS]) x).run
noncomputable abbrev s_figRaw : SpecT := specF (codP [pW, pI]) 1 (codP [pS]) F_figRaw
theorem so_figRaw : SoundT Tryd.prog 160 s_figRaw := soundG (P := Tryd.prog) mixed (t := ct_figRaw) cs_figRaw (f := 160) (fn := Tryd.f160) Tryd.func160 (by kernel_rfl) (by kernel_rfl) (by kernel_rfl) (ls := [b_figRaw_0]) (by kernel_rfl) (kp := kp_figRaw) (lps := loopsT [(2, l_figRaw_0)]) (bump := false) (ice := false) (A := (codP [pW, pI])) (n := 1) (R := (codP [pS])) fun _ => (lps_cons l_figRaw_0 (by kernel_rfl) lo_figRaw_0 lps_nil)

theorem es_figRaw_0 (n w : Int) (l : List UInt8) : sp_figRaw_0 (n, w, l) = (
  bif decide ((0 : Int) < n) then
    bif roomB l.length [(48 : UInt8) + byteI (n.tmod (10 : Int))].length (1 : Nat) then some (Sum.inl (IntKind.u64.wrap (n.tdiv (10 : Int)), w, l ++ [(48 : UInt8) + byteI (n.tmod (10 : Int))]))
    else none
  else
    bif decide ((↑l.length : Int) < max w (1 : Int)) then
      bif roomB l.length [(48 : UInt8) + byteI (n.tmod (10 : Int))].length (1 : Nat) then some (Sum.inl (IntKind.u64.wrap (n.tdiv (10 : Int)), w, l ++ [(48 : UInt8) + byteI (n.tmod (10 : Int))]))
      else none
    else some (Sum.inr l)) := by kernel_rfl

theorem e_figRaw (n w : Int) : F_figRaw (n, w) = (
  (w_figRaw_0 (n, w, [])).bind fun x1 => (F_slReverse x1).bind fun x2 => some x2) := by kernel_rfl


/-! ### horologe/figures.Put -/
noncomputable abbrev ct_figPut : List (FuncId × Bool × SpecT) := [(160, false, s_figRaw)]
theorem cs_figPut : AllSound Tryd.prog ct_figPut := ⟨so_figRaw, trivial⟩
noncomputable def F_figPut (x : (Int × Int)) : Option ((List UInt8) × Int) := (evalF Tryd.prog (lookT ct_figPut) (keepT []) (loopsT []) false false Tryd.f135 (codP [pI, pI]) 2 (codP [pS, pE]) x).run
noncomputable abbrev s_figPut : SpecT := specF (codP [pI, pI]) 2 (codP [pS, pE]) F_figPut
theorem so_figPut : SoundT Tryd.prog 135 s_figPut := soundG (P := Tryd.prog) mixed (t := ct_figPut) cs_figPut (f := 135) (fn := Tryd.f135) Tryd.func135 (by kernel_rfl) (by kernel_rfl) (by kernel_rfl) (ls := []) (by kernel_rfl) (kp := keepT []) (lps := loopsT []) (bump := false) (ice := false) (A := (codP [pI, pI])) (n := 2) (R := (codP [pS, pE])) fun _ => lps_nil

theorem e_figPut (n w : Int) : F_figPut (n, w) = (
  bif decide (w < (0 : Int)) then some ([], (1 : Int))
  else
    bif decide ((20 : Int) < w) then some ([], (1 : Int))
    else
      bif decide (n < (0 : Int)) then
        (F_figRaw (IntKind.u64.wrap ((0 : Int) - IntKind.u64.wrap n), w)).bind fun x1 =>
          bif decide ((1 : Nat) + x1.length ≤ (9223372036854775807 : Nat)) then some ([(45 : UInt8)] ++ x1, (0 : Int)) else none
      else (F_figRaw (IntKind.u64.wrap n, w)).bind fun x1 => some (x1, (0 : Int))) := by kernel_rfl


/-! ### (*horologe/rule.writer).text -/
noncomputable abbrev ct_rwText : List (FuncId × Bool × SpecT) := []
theorem cs_rwText : AllSound Tryd.prog ct_rwText := trivial
noncomputable def F_rwText (x : (((List UInt8) × Int) × (Unit × (List UInt8)))) : Option (((List UInt8) × Int) × Unit) := (evalF Tryd.prog (lookT ct_rwText) (keepT []) (loopsT []) true false Tryd.f106 (codR 0 [(.own .u8), pE] [p0, pS]) 0 (codR 1 [(.own .u8), pE] []) x).run
noncomputable abbrev s_rwText : SpecT := specF (codR 0 [(.own .u8), pE] [p0, pS]) 0 (codR 1 [(.own .u8), pE] []) F_rwText
theorem so_rwText : SoundT Tryd.prog 106 s_rwText := soundG (P := Tryd.prog) mixed (t := ct_rwText) cs_rwText (f := 106) (fn := Tryd.f106) Tryd.func106 (by kernel_rfl) (by kernel_rfl) (by kernel_rfl) (ls := []) (by kernel_rfl) (kp := keepT []) (lps := loopsT []) (bump := true) (ice := false) (A := (codR 0 [(.own .u8), pE] [p0, pS])) (n := 0) (R := (codR 1 [(.own .u8), pE] [])) fun _ => lps_nil

theorem e_rwText (b : List UInt8) (e : Int) (s : List UInt8) : F_rwText ((b, e), (), s) = (
  bif roomB b.length s.length (1 : Nat) then some ((b ++ s, e), ()) else none) := by kernel_rfl


/-! ### (*horologe/rule.writer).put -/
noncomputable abbrev ct_rwPut : List (FuncId × Bool × SpecT) := [(135, false, s_figPut), (106, false, s_rwText)]
theorem cs_rwPut : AllSound Tryd.prog ct_rwPut := ⟨so_figPut, so_rwText, trivial⟩
noncomputable def F_rwPut (x : (((List UInt8) × Int) × (Unit × Int × Int))) : Option (((List UInt8) × Int) × Unit) := (evalF Tryd.prog (lookT ct_rwPut) (keepT []) (loopsT []) true false Tryd.f107 (codR 0 [(.own .u8), pE] [p0, pI, pI]) 0 (codR 1 [(.own .u8), pE] []) x).run
noncomputable abbrev s_rwPut : SpecT := specF (codR 0 [(.own .u8), pE] [p0, pI, pI]) 0 (codR 1 [(.own .u8), pE] []) F_rwPut
theorem so_rwPut : SoundT Tryd.prog 107 s_rwPut := soundG (P := Tryd.prog) mixed (t := ct_rwPut) cs_rwPut (f := 107) (fn := Tryd.f107) Tryd.func107 (by kernel_rfl) (by kernel_rfl) (by kernel_rfl) (ls := []) (by kernel_rfl) (kp := keepT []) (lps := loopsT []) (bump := true) (ice := false) (A := (codR 0 [(.own .u8), pE] [p0, pI, pI])) (n := 0) (R := (codR 1 [(.own .u8), pE] [])) fun _ => lps_nil

theorem e_rwPut (b : List UInt8) (e : Int) (n w : Int) : F_rwPut ((b, e), (), n, w) = (
  (F_figPut (n, w)).bind fun x1 =>
    bif decide (x1.snd ≠ (0 : Int)) then (F_rwText ((b, x1.snd), (), x1.fst)).bind fun x2 => some (x2.fst, ()) else (F_rwText ((b, e), (), x1.fst)).bind fun x2 => some (x2.fst, ())) := by kernel_rfl


/-! ### (*horologe/rule.writer).clock -/
noncomputable abbrev ct_rwClock : List (FuncId × Bool × SpecT) := [(106, false, s_rwText), (107, false, s_rwPut)]
theorem cs_rwClock : AllSound Tryd.prog ct_rwClock := ⟨so_rwText, so_rwPut, trivial⟩
noncomputable def F_rwClock (x : (((List UInt8) × Int) × (Unit × Int))) : Option (((List UInt8) × Int) × Unit) := (evalF Tryd.prog (lookT ct_rwClock) (keepT []) (loopsT []) true false Tryd.f105 (codR 0 [(.own .u8), pE] [p0, pI]) 0 (codR 1 [(.own .u8), pE] []) x).run
noncomputable abbrev s_rwClock : SpecT := specF (codR 0 [(.own .u8), pE] [p0, pI]) 0 (codR 1 [(.own .u8), pE] []) F_rwClock
theorem so_rwClock : SoundT Tryd.prog 105 s_rwClock := soundG (P := Tryd.prog) mixed (t := ct_rwClock) cs_rwClock (f := 105) (fn := Tryd.f105) Tryd.func105 (by kernel_rfl) (by kernel_rfl) (by kernel_rfl) (ls := []) (by kernel_rfl) (kp := keepT []) (lps := loopsT []) (bump := true) (ice := false) (A := (codR 0 [(.own .u8), pE] [p0, pI])) (n := 0) (R := (codR 1 [(.own .u8), pE] [])) fun _ => lps_nil

theorem e_rwClock (b : List UInt8) (e : Int) (n : Int) : F_rwClock ((b, e), (), n) = (
  bif decide (n < (0 : Int)) then
    (F_rwText ((b, e), (), [(45 : UInt8)])).bind fun x1 =>
      (F_rwPut (x1.fst, (), IntKind.i64.wrap ((IntKind.i64.wrap ((0 : Int) - n)).tdiv (3600 : Int)), (0 : Int))).bind fun x2 =>
        bif decide ((IntKind.i64.wrap ((0 : Int) - n)).tmod (3600 : Int) = (0 : Int)) then some (x2.fst, ())
        else
          (F_rwText (x2.fst, (), [(58 : UInt8)])).bind fun x3 =>
            (F_rwPut (x3.fst, (), IntKind.i64.wrap (((IntKind.i64.wrap ((0 : Int) - n)).tmod (3600 : Int)).tdiv (60 : Int)), (2 : Int))).bind fun x4 =>
              bif decide ((IntKind.i64.wrap ((0 : Int) - n)).tmod (60 : Int) = (0 : Int)) then some (x4.fst, ())
              else (F_rwText (x4.fst, (), [(58 : UInt8)])).bind fun x5 => (F_rwPut (x5.fst, (), (IntKind.i64.wrap ((0 : Int) - n)).tmod (60 : Int), (2 : Int))).bind fun x6 => some (x6.fst, ())
  else
    (F_rwPut ((b, e), (), IntKind.i64.wrap (n.tdiv (3600 : Int)), (0 : Int))).bind fun x1 =>
      bif decide (n.tmod (3600 : Int) = (0 : Int)) then some (x1.fst, ())
      else
        (F_rwText (x1.fst, (), [(58 : UInt8)])).bind fun x2 =>
          (F_rwPut (x2.fst, (), IntKind.i64.wrap ((n.tmod (3600 : Int)).tdiv (60 : Int)), (2 : Int))).bind fun x3 =>
            bif decide (n.tmod (60 : Int) = (0 : Int)) then some (x3.fst, ())
            else (F_rwText (x3.fst, (), [(58 : UInt8)])).bind fun x4 => (F_rwPut (x4.fst, (), n.tmod (60 : Int), (2 : Int))).bind fun x5 => some (x5.fst, ())) := by kernel_rfl


/-! ### horologe/rule.PutClock -/
noncomputable abbrev ct_PutClock : List (FuncId × Bool × SpecT) := [(103, false, s_ruleIn), (105, false, s_rwClock)]
theorem cs_PutClock : AllSound Tryd.prog ct_PutClock := ⟨so_ruleIn, so_rwClock, trivial⟩
noncomputable def F_PutClock (x : (Int × Int)) : Option ((List UInt8) × Int) := (evalF Tryd.prog (lookT ct_PutClock) (keepT []) (loopsT []) false false Tryd.f72 (codP [pI, pI]) 2 (codP [pS, pE]) x).run
noncomputable abbrev s_PutClock : SpecT := specF (codP [pI, pI]) 2 (codP [pS, pE]) F_PutClock
theorem so_PutClock : SoundT Tryd.prog 72 s_PutClock := soundG (P := Tryd.prog) mixed (t := ct_PutClock) cs_PutClock (f := 72) (fn := Tryd.f72) Tryd.func72 (by kernel_rfl) (by kernel_rfl) (by kernel_rfl) (ls := []) (by kernel_rfl) (kp := keepT []) (lps := loopsT []) (bump := false) (ice := false) (A := (codP [pI, pI])) (n := 2) (R := (codP [pS, pE])) fun _ => lps_nil

theorem e_PutClock (n m : Int) : F_PutClock (n, m) = (
  (F_ruleIn (m, (0 : Int), (999 : Int))).bind fun x1 =>
    bif !x1 then some ([], (1 : Int))
    else
      (F_ruleIn
            (n, IntKind.i64.wrap ((0 : Int) - IntKind.i64.wrap (IntKind.i64.wrap (IntKind.i64.wrap (m * (3600 : Int)) + (3600 : Int)) - (1 : Int))),
              IntKind.i64.wrap (IntKind.i64.wrap (IntKind.i64.wrap (m * (3600 : Int)) + (3600 : Int)) - (1 : Int)))).bind
        fun x2 => bif !x2 then some ([], (1 : Int)) else (F_rwClock (([], (0 : Int)), (), n)).bind fun x3 => some x3.fst) := by kernel_rfl


/-! ### horologe/rule.Put -/
noncomputable abbrev ct_rulePut : List (FuncId × Bool × SpecT) := [(68, false, s_ruleCheck), (106, false, s_rwText), (107, false, s_rwPut), (105, false, s_rwClock)]
theorem cs_rulePut : AllSound Tryd.prog ct_rulePut := ⟨so_ruleCheck, so_rwText, so_rwPut, so_rwClock, trivial⟩
noncomputable def F_rulePut (x : ((Int × Int × Int × Int × Int))) : Option ((List UInt8) × Int) := (evalF Tryd.prog (lookT ct_rulePut) (keepT []) (loopsT []) false false Tryd.f73 (codP [pRule]) 2 (codP [pS, pE]) x).run
noncomputable abbrev s_rulePut : SpecT := specF (codP [pRule]) 2 (codP [pS, pE]) F_rulePut
theorem so_rulePut : SoundT Tryd.prog 73 s_rulePut := soundG (P := Tryd.prog) mixed (t := ct_rulePut) cs_rulePut (f := 73) (fn := Tryd.f73) Tryd.func73 (by kernel_rfl) (by kernel_rfl) (by kernel_rfl) (ls := []) (by kernel_rfl) (kp := keepT []) (lps := loopsT []) (bump := false) (ice := false) (A := (codP [pRule])) (n := 2) (R := (codP [pS, pE])) fun _ => lps_nil

theorem e_rulePut (k m w d t : Int) : F_rulePut (k, m, w, d, t) = (
  (F_ruleCheck (k, m, w, d, t)).bind fun x1 =>
    bif decide (x1 ≠ (0 : Int)) then some ([], x1)
    else
      bif decide (k = (1 : Int)) then
        (F_rwText (([], (0 : Int)), (), [(74 : UInt8)])).bind fun x2 =>
          (F_rwPut (x2.fst, (), d, (0 : Int))).bind fun x3 =>
            bif decide (t ≠ (7200 : Int)) then (F_rwText (x3.fst, (), [(47 : UInt8)])).bind fun x4 => (F_rwClock (x4.fst, (), t)).bind fun x5 => some x5.fst else some x3.fst
      else
        bif decide (k = (3 : Int)) then
          (F_rwText (([], (0 : Int)), (), [(77 : UInt8)])).bind fun x2 =>
            (F_rwPut (x2.fst, (), m, (0 : Int))).bind fun x3 =>
              (F_rwText (x3.fst, (), [(46 : UInt8)])).bind fun x4 =>
                (F_rwPut (x4.fst, (), w, (0 : Int))).bind fun x5 =>
                  (F_rwText (x5.fst, (), [(46 : UInt8)])).bind fun x6 =>
                    (F_rwPut (x6.fst, (), d, (0 : Int))).bind fun x7 =>
                      bif decide (t ≠ (7200 : Int)) then (F_rwText (x7.fst, (), [(47 : UInt8)])).bind fun x8 => (F_rwClock (x8.fst, (), t)).bind fun x9 => some x9.fst else some x7.fst
        else
          (F_rwPut (([], (0 : Int)), (), d, (0 : Int))).bind fun x2 =>
            bif decide (t ≠ (7200 : Int)) then (F_rwText (x2.fst, (), [(47 : UInt8)])).bind fun x3 => (F_rwClock (x3.fst, (), t)).bind fun x4 => some x4.fst else some x2.fst) := by kernel_rfl


/-! ### horologe/posix.name -/
noncomputable abbrev ct_pxText : List (FuncId × Bool × SpecT) := [(78, false, s_pxOf)]
theorem cs_pxText : AllSound Tryd.prog ct_pxText := ⟨so_pxOf, trivial⟩
noncomputable def F_pxText (x : ((List UInt8))) : Option ((List UInt8)) := (evalF Tryd.prog (lookT ct_pxText) (keepT []) (loopsT []) false false Tryd.f70 (codP [pS]) 1 (codP [pS]) x).run
noncomputable abbrev s_pxText : SpecT := specF (codP [pS]) 1 (codP [pS]) F_pxText
theorem so_pxText : SoundT Tryd.prog 70 s_pxText := soundG (P := Tryd.prog) mixed (t := ct_pxText) cs_pxText (f := 70) (fn := Tryd.f70) Tryd.func70 (by kernel_rfl) (by kernel_rfl) (by kernel_rfl) (ls := []) (by kernel_rfl) (kp := keepT []) (lps := loopsT []) (bump := false) (ice := false) (A := (codP [pS])) (n := 1) (R := (codP [pS])) fun _ => lps_nil

theorem e_pxText (s : List UInt8) : F_pxText s = (
  (F_pxOf
        (s,
          [(65 : UInt8), (66 : UInt8), (67 : UInt8), (68 : UInt8), (69 : UInt8), (70 : UInt8), (71 : UInt8), (72 : UInt8), (73 : UInt8), (74 : UInt8), (75 : UInt8), (76 : UInt8), (77 : UInt8),
            (78 : UInt8), (79 : UInt8), (80 : UInt8), (81 : UInt8), (82 : UInt8), (83 : UInt8), (84 : UInt8), (85 : UInt8), (86 : UInt8), (87 : UInt8), (88 : UInt8), (89 : UInt8), (90 : UInt8),
            (97 : UInt8), (98 : UInt8), (99 : UInt8), (100 : UInt8), (101 : UInt8), (102 : UInt8), (103 : UInt8), (104 : UInt8), (105 : UInt8), (106 : UInt8), (107 : UInt8), (108 : UInt8),
            (109 : UInt8), (110 : UInt8), (111 : UInt8), (112 : UInt8), (113 : UInt8), (114 : UInt8), (115 : UInt8), (116 : UInt8), (117 : UInt8), (118 : UInt8), (119 : UInt8), (120 : UInt8),
            (121 : UInt8), (122 : UInt8)])).bind
    fun x1 =>
    bif x1 then some s
    else
      bif decide ((1 : Nat) + s.length ≤ (9223372036854775807 : Nat)) then
        bif decide (([(60 : UInt8)] ++ s).length + (1 : Nat) ≤ (9223372036854775807 : Nat)) then some ([(60 : UInt8)] ++ s ++ [(62 : UInt8)]) else none
      else none) := by kernel_rfl


/-! ### (*horologe/posix.writer).put -/
noncomputable abbrev ct_pwPut : List (FuncId × Bool × SpecT) := []
theorem cs_pwPut : AllSound Tryd.prog ct_pwPut := trivial
noncomputable def F_pwPut (x : (((List (List UInt8)) × Int) × (Unit × (List UInt8) × Int))) : Option (((List (List UInt8)) × Int) × Unit) := (evalF Tryd.prog (lookT ct_pwPut) (keepT []) (loopsT []) true false Tryd.f71 (codR 0 [(.own .str), pE] [p0, pS, pE]) 0 (codR 1 [(.own .str), pE] []) x).run
noncomputable abbrev s_pwPut : SpecT := specF (codR 0 [(.own .str), pE] [p0, pS, pE]) 0 (codR 1 [(.own .str), pE] []) F_pwPut
theorem so_pwPut : SoundT Tryd.prog 71 s_pwPut := soundG (P := Tryd.prog) mixed (t := ct_pwPut) cs_pwPut (f := 71) (fn := Tryd.f71) Tryd.func71 (by kernel_rfl) (by kernel_rfl) (by kernel_rfl) (ls := []) (by kernel_rfl) (kp := keepT []) (lps := loopsT []) (bump := true) (ice := false) (A := (codR 0 [(.own .str), pE] [p0, pS, pE])) (n := 0) (R := (codR 1 [(.own .str), pE] [])) fun _ => lps_nil

theorem e_pwPut (l : List (List UInt8)) (e : Int) (s : List UInt8) (x : Int) : F_pwPut ((l, e), (), s, x) = (
  bif decide (x ≠ (0 : Int)) then
    bif decide (e = (0 : Int)) then bif roomB l.length [s].length (16 : Nat) then some ((l ++ [s], x), ()) else none else bif roomB l.length [s].length (16 : Nat) then some ((l ++ [s], e), ()) else none
  else bif roomB l.length [s].length (16 : Nat) then some ((l ++ [s], e), ()) else none) := by kernel_rfl


/-! ### horologe/posix.Put -/
noncomputable abbrev ct_pxPut : List (FuncId × Bool × SpecT) := [(28, false, s_pxCheck), (70, false, s_pxText), (72, false, s_PutClock), (71, false, s_pwPut), (33, false, s_pxChanges), (73, false, s_rulePut), (74, true, s_Join)]
theorem cs_pxPut : AllSound Tryd.prog ct_pxPut := ⟨so_pxCheck, so_pxText, so_PutClock, so_pwPut, so_pxChanges, so_rulePut, so_Join, trivial⟩
-- loop 0 (key 11) exit 0: [5, 52, 53]
-- loop 0 (key 11) exit 3: [5]
abbrev kp_pxPut : Keep := keepT [(11, 0, [(5, none), (52, none), (53, none)]), (11, 3, [(5, none)])]
noncomputable abbrev b_pxPut_0 : Code := loopAt Tryd.f31 0
noncomputable def sp_pxPut_0 (x : (((List (List UInt8)) × Int) × (Unit × ((Int × Int × Int × Int × Int) × (Int × Int × Int × Int × Int)) × Int))) : Option ((((List (List UInt8)) × Int) × (Unit × ((Int × Int × Int × Int × Int) × (Int × Int × Int × Int × Int)) × Int)) ⊕ (((List (List UInt8)) × Int) × (Unit))) := (stepL Tryd.prog (lookT ct_pxPut) kp_pxPut (loopsT []) 0 false b_pxPut_0 (codR 0 [(.own .str), pE] [p0, (.pure (.pair cRule cRule)), pI]) (exO (.ext 0) (codR 0 [(.own .str), pE] [p0])) x).run
noncomputable def w_pxPut_0 : (((List (List UInt8)) × Int) × (Unit × ((Int × Int × Int × Int × Int) × (Int × Int × Int × Int × Int)) × Int)) → Option (((List (List UInt8)) × Int) × (Unit)) := whileO sp_pxPut_0
theorem ew_pxPut_0 (x : (((List (List UInt8)) × Int) × (Unit × ((Int × Int × Int × Int × Int) × (Int × Int × Int × Int × Int)) × Int))) : w_pxPut_0 x = (sp_pxPut_0 x).bind (Sum.elim w_pxPut_0 some) := whileO_eq _ _
noncomputable abbrev l_pxPut_0 : LT := ltF (codR 0 [(.own .str), pE] [p0, (.pure (.pair cRule cRule)), pI]) (exO (.ext 0) (codR 0 [(.own .str), pE] [p0])) w_pxPut_0
theorem lo_pxPut_0 : LoopOk Tryd.prog Tryd.f31.ntmps kp_pxPut 0 false b_pxPut_0 l_pxPut_0 := loopG mixed cs_pxPut (lps := loopsT []) (by kernel_rfl) (ls := []) (by kernel_rfl) lps_nil
noncomputable def F_pxPut (x : ((List UInt8 × List UInt8 × Int × Int × (Int × Int × Int × Int × Int) × (Int × Int × Int × Int × Int)))) : Option ((List UInt8) × Int) := (evalF Tryd.prog (lookT ct_pxPut) (kp_pxPut) (loopsT [(11, l_pxPut_0)]) false false Tryd.f31 (codP [pPlan]) 2 (codP [pS, pE]) x).run
noncomputable abbrev s_pxPut : SpecT := specF (codP [pPlan]) 2 (codP [pS, pE]) F_pxPut
theorem so_pxPut : SoundT Tryd.prog 31 s_pxPut := soundG (P := Tryd.prog) mixed (t := ct_pxPut) cs_pxPut (f := 31) (fn := Tryd.f31) Tryd.func31 (by kernel_rfl) (by kernel_rfl) (by kernel_rfl) (ls := [b_pxPut_0]) (by kernel_rfl) (kp := kp_pxPut) (lps := loopsT [(11, l_pxPut_0)]) (bump := false) (ice := false) (A := (codP [pPlan])) (n := 2) (R := (codP [pS, pE])) fun _ => (lps_cons l_pxPut_0 (by kernel_rfl) lo_pxPut_0 lps_nil)

theorem es_pxPut_0 (l : List (List UInt8)) (e : Int) (a b : Int × Int × Int × Int × Int) (i : Int) : sp_pxPut_0 ((l, e), (), (a, b), i) = (
  bif decide (i < (2 : Int)) then
    bif decide (i = (0 : Int)) then
      (F_pwPut ((l, e), (), [(44 : UInt8)], (0 : Int))).bind fun x1 =>
        (F_rulePut a).bind fun x2 => (F_pwPut (x1.fst, (), x2)).bind fun x3 => some (Sum.inl (x3.fst, (), (a, b), IntKind.i64.wrap (i + (1 : Int))))
    else
      bif decide (i = (1 : Int)) then
        (F_pwPut ((l, e), (), [(44 : UInt8)], (0 : Int))).bind fun x1 =>
          (F_rulePut b).bind fun x2 => (F_pwPut (x1.fst, (), x2)).bind fun x3 => some (Sum.inl (x3.fst, (), (a, b), IntKind.i64.wrap (i + (1 : Int))))
      else none
  else some (Sum.inr ((l, e), ()))) := by kernel_rfl

theorem e_pxPut (p : List UInt8 × List UInt8 × Int × Int × (Int × Int × Int × Int × Int) × (Int × Int × Int × Int × Int)) : F_pxPut p = (
  (F_pxCheck p).bind fun x1 =>
    bif decide (x1 ≠ (0 : Int)) then some ([], x1)
    else
      (F_pxText p.fst).bind fun x2 =>
        (F_PutClock (IntKind.i64.wrap ((0 : Int) - p.snd.snd.fst), (24 : Int))).bind fun x3 =>
          (F_pwPut (([x2], (0 : Int)), (), x3)).bind fun x4 =>
            (F_pxChanges p).bind fun x5 =>
              bif x5 then
                (F_pxText p.snd.fst).bind fun x6 =>
                  (F_pwPut (x4.fst, (), x6, (0 : Int))).bind fun x7 =>
                    bif decide (p.snd.snd.snd.fst ≠ IntKind.i64.wrap (p.snd.snd.fst + (3600 : Int))) then
                      (F_PutClock (IntKind.i64.wrap ((0 : Int) - p.snd.snd.snd.fst), (24 : Int))).bind fun x8 =>
                        (F_pwPut (x7.fst, (), x8)).bind fun x9 =>
                          (w_pxPut_0 (x9.fst, (), p.snd.snd.snd.snd, (0 : Int))).bind fun x10 =>
                            bif decide (List.length x10.fst.fst ≤ (140737488355328 : Nat) ∧ (Lib.join x10.fst.fst []).length ≤ (140737488355328 : Nat)) then some (Lib.join x10.fst.fst [], x10.fst.snd)
                            else none
                    else
                      (w_pxPut_0 (x7.fst, (), p.snd.snd.snd.snd, (0 : Int))).bind fun x8 =>
                        bif decide (List.length x8.fst.fst ≤ (140737488355328 : Nat) ∧ (Lib.join x8.fst.fst []).length ≤ (140737488355328 : Nat)) then some (Lib.join x8.fst.fst [], x8.fst.snd) else none
              else bif decide (List.length x4.fst.fst ≤ (140737488355328 : Nat) ∧ (Lib.join x4.fst.fst []).length ≤ (140737488355328 : Nat)) then some (Lib.join x4.fst.fst [], x4.fst.snd) else none) := by kernel_rfl

end Go.Sm
/- Plain Lean: the reference's figures. -/
set_option linter.unusedVariables false
set_option linter.unusedSimpArgs false
namespace Go.Sm
open Go.Proofs

theorem r2Is_loop (b : UInt8) : ∀ (k : Nat) (c : UInt8), c.toNat + k = 58 → w_r2Is_0 (b, c) = some (if c.toNat ≤ b.toNat ∧ b.toNat ≤ 57 then .inl true else .inr ()) := by
  intro k
  induction k with
  | zero =>
    intro c hc
    have hn : ¬ c ≤ 57 := by rw [UInt8.le_iff_toNat_le]; have : (57 : UInt8).toNat = 57 := rfl; omega
    rw [ew_r2Is_0, es_r2Is_0, cond_dec, if_neg hn, if_neg (by omega)]
    rfl
  | succ k ih =>
    intro c hc
    have hn : c ≤ 57 := by rw [UInt8.le_iff_toNat_le]; have : (57 : UInt8).toNat = 57 := rfl; omega
    rw [ew_r2Is_0, es_r2Is_0, cond_dec, cond_dec, if_pos hn]
    by_cases h : b = c
    · subst h
      rw [if_pos rfl, if_pos (by omega)]
      rfl
    · rw [if_neg h]
      have hne : b.toNat ≠ c.toNat := fun q => h (UInt8.toNat_inj.1 q)
      have hc1 : (c + 1).toNat = c.toNat + 1 := by rw [UInt8.toNat_add]; simp; omega
      simp only [Option.bind_some, Sum.elim_inl]
      rw [ih (c + 1) (by omega), hc1]
      by_cases hb : c.toNat ≤ b.toNat ∧ b.toNat ≤ 57
      · rw [if_pos hb, if_pos (by omega)]
      · rw [if_neg hb, if_neg (by omega)]
theorem r2Is (b : UInt8) : F_r2Is b = some (isFig b) := by
  rw [e_r2Is, r2Is_loop b 10 48 rfl]
  have h48 : (48 : UInt8).toNat = 48 := rfl
  cases hb : isFig b with
  | true =>
    have := isFig_iff.1 hb
    rw [if_pos (by omega)]
    rfl
  | false =>
    have : ¬ (48 ≤ b.toNat ∧ b.toNat ≤ 57) := fun h => by rw [isFig_iff.2 h] at hb; cases hb
    rw [if_neg (by omega)]
    rfl
end Go.Sm
/- Plain Lean: plans as the program reads them. -/
set_option linter.unusedVariables false
set_option linter.unusedSimpArgs false
namespace Go.Sm
open Go.Proofs

def noPlan : Pln := ([], [], 0, 0, noRule, noRule)
def plA (s : List UInt8) : List UInt8 × Int × List UInt8 := nm s 0
def plB (s : List UInt8) : List UInt8 × Int × Int := ofs (plA s).1 (plA s).2.1
def chk (p : Pln) : Pln × Int := if pck p ≠ 0 then (noPlan, pck p) else (p, 0)
/-- The plan with its summer. -/
def plS (s : List UInt8) : Pln := ((plA s).2.2, (nm (plB s).1 (plB s).2.1).2.2, (plB s).2.2, (smA (plB s).1 (plB s).2.1 (plB s).2.2).2.2, (smB (plB s).1 (plB s).2.1 (plB s).2.2).2.2, (smC (plB s).1 (plB s).2.1 (plB s).2.2).2.2)
def plN (s : List UInt8) : Pln := ((plA s).2.2, [], (plB s).2.2, 0, noRule, noRule)
def plan (s : List UInt8) : Pln × Int :=
  if 0 < (rd (plB s).1 (plB s).2.1).length then
    (if clkEnd (smC (plB s).1 (plB s).2.1 (plB s).2.2).2.1 (smC (plB s).1 (plB s).2.1 (plB s).2.2).1 ≠ 0 then (noPlan, clkEnd (smC (plB s).1 (plB s).2.1 (plB s).2.2).2.1 (smC (plB s).1 (plB s).2.1 (plB s).2.2).1) else chk (plS s))
  else if clkEnd (plB s).2.1 (plB s).1 ≠ 0 then (noPlan, clkEnd (plB s).2.1 (plB s).1) else chk (plN s)
theorem small_nm {t r : List UInt8} {e : Int} (h : r <:+ t) (ht : small t) : small (nm r e).2.2 := by
  unfold nm
  split
  · split
    · exact small_tw _ (small_rd (suf_tk _ h) ht)
    · exact small_tw _ (small_rd (suf_tk _ h) ht)
  · exact small_tw _ (small_rd h ht)
theorem chk_eq (p : Pln) (h1 : small p.1) (h2 : small p.2.1) : ((F_pxCheck p).bind fun x7 => bif decide (x7 ≠ (0 : Int)) then some (noPlan, x7) else some (p, (0 : Int))) = some (chk p) := by
  rw [pxCheck p h1 h2]
  simp only [Option.bind_some, cond_dec]
  unfold chk
  by_cases h : pck p ≠ 0
  · rw [if_pos h, if_pos h]
  · rw [if_neg h, if_neg h]
theorem pxParse (s : List UInt8) (hs : small s) : F_pxParse s = some (plan s) := by
  have h0 := List.suffix_refl s
  have hA : (plA s).1 <:+ s := suf_nm h0
  have hB : (plB s).1 <:+ s := suf_ofs hA
  have hend : ∀ r e, r <:+ s → F_scEnd (sc s r e, ()) = some (sc s r e, clkEnd e r) := fun r e h => scEnd h
  have hr : -4000000 ≤ (plB s).2.2 ∧ (plB s).2.2 ≤ 4000000 := by
    have := clk_range ((rd (plA s).1 (plA s).2.1).takeWhile (runP clocks)) 24
    unfold plB ofs
    simp only
    split
    · omega
    · omega
  have f1 : F_rdName (sc s s 0, ()) = some (sc s (plA s).1 (plA s).2.1, (plA s).2.2) := rdName h0 hs
  have f2 : F_rdOffset (sc s (plA s).1 (plA s).2.1, ()) = some (sc s (plB s).1 (plB s).2.1, (plB s).2.2) := rdOffset hA hs
  have f3 := rdSummer (e := (plB s).2.1) hB hs (plA s).2.2 [] (plB s).2.2 0 noRule noRule hr
  have hC : (smC (plB s).1 (plB s).2.1 (plB s).2.2).1 <:+ s := suf_rl (suf_rl (suf_ahd (suf_nm hB)))
  rw [e_pxParse, scNew]
  simp only [Option.bind_some]
  rw [f1]
  simp only [Option.bind_some]
  rw [f2]
  simp only [Option.bind_some]
  rw [scLeft hB]
  simp only [Option.bind_some, cond_dec]
  unfold plan
  by_cases hl : 0 < (rd (plB s).1 (plB s).2.1).length
  · rw [if_pos hl, if_pos (by omega)]
    unfold noRule at f3
    rw [f3]
    simp only [Option.bind_some]
    rw [hend _ _ hC]
    simp only [Option.bind_some]
    by_cases he : clkEnd (smC (plB s).1 (plB s).2.1 (plB s).2.2).2.1 (smC (plB s).1 (plB s).2.1 (plB s).2.2).1 ≠ 0
    · rw [if_pos he, if_pos he]; rfl
    · rw [if_neg he, if_neg he]
      have := chk_eq (plS s) (small_nm h0 hs) (small_nm hB hs)
      simp only [cond_dec] at this
      exact this
  · rw [if_neg hl, if_neg (by omega), hend _ _ hB]
    simp only [Option.bind_some]
    by_cases he : clkEnd (plB s).2.1 (plB s).1 ≠ 0
    · rw [if_pos he, if_pos he]; rfl
    · rw [if_neg he, if_neg he]
      have := chk_eq (plN s) (small_nm h0 hs) (by simp [plN, small])
      simp only [cond_dec] at this
      exact this
end Go.Sm
/- Plain Lean: numbers between signs; the program's clocks by parts of the text. -/
set_option linter.unusedVariables false
set_option linter.unusedSimpArgs false
namespace Go.Sm
open Go.Proofs

/-- The number of l to m figures. -/
def numF (l m : Nat) (s : List UInt8) : Option Nat := if (l ≤ s.length ∧ s.length ≤ m) ∧ s.all isFig = true then some (decFrom 0 s) else none
theorem numF_some {l m n : Nat} {s : List UInt8} (h : numF l m s = some n) : l ≤ s.length ∧ s.length ≤ m ∧ s.all isFig = true ∧ n = decFrom 0 s := by
  unfold numF at h
  split at h
  · rename_i hc
    exact ⟨hc.1.1, hc.1.2, hc.2, (Option.some.inj h).symm⟩
  · cases h
theorem numF_none {l m : Nat} {s : List UInt8} (h : numF l m s = none) (h1 : l ≤ s.length) (h2 : s.length ≤ m) : s.all isFig = true → False := by
  intro h3
  unfold numF at h
  rw [if_pos ⟨⟨h1, h2⟩, h3⟩] at h
  cases h
theorem all_mem {p : UInt8 → Bool} {s : List UInt8} (h : s.all p = true) : ∀ x ∈ s, p x = true := List.all_eq_true.1 h
theorem figs_pre {m : Nat} {p q : List UInt8} (hp : p.all isFig = true) (hm : p.length ≤ m) (hq : ∀ c ∈ q.head?, isFig c = false) : figs (m : Int) (p ++ q) = p.length := by
  unfold figs
  rw [Int.toNat_natCast, List.take_append, List.take_of_length_le hm]
  rw [List.takeWhile_append_of_pos (all_mem hp)]
  have : (q.take (m - p.length)).takeWhile isFig = [] := by
    cases q with
    | nil => simp
    | cons c q =>
      cases hk : m - p.length with
      | zero => simp
      | succ k => simp [hq c (by simp)]
  rw [this]
  simp
theorem tw_dw (p : UInt8 → Bool) (s : List UInt8) : s = s.takeWhile p ++ s.dropWhile p := (List.takeWhile_append_dropWhile).symm
theorem dw_head (c : UInt8) (s : List UInt8) : ∀ b ∈ (s.dropWhile (· != c)).head?, b = c := by
  intro b hb
  cases hq : s.dropWhile (· != c) with
  | nil => rw [hq] at hb; cases hb
  | cons x l =>
    rw [hq] at hb
    obtain rfl := Option.some.inj hb
    have := dropWhile_head (· != c) s hq
    simpa using this
theorem tw_pre (c : UInt8) (a t : List UInt8) (ha : ∀ x ∈ a, x ≠ c) : (a ++ c :: t).takeWhile (· != c) = a := by
  rw [List.takeWhile_append_of_pos (fun x hx => by simpa using ha x hx)]
  simp
theorem fg_nn {l m : Nat} {s : List UInt8} (h : ¬ figs (m : Int) s < l) : fgR l m s 0 = s.drop (figs (m : Int) s) ∧ fgE l m s 0 = 0 ∧ fgV l m s 0 = (figNum (m : Int) s : Int) := by
  unfold fgR fgE fgV fgB
  simp [h]
theorem fg_lt {l m : Nat} {s : List UInt8} (h : figs (m : Int) s < l) : fgE l m s 0 = 2 := by
  unfold fgE
  simp [h]
theorem fg_pre {l m n : Nat} {s p q : List UInt8} (hs : s = p ++ q) (hn : numF l m p = some n) (hq : ∀ c ∈ q.head?, isFig c = false) : fgR l m s 0 = q ∧ fgE l m s 0 = 0 ∧ fgV l m s 0 = (n : Int) := by
  obtain ⟨h1, h2, h3, rfl⟩ := numF_some hn
  subst hs
  have hf := figs_pre h3 h2 hq
  obtain ⟨g1, g2, g3⟩ := fg_nn (l := l) (m := m) (s := p ++ q) (by omega)
  refine ⟨by rw [g1, hf]; simp, g2, ?_⟩
  rw [g3]
  unfold figNum
  rw [hf]
  simp
theorem fg_some {l m n : Nat} {c : UInt8} {s : List UInt8} (hc : isFig c = false) (hn : numF l m (s.takeWhile (· != c)) = some n) :
    fgR l m s 0 = s.dropWhile (· != c) ∧ fgE l m s 0 = 0 ∧ fgV l m s 0 = (n : Int) :=
  fg_pre (tw_dw _ s) hn fun b hb => by rw [dw_head c s b hb]; exact hc
theorem fg_all {l m n : Nat} {s : List UInt8} (hn : numF l m s = some n) : fgR l m s 0 = [] ∧ fgE l m s 0 = 0 ∧ fgV l m s 0 = (n : Int) :=
  fg_pre (by simp) hn fun b hb => by cases hb
theorem fig_take (m : Nat) (s : List UInt8) : (s.take (figs (m : Int) s)).all isFig = true := by rw [figs_take]; exact takeWhile_all _ _
theorem fg_allnone {l m : Nat} {s : List UInt8} (hn : numF l m s = none) : fgE l m s 0 = 2 ∨ (fgE l m s 0 = 0 ∧ fgR l m s 0 ≠ []) := by
  by_cases h : figs (m : Int) s < l
  · exact .inl (fg_lt h)
  · obtain ⟨g1, g2, g3⟩ := fg_nn (l := l) (m := m) h
    refine .inr ⟨g2, fun h0 => ?_⟩
    rw [g1, List.drop_eq_nil_iff] at h0
    have hle := figs_le (m : Int) s
    have ht := fig_take m s
    rw [List.take_of_length_le h0] at ht
    exact numF_none hn (by omega) (by omega) ht
theorem fg_none {l m : Nat} {c : UInt8} {s : List UInt8} (hc : isFig c = false) (hn : numF l m (s.takeWhile (· != c)) = none) :
    fgE l m s 0 = 2 ∨ (fgE l m s 0 = 0 ∧ fgR l m s 0 ≠ [] ∧ tkB c (fgR l m s 0) 0 = false) := by
  by_cases h : figs (m : Int) s < l
  · exact .inl (fg_lt h)
  · obtain ⟨g1, g2, g3⟩ := fg_nn (l := l) (m := m) h
    have hle := figs_le (m : Int) s
    have ht := fig_take m s
    have hne : ∀ x ∈ s.take (figs (m : Int) s), x ≠ c := fun x hx hxc => by have := all_mem ht x hx; rw [hxc, hc] at this; cases this
    refine .inr ⟨g2, fun h0 => ?_, ?_⟩
    · rw [g1, List.drop_eq_nil_iff] at h0
      rw [List.take_of_length_le h0] at ht hne
      have hw : s.takeWhile (· != c) = s := takeWhile_self _ _ fun x hx => by simpa using hne x hx
      rw [hw] at hn
      exact numF_none hn (by omega) (by omega) ht
    · unfold tkB
      rw [decide_eq_false_iff_not, rd_zero, g1]
      intro h0
      cases hq : s.drop (figs (m : Int) s) with
      | nil => rw [hq] at h0; cases h0
      | cons b t =>
        rw [hq] at h0
        obtain rfl := Option.some.inj h0
        have hs : s = s.take (figs (m : Int) s) ++ b :: t := by rw [← hq]; exact (List.take_append_drop _ _).symm
        have hw : s.takeWhile (· != b) = s.take (figs (m : Int) s) := by
          have := tw_pre b (s.take (figs (m : Int) s)) t hne
          rwa [← hs] at this
        rw [hw] at hn
        exact numF_none hn (by rw [List.length_take]; omega) (by rw [List.length_take]; omega) ht

/-! ### Clocks -/
def strip : List UInt8 → List UInt8
  | b :: r => if b = 45 ∨ b = 43 then r else b :: r
  | [] => []
theorem tkB_zero (b : UInt8) (s : List UInt8) : tkB b s 0 = decide (s.head? = some b) := rfl
theorem tkB_ne {b : UInt8} {s : List UInt8} {e : Int} (h : e ≠ 0) : tkB b s e = false := by unfold tkB; rw [rd_ne h]; simp
theorem tk_cons (b : UInt8) (r : List UInt8) : tk b (b :: r) 0 = r := by unfold tk; rw [tkB_zero]; simp
theorem tkB_cons (b : UInt8) (r : List UInt8) : tkB b (b :: r) 0 = true := by rw [tkB_zero]; simp
theorem tkB_nil (b : UInt8) (e : Int) : tkB b [] e = false := by unfold tkB rd; split <;> simp
theorem clkR_strip (s : List UInt8) : clkR s = strip s := by
  unfold clkR
  cases s with
  | nil => simp [tkB_nil, tk, strip]
  | cons b r =>
    simp only [strip]
    by_cases h1 : b = 45
    · subst h1
      rw [tkB_cons, if_pos rfl, tk_cons, if_pos (.inl rfl)]
    · have hb : tkB 45 (b :: r) 0 = false := by rw [tkB_zero]; simpa using h1
      rw [hb]
      simp only [Bool.false_eq_true, if_false]
      by_cases h2 : b = 43
      · subst h2
        rw [tk_cons, if_pos (.inr rfl)]
      · have hb : tkB 43 (b :: r) 0 = false := by rw [tkB_zero]; simpa using h2
        rw [tk_false hb, if_neg (by simp [h1, h2])]
/-- Hours, minutes, seconds of a clock's text without its sign. -/
def clkO (s : List UInt8) : Option (Nat × Nat × Nat) :=
  match numF 1 3 (s.takeWhile (· != 58)) with
  | none => none
  | some h => match s.dropWhile (· != 58) with
    | [] => some (h, 0, 0)
    | _ :: r => match numF 2 2 (r.takeWhile (· != 58)) with
      | none => none
      | some m => match r.dropWhile (· != 58) with
        | [] => some (h, m, 0)
        | _ :: r' => match numF 2 2 r' with
          | none => none
          | some x => some (h, m, x)
def clkV (o : Option (Nat × Nat × Nat)) (neg : Bool) (m : Int) : Int × Int :=
  match o with
  | none => (0, 2)
  | some (h, k, x) => if m < (h : Int) ∨ 60 ≤ k ∨ 60 ≤ x then (0, 1) else (if neg then -((h : Int) * 3600 + (k : Int) * 60 + (x : Int)) else (h : Int) * 3600 + (k : Int) * 60 + (x : Int), 0)
theorem pt_cons (r : List UInt8) : pt (58 :: r) 0 = (fgR 2 2 r 0, fgE 2 2 r 0, fgV 2 2 r 0, true) := by
  unfold pt
  rw [tkB_cons, if_pos rfl, tk_cons]
theorem pt_no {r : List UInt8} {e : Int} (h : tkB 58 r e = false) : pt r e = (r, e, 0, false) := by
  unfold pt
  rw [h]
  simp
theorem dw_cases (c : UInt8) (s : List UInt8) : s.dropWhile (· != c) = [] ∨ ∃ r, s.dropWhile (· != c) = c :: r := by
  cases hq : s.dropWhile (· != c) with
  | nil => exact .inl rfl
  | cons b r =>
    have := dw_head c s b (by rw [hq]; rfl)
    exact .inr ⟨r, by rw [this]⟩
theorem clk_eq (s : List UInt8) (m : Int) : clk s m = clkV (clkO (strip s)) (tkB 45 s 0) m := by
  have hA : clkA s = (fgR 1 3 (strip s) 0, fgE 1 3 (strip s) 0, fgV 1 3 (strip s) 0) := by unfold clkA; rw [clkR_strip]
  generalize strip s = t at hA ⊢
  unfold clk clkN
  have hbad : ∀ {e : Int} {r : List UInt8}, clkA s = (r, e, (clkA s).2.2) → (e ≠ 0 ∨ (r ≠ [] ∧ tkB 58 r e = false)) → (clkC s).2.1 ≠ 0 ∨ (clkC s).1 ≠ [] := by
    intro e r hq h
    have hT : tkB 58 r e = false := by
      rcases h with h | h
      · exact tkB_ne h
      · exact h.2
    have hB : clkB s = (r, e, 0, false) := by unfold clkB; rw [hq]; exact pt_no hT
    have hC : clkC s = (r, e, 0, false) := by unfold clkC; rw [hB]; simp
    rw [hC]
    rcases h with h | h
    · exact .inl h
    · exact .inr h.1
  unfold clkO
  cases hn : numF 1 3 (t.takeWhile (· != 58)) with
  | none =>
    rw [if_pos]
    · rfl
    · refine hbad (e := fgE 1 3 t 0) (r := fgR 1 3 t 0) (by rw [hA]) ?_
      rcases fg_none (c := 58) (by decide) hn with h | h
      · exact .inl (by omega)
      · exact .inr ⟨h.2.1, by rw [h.1]; exact h.2.2⟩
  | some h =>
    obtain ⟨a1, a2, a3⟩ := fg_some (c := 58) (by decide) hn
    rw [a1, a2, a3] at hA
    simp only
    rcases dw_cases 58 t with hq | ⟨r, hq⟩
    · rw [hq] at hA ⊢
      have hB : clkB s = ([], 0, 0, false) := by unfold clkB; rw [hA]; exact pt_no (tkB_nil _ _)
      have hC : clkC s = ([], 0, 0, false) := by unfold clkC; rw [hB]; simp
      rw [hA, hB, hC]
      simp [clkV]
    · rw [hq] at hA ⊢
      simp only
      have hB : clkB s = (fgR 2 2 r 0, fgE 2 2 r 0, fgV 2 2 r 0, true) := by unfold clkB; rw [hA]; exact pt_cons r
      have hC : clkC s = pt (fgR 2 2 r 0) (fgE 2 2 r 0) := by unfold clkC; rw [hB]; simp
      cases hn2 : numF 2 2 (r.takeWhile (· != 58)) with
      | none =>
        rw [if_pos]
        · rfl
        · have hT : tkB 58 (fgR 2 2 r 0) (fgE 2 2 r 0) = false := by
            rcases fg_none (c := 58) (by decide) hn2 with h | h
            · exact tkB_ne (by omega)
            · rw [h.1]; exact h.2.2
          rw [hC, pt_no hT]
          rcases fg_none (c := 58) (by decide) hn2 with h | h
          · exact .inl (by simp only; omega)
          · exact .inr h.2.1
      | some k =>
        obtain ⟨b1, b2, b3⟩ := fg_some (c := 58) (by decide) hn2
        rw [b1, b2, b3] at hB
        rw [b1, b2] at hC
        simp only
        rcases dw_cases 58 r with hq2 | ⟨r2, hq2⟩
        · rw [hq2] at hB hC ⊢
          rw [pt_no (tkB_nil _ _)] at hC
          rw [hA, hB, hC]
          have e1 : ((60 : Int) ≤ (k : Int)) ↔ 60 ≤ k := by omega
          simp [clkV, e1]
        · rw [hq2] at hB hC ⊢
          rw [pt_cons] at hC
          simp only
          cases hn3 : numF 2 2 r2 with
          | none =>
            rw [if_pos]
            · rfl
            · rw [hC]
              rcases fg_allnone hn3 with h | h
              · exact .inl (by simp only; omega)
              · exact .inr h.2
          | some x =>
            obtain ⟨c1, c2, c3⟩ := fg_all hn3
            rw [c1, c2, c3] at hC
            rw [hA, hB, hC]
            simp only [clkV, ne_eq, not_true_eq_false, or_self, if_false]
            have e1 : ((60 : Int) ≤ (k : Int)) ↔ 60 ≤ k := by omega
            have e2 : ((60 : Int) ≤ (x : Int)) ↔ 60 ≤ x := by omega
            simp only [e1, e2]
end Go.Sm
/- Plain Lean: the program's rules and plans, without a scanner. -/
set_option linter.unusedVariables false
set_option linter.unusedSimpArgs false
namespace Go.Sm
open Go.Proofs

theorem clkEnd_zero (r : List UInt8) : clkEnd 0 r = if r = [] then 0 else 2 := by unfold clkEnd; simp
theorem clkEnd_e {e : Int} (r : List UInt8) (h : e ≠ 0) : clkEnd e r = e := by unfold clkEnd; simp [h]
/-- A weekly date: month, week, day. -/
def wkO (s : List UInt8) : Option (Nat × Nat × Nat) :=
  match numF 1 2 (s.takeWhile (· != 46)) with
  | none => none
  | some m => match s.dropWhile (· != 46) with
    | [] => none
    | _ :: r => match numF 1 1 (r.takeWhile (· != 46)) with
      | none => none
      | some w => match r.dropWhile (· != 46) with
        | [] => none
        | _ :: r' => match numF 1 1 r' with
          | none => none
          | some d => some (m, w, d)
def datO (d : List UInt8) : Option (Int × Int × Int × Int) :=
  match d with
  | [] => none
  | b :: r => if b = 74 then (numF 1 3 r).map fun n => (1, 0, 0, (n : Int)) else if b = 77 then (wkO r).map fun x => (3, (x.1 : Int), (x.2.1 : Int), (x.2.2 : Int)) else (numF 1 3 (b :: r)).map fun n => (2, 0, 0, (n : Int))
theorem muQ_e {c : UInt8} {r : List UInt8} {e : Int} (h : e ≠ 0) : muQ c (r, e) = (r, e) := by
  unfold muQ muE tk
  rw [tkB_ne h]
  simp [h]
theorem fgQ_e {l m : Nat} {r : List UInt8} {e : Int} (h : e ≠ 0) : fgQ l m (r, e) = (r, e) := by
  unfold fgQ fgR fgE fgB
  simp [h]
theorem muQ_no {c : UInt8} {r : List UInt8} (h : tkB c r 0 = false) : muQ c (r, 0) = (r, 2) := by
  unfold muQ muE tk
  simp [h]
theorem muQ_yes (c : UInt8) (r : List UInt8) : muQ c (c :: r, 0) = (r, 0) := by
  unfold muQ muE
  simp [tk_cons, tkB_cons]
theorem fgQ_bad {l m : Nat} {c : UInt8} {s : List UInt8} (hc : isFig c = false) (hn : numF l m (s.takeWhile (· != c)) = none) : (muQ c (fgQ l m (s, 0))).2 ≠ 0 := by
  rcases fg_none (c := c) hc hn with h | h
  · have : fgQ l m (s, 0) = (fgR l m s 0, 2) := by unfold fgQ; rw [h]
    rw [this, muQ_e (by omega)]
    simp
  · have : fgQ l m (s, 0) = (fgR l m s 0, 0) := by unfold fgQ; rw [h.1]
    rw [this, muQ_no h.2.2]
    simp
theorem fgQ_end {l m : Nat} {c : UInt8} {s : List UInt8} {n : Nat} (hc : isFig c = false) (hn : numF l m (s.takeWhile (· != c)) = some n) (h : s.dropWhile (· != c) = []) : (muQ c (fgQ l m (s, 0))).2 ≠ 0 := by
  obtain ⟨h1, h2, h3⟩ := fg_some hc hn
  have : fgQ l m (s, 0) = ([], 0) := by unfold fgQ; rw [h1, h2, h]
  rw [this, muQ_no (tkB_nil _ _)]
  simp
theorem fgQ_good {l m : Nat} {c : UInt8} {s r : List UInt8} {n : Nat} (hc : isFig c = false) (hn : numF l m (s.takeWhile (· != c)) = some n) (h : s.dropWhile (· != c) = c :: r) : muQ c (fgQ l m (s, 0)) = (r, 0) ∧ fgV l m s 0 = (n : Int) := by
  obtain ⟨h1, h2, h3⟩ := fg_some hc hn
  have : fgQ l m (s, 0) = (c :: r, 0) := by unfold fgQ; rw [h1, h2, h]
  rw [this, muQ_yes]
  exact ⟨rfl, h3⟩
theorem wk_eq (s : List UInt8) : match wkO s with
    | none => clkEnd (wk3 (s, 0)).2 (wk3 (s, 0)).1 ≠ 0
    | some x => clkEnd (wk3 (s, 0)).2 (wk3 (s, 0)).1 = 0 ∧ fgV 1 2 s 0 = (x.1 : Int) ∧ fgV 1 1 (wk1 (s, 0)).1 (wk1 (s, 0)).2 = (x.2.1 : Int) ∧ fgV 1 1 (wk2 (s, 0)).1 (wk2 (s, 0)).2 = (x.2.2 : Int) := by
  have err2 : ∀ q : List UInt8 × Int, (wk2 q).2 ≠ 0 → clkEnd (wk3 q).2 (wk3 q).1 ≠ 0 := fun q h => by
    have : wk3 q = wk2 q := by
      unfold wk3
      exact fgQ_e (r := (wk2 q).1) h
    rw [this, clkEnd_e _ h]
    exact h
  have err1 : ∀ q : List UInt8 × Int, (wk1 q).2 ≠ 0 → clkEnd (wk3 q).2 (wk3 q).1 ≠ 0 := fun q h => by
    apply err2
    have : wk2 q = wk1 q := by
      unfold wk2
      rw [show fgQ 1 1 (wk1 q) = wk1 q from fgQ_e (r := (wk1 q).1) h]
      exact muQ_e (r := (wk1 q).1) h
    rw [this]
    exact h
  unfold wkO
  cases hn : numF 1 2 (s.takeWhile (· != 46)) with
  | none => exact err1 _ (fgQ_bad (by decide) hn)
  | some m =>
    simp only
    rcases dw_cases 46 s with hq | ⟨r, hq⟩
    · rw [hq]
      exact err1 _ (fgQ_end (by decide) hn hq)
    · obtain ⟨h1, hv1⟩ := fgQ_good (by decide) hn hq
      have h1 : wk1 (s, 0) = (r, 0) := h1
      have hw2 : wk2 (s, 0) = muQ 46 (fgQ 1 1 (r, 0)) := by unfold wk2; rw [h1]
      rw [hq]
      simp only
      cases hn2 : numF 1 1 (r.takeWhile (· != 46)) with
      | none => exact err2 _ (by rw [hw2]; exact fgQ_bad (by decide) hn2)
      | some w =>
        simp only
        rcases dw_cases 46 r with hq2 | ⟨r2, hq2⟩
        · rw [hq2]
          exact err2 _ (by rw [hw2]; exact fgQ_end (by decide) hn2 hq2)
        · obtain ⟨h2, hv2⟩ := fgQ_good (by decide) hn2 hq2
          rw [h2] at hw2
          have hw3 : wk3 (s, 0) = fgQ 1 1 (r2, 0) := by unfold wk3; rw [hw2]
          rw [hq2]
          simp only
          cases hn3 : numF 1 1 r2 with
          | none =>
            rw [hw3]
            rcases fg_allnone hn3 with h | h
            · unfold fgQ
              simp only [h]
              rw [clkEnd_e _ (by omega)]
              omega
            · unfold fgQ
              simp only [h.1]
              rw [clkEnd_zero, if_neg h.2]
              omega
          | some d =>
            obtain ⟨g1, g2, g3⟩ := fg_all hn3
            rw [hw3, h1, hw2]
            unfold fgQ
            simp only [g1, g2, g3]
            rw [clkEnd_zero]
            exact ⟨rfl, hv1, hv2, trivial⟩
theorem dat_eq (d : List UInt8) : match datO d with
    | none => clkEnd (dat d).1.2 (dat d).1.1 ≠ 0
    | some x => clkEnd (dat d).1.2 (dat d).1.1 = 0 ∧ (dat d).2 = x := by
  have hfig : ∀ s : List UInt8, match numF 1 3 s with
      | none => clkEnd (fgQ 1 3 (s, 0)).2 (fgQ 1 3 (s, 0)).1 ≠ 0
      | some n => clkEnd (fgQ 1 3 (s, 0)).2 (fgQ 1 3 (s, 0)).1 = 0 ∧ fgV 1 3 s 0 = (n : Int) := by
    intro s
    unfold fgQ
    cases hn : numF 1 3 s with
    | none =>
      rcases fg_allnone hn with h | h
      · simp only [h]
        rw [clkEnd_e _ (by omega)]
        omega
      · simp only [h.1]
        rw [clkEnd_zero, if_neg h.2]
        omega
    | some n =>
      obtain ⟨g1, g2, g3⟩ := fg_all hn
      simp only [g1, g2, g3]
      rw [clkEnd_zero]
      exact ⟨rfl, trivial⟩
  unfold datO dat
  cases d with
  | nil =>
    have hh := hfig []
    have hno : numF 1 3 [] = none := by decide
    rw [hno] at hh
    rw [tkB_nil, tkB_nil]
    exact hh
  | cons b r =>
    simp only
    by_cases h1 : b = 74
    · subst h1
      rw [if_pos rfl, tkB_cons, if_pos rfl, tk_cons]
      have hh := hfig r
      cases hn : numF 1 3 r with
      | none => rw [hn] at hh; exact hh
      | some n => rw [hn] at hh; exact ⟨hh.1, by simp only [hh.2]⟩
    · have hb : tkB 74 (b :: r) 0 = false := by rw [tkB_zero]; simpa using h1
      rw [if_neg h1, hb]
      simp only [Bool.false_eq_true, if_false]
      by_cases h2 : b = 77
      · subst h2
        rw [if_pos rfl, tkB_cons, if_pos rfl, tk_cons]
        have hh := wk_eq r
        cases hn : wkO r with
        | none => rw [hn] at hh; exact hh
        | some x => rw [hn] at hh; obtain ⟨e1, e2, e3, e4⟩ := hh; exact ⟨e1, by simp only [e2, e3, e4]⟩
      · have hb2 : tkB 77 (b :: r) 0 = false := by rw [tkB_zero]; simpa using h2
        rw [if_neg h2, hb2]
        simp only [Bool.false_eq_true, if_false]
        have hh := hfig (b :: r)
        cases hn : numF 1 3 (b :: r) with
        | none => rw [hn] at hh; exact hh
        | some n => rw [hn] at hh; exact ⟨hh.1, by simp only [hh.2]⟩
/-- A rule, by its parts. -/
def rulO (s : List UInt8) : Rul × Int :=
  match datO (cutB 47 s).1 with
  | none => (noRule, 2)
  | some x => if (cutB 47 s).2.2 then (if (clk (cutB 47 s).2.1 167).2 ≠ 0 then (noRule, (clk (cutB 47 s).2.1 167).2) else fin x (clk (cutB 47 s).2.1 167).1) else fin x 7200
theorem rul_eq (s : List UInt8) : rul s = rulO s := by
  unfold rul rulO
  have h := dat_eq (cutB 47 s).1
  cases hd : datO (cutB 47 s).1 with
  | none => rw [hd] at h; rw [if_pos h]
  | some x => rw [hd] at h; rw [if_neg (by simp [h.1]), h.2]

/-! ### Plans -/
def nmO (r : List UInt8) : Option (List UInt8 × List UInt8) :=
  match r with
  | [] => none
  | b :: r1 => if b = 60 then (if nameB (r1.takeWhile (· != 62)) then (match r1.dropWhile (· != 62) with | [] => none | _ :: r2 => some (r2, r1.takeWhile (· != 62))) else none)
    else if nameB ((b :: r1).takeWhile (runP letters)) then some ((b :: r1).dropWhile (runP letters), (b :: r1).takeWhile (runP letters)) else none
theorem nm_eq (r : List UInt8) : match nmO r with
    | none => (nm r 0).2.1 = 2
    | some x => nm r 0 = (x.1, 0, x.2) := by
  cases r with
  | nil =>
    have : nm [] 0 = ([], 2, []) := by rfl
    rw [this]
    rfl
  | cons b r1 =>
    unfold nmO nm
    simp only
    by_cases h : b = 60
    · subst h
      rw [if_pos rfl, tkB_cons, if_pos rfl, tk_cons, rd_zero]
      by_cases hn : nameB (r1.takeWhile (· != 62)) = true
      · rw [if_pos hn, if_pos hn]
        simp only [wl, if_true]
        rcases dw_cases 62 r1 with hq | ⟨r2, hq⟩
        · rw [hq]
          simp only [tkB_nil]
          rfl
        · rw [hq]
          simp only [tkB_cons, tk_cons, if_true]
      · rw [if_neg hn, if_neg hn]
        rfl
    · have hb : tkB 60 (b :: r1) 0 = false := by rw [tkB_zero]; simpa using h
      rw [if_neg h, hb, if_neg Bool.false_ne_true, rd_zero]
      unfold wl
      rw [if_pos rfl]
      by_cases hn : nameB ((b :: r1).takeWhile (runP letters)) = true
      · rw [if_pos hn, if_pos hn]
      · rw [if_neg hn, if_neg hn]
        rfl
theorem ofs_e {r : List UInt8} {e : Int} (h : e ≠ 0) : (ofs r e).2.1 = e := by
  unfold ofs
  simp [h]
theorem rl_e {r : List UInt8} {e : Int} (h : e ≠ 0) : (rl r e).2.1 = e := by
  unfold rl rlE
  rw [tkB_ne h]
  simp [h, fl]
theorem ahd_e {r : List UInt8} {e o : Int} (h : e ≠ 0) : (ahd r e o).2.1 = e := by
  unfold ahd
  rw [rd_ne h]
theorem nm_e {r : List UInt8} {e : Int} (h : e ≠ 0) : (nm r e).2.1 = e := by
  unfold nm
  rw [tkB_ne h]
  simp [h, fl]
/-- A plan, by its parts. -/
def planO (s : List UInt8) : Pln × Int :=
  match nmO s with
  | none => (noPlan, 2)
  | some (r1, n) =>
    if (ofs r1 0).2.1 ≠ 0 then (noPlan, (ofs r1 0).2.1)
    else if (ofs r1 0).1 = [] then ((n, [], (ofs r1 0).2.2, 0, noRule, noRule), 0)
    else match nmO (ofs r1 0).1 with
      | none => (noPlan, 2)
      | some (r3, n2) =>
        if (ahd r3 0 (ofs r1 0).2.2).2.1 ≠ 0 then (noPlan, (ahd r3 0 (ofs r1 0).2.2).2.1)
        else if (rl (ahd r3 0 (ofs r1 0).2.2).1 0).2.1 ≠ 0 then (noPlan, (rl (ahd r3 0 (ofs r1 0).2.2).1 0).2.1)
        else if (rl (rl (ahd r3 0 (ofs r1 0).2.2).1 0).1 0).2.1 ≠ 0 then (noPlan, (rl (rl (ahd r3 0 (ofs r1 0).2.2).1 0).1 0).2.1)
        else if (rl (rl (ahd r3 0 (ofs r1 0).2.2).1 0).1 0).1 ≠ [] then (noPlan, 2)
        else if 89999 < (ahd r3 0 (ofs r1 0).2.2).2.2 then (noPlan, 1)
        else ((n, n2, (ofs r1 0).2.2, (ahd r3 0 (ofs r1 0).2.2).2.2, (rl (ahd r3 0 (ofs r1 0).2.2).1 0).2.2, (rl (rl (ahd r3 0 (ofs r1 0).2.2).1 0).1 0).2.2), 0)
theorem nmO_name {r r' n : List UInt8} (h : nmO r = some (r', n)) : nameB n = true := by
  unfold nmO at h
  split at h
  · cases h
  · split at h
    · split at h
      · split at h
        · cases h
        · obtain ⟨rfl, rfl⟩ := Prod.mk.inj (Option.some.inj h)
          assumption
      · cases h
    · split at h
      · obtain ⟨rfl, rfl⟩ := Prod.mk.inj (Option.some.inj h)
        assumption
      · cases h
theorem clk_24 (s : List UInt8) : -89999 ≤ (clk s 24).1 ∧ (clk s 24).1 ≤ 89999 := by
  rw [clk_eq]
  unfold clkV
  split
  · simp
  · split
    · simp
    · split
      · simp only; omega
      · simp only; omega
theorem ofs_range (r : List UInt8) (e : Int) : -89999 ≤ (ofs r e).2.2 ∧ (ofs r e).2.2 ≤ 89999 := by
  unfold ofs
  simp only
  have := clk_24 ((rd r e).takeWhile (runP clocks))
  split
  · omega
  · omega
theorem rul_right {s : List UInt8} (h : (rul s).2 = 0) : rckR (rul s).1 = 0 := by
  rw [rul_eq] at h ⊢
  unfold rulO fin at *
  unfold rckR
  split at h
  · simp at h
  · repeat' split at h
    all_goals first | (rename_i hx; simp at h; done) | skip
    all_goals simp_all
theorem rl_right {r : List UInt8} (h : (rl r 0).2.1 = 0) : rckR (rl r 0).2.2 = 0 := by
  unfold rl at *
  simp only at h ⊢
  split at h
  · rename_i h1; rw [h] at h1; exact absurd rfl h1
  · rename_i h1
    rw [if_neg h1]
    exact rul_right h
theorem isNo_no : isNo noRule = true := by decide
theorem nameB_ne {n : List UInt8} (h : nameB n = true) : n ≠ [] := by
  rintro rfl
  cases h
theorem plan_eq (s : List UInt8) : plan s = planO s := by
  have hA := nm_eq s
  unfold plan planO
  have hAd : plA s = nm s 0 := rfl
  cases hn : nmO s with
  | none =>
    rw [hn] at hA
    have hA : (nm s 0).2.1 = 2 := hA
    have hB : (plB s).2.1 = 2 := by unfold plB; rw [hAd, hA]; exact ofs_e (by omega)
    rw [hB, rd_ne (by omega)]
    simp only [List.length_nil, Nat.lt_irrefl, if_false]
    rw [clkEnd_e _ (by omega), if_pos (by omega)]
  | some x =>
    obtain ⟨r1, n⟩ := x
    rw [hn] at hA
    have hA : nm s 0 = (r1, 0, n) := hA
    have hB : plB s = ofs r1 0 := by unfold plB; rw [hAd, hA]
    have hname := nmO_name hn
    have hr := ofs_range r1 0
    rw [hB]
    simp only
    by_cases h1 : (ofs r1 0).2.1 ≠ 0
    · rw [if_pos h1, rd_ne h1]
      simp only [List.length_nil, Nat.lt_irrefl, if_false]
      rw [clkEnd_e _ h1, if_pos h1]
    · rw [if_neg h1]
      have h1 := Decidable.not_not.1 h1
      rw [h1, rd_zero]
      by_cases h2 : (ofs r1 0).1 = []
      · rw [if_pos h2, if_neg (by rw [h2]; simp), clkEnd_zero, if_pos h2, if_neg (by omega)]
        unfold chk
        have hp : plN s = (n, [], (ofs r1 0).2.2, 0, noRule, noRule) := by unfold plN; rw [hB, hAd, hA]
        have hk : pck (plN s) = 0 := by
          rw [hp]
          unfold pck
          simp only
          rw [if_neg (by simp [hname]), if_neg (by simp), if_neg (by decide), if_neg (by simp [shB]; omega), if_neg (by decide)]
        rw [hk, if_neg (by omega), hp]
      · rw [if_neg h2, if_pos (by cases hz : (ofs r1 0).1 with | nil => exact absurd hz h2 | cons => simp)]
        have hC := nm_eq (ofs r1 0).1
        cases hn2 : nmO (ofs r1 0).1 with
        | none =>
          rw [hn2] at hC
          have hC : (nm (ofs r1 0).1 0).2.1 = 2 := hC
          have e1 : (smA (ofs r1 0).1 0 (ofs r1 0).2.2).2.1 = 2 := by unfold smA; rw [hC]; exact ahd_e (by omega)
          have e2 : (smB (ofs r1 0).1 0 (ofs r1 0).2.2).2.1 = 2 := by unfold smB; rw [e1]; exact rl_e (by omega)
          have e3 : (smC (ofs r1 0).1 0 (ofs r1 0).2.2).2.1 = 2 := by unfold smC; rw [e2]; exact rl_e (by omega)
          rw [e3, clkEnd_e _ (by omega), if_pos (by omega)]
        | some y =>
          obtain ⟨r3, n2⟩ := y
          rw [hn2] at hC
          have hC : nm (ofs r1 0).1 0 = (r3, 0, n2) := hC
          have eA : smA (ofs r1 0).1 0 (ofs r1 0).2.2 = ahd r3 0 (ofs r1 0).2.2 := by unfold smA; rw [hC]
          have hname2 := nmO_name hn2
          have hra : -89999 ≤ (ahd r3 0 (ofs r1 0).2.2).2.2 := by
            unfold ahd
            have := ofs_range r3 0
            split
            · simp only; omega
            · split
              · omega
              · simp only; omega
          simp only
          by_cases h3 : (ahd r3 0 (ofs r1 0).2.2).2.1 ≠ 0
          · have e2 : (smB (ofs r1 0).1 0 (ofs r1 0).2.2).2.1 = (ahd r3 0 (ofs r1 0).2.2).2.1 := by unfold smB; rw [eA]; exact rl_e h3
            have e3 : (smC (ofs r1 0).1 0 (ofs r1 0).2.2).2.1 = (ahd r3 0 (ofs r1 0).2.2).2.1 := by unfold smC; rw [rl_e (by rw [e2]; exact h3), e2]
            rw [if_pos h3, e3, clkEnd_e _ h3, if_pos h3]
          · rw [if_neg h3]
            have h3 := Decidable.not_not.1 h3
            have eB : smB (ofs r1 0).1 0 (ofs r1 0).2.2 = rl (ahd r3 0 (ofs r1 0).2.2).1 0 := by unfold smB; rw [eA, h3]
            by_cases h4 : (rl (ahd r3 0 (ofs r1 0).2.2).1 0).2.1 ≠ 0
            · have e3 : (smC (ofs r1 0).1 0 (ofs r1 0).2.2).2.1 = (rl (ahd r3 0 (ofs r1 0).2.2).1 0).2.1 := by unfold smC; rw [eB]; exact rl_e h4
              rw [if_pos h4, e3, clkEnd_e _ h4, if_pos h4]
            · rw [if_neg h4]
              have h4 := Decidable.not_not.1 h4
              have eC : smC (ofs r1 0).1 0 (ofs r1 0).2.2 = rl (rl (ahd r3 0 (ofs r1 0).2.2).1 0).1 0 := by unfold smC; rw [eB, h4]
              rw [eC]
              by_cases h5 : (rl (rl (ahd r3 0 (ofs r1 0).2.2).1 0).1 0).2.1 ≠ 0
              · rw [if_pos h5, clkEnd_e _ h5, if_pos h5]
              · rw [if_neg h5]
                have h5 := Decidable.not_not.1 h5
                rw [h5, clkEnd_zero]
                by_cases h6 : (rl (rl (ahd r3 0 (ofs r1 0).2.2).1 0).1 0).1 ≠ []
                · rw [if_pos h6, if_neg h6, if_pos (by omega)]
                · rw [if_neg h6, if_pos (Decidable.not_not.1 h6), if_neg (by omega)]
                  have hp : plS s = (n, n2, (ofs r1 0).2.2, (ahd r3 0 (ofs r1 0).2.2).2.2, (rl (ahd r3 0 (ofs r1 0).2.2).1 0).2.2, (rl (rl (ahd r3 0 (ofs r1 0).2.2).1 0).1 0).2.2) := by
                    unfold plS
                    rw [hB, hAd, hA, h1, hC, eA, eB, eC]
                  have hk : pck (plS s) = if 89999 < (ahd r3 0 (ofs r1 0).2.2).2.2 then 1 else 0 := by
                    rw [hp]
                    unfold pck
                    simp only
                    rw [if_neg (by simp [hname]), if_pos (nameB_ne hname2), if_neg (by simp [hname2]), if_neg (by simp [shB]; omega)]
                    by_cases h7 : 89999 < (ahd r3 0 (ofs r1 0).2.2).2.2
                    · rw [if_pos h7, if_pos (by simp [shB]; omega)]
                    · rw [if_neg h7, if_neg (by simp [shB]; omega), rl_right h4, rl_right h5, if_neg (by omega)]
                  unfold chk
                  rw [hk, hp]
                  by_cases h7 : 89999 < (ahd r3 0 (ofs r1 0).2.2).2.2
                  · rw [if_pos h7, if_pos h7, if_pos (by omega)]
                  · rw [if_neg h7, if_neg h7, if_neg (by omega)]
end Go.Sm
/- Plain Lean: the reference's numbers, parts and clocks. -/
set_option linter.unusedVariables false
set_option linter.unusedSimpArgs false
namespace Go.Sm
open Go.Proofs

/-! ### Loops over a text or a list -/
theorem scan_loop {σ β γ : Type} {step : σ → Option (σ ⊕ β)} (st : Nat → σ) (fin : Nat → β) (l : List γ) (p : γ → Bool)
    (h1 : ∀ i (h : i < l.length), p l[i] = true → step (st i) = some (.inl (st (i + 1)))) (h2 : ∀ i (h : i < l.length), p l[i] = false → step (st i) = some (.inr (fin i)))
    (h3 : step (st l.length) = some (.inr (fin l.length))) : ∀ i, i ≤ l.length → whileO step (st i) = some (fin (i + ((l.drop i).takeWhile p).length)) := by
  have main : ∀ k i, l.length - i = k → i ≤ l.length → whileO step (st i) = some (fin (i + ((l.drop i).takeWhile p).length)) := by
    intro k
    induction k with
    | zero =>
      intro i hk hi
      obtain rfl : i = l.length := by omega
      rw [whileO_eq, h3, List.drop_length]
      rfl
    | succ k ih =>
      intro i hk hi
      have hlt : i < l.length := by omega
      rw [whileO_eq, List.drop_eq_getElem_cons hlt, List.takeWhile_cons]
      cases hp : p l[i] with
      | true =>
        rw [h1 i hlt hp]
        simp only [Option.bind_some, Sum.elim_inl, if_true, List.length_cons]
        rw [ih (i + 1) (by omega) (by omega)]
        congr 2
        omega
      | false =>
        rw [h2 i hlt hp]
        rfl
  exact fun i hi => main _ i rfl hi
theorem fold_loop {σ β γ α : Type} {step : σ → Option (σ ⊕ β)} (st : Nat → α → σ) (fin : α → β) (l : List γ) (f : α → γ → α) (ok : Nat → α → Prop)
    (h1 : ∀ i (h : i < l.length) a, ok i a → ok (i + 1) (f a l[i]) ∧ step (st i a) = some (.inl (st (i + 1) (f a l[i]))))
    (h3 : ∀ a, ok l.length a → step (st l.length a) = some (.inr (fin a))) : ∀ i a, i ≤ l.length → ok i a → whileO step (st i a) = some (fin ((l.drop i).foldl f a)) := by
  have main : ∀ k i a, l.length - i = k → i ≤ l.length → ok i a → whileO step (st i a) = some (fin ((l.drop i).foldl f a)) := by
    intro k
    induction k with
    | zero =>
      intro i a hk hi hok
      obtain rfl : i = l.length := by omega
      rw [whileO_eq, h3 a hok, List.drop_length]
      rfl
    | succ k ih =>
      intro i a hk hi hok
      have hlt : i < l.length := by omega
      obtain ⟨ho, hs⟩ := h1 i hlt a hok
      rw [whileO_eq, hs, List.drop_eq_getElem_cons hlt, List.foldl_cons]
      exact ih (i + 1) _ (by omega) (by omega) ho
  exact fun i a hi hok => main _ i a rfl hi hok
theorem wrap_succ {i : Nat} (h : i ≤ 1000000000000) : IntKind.i64.wrap ((i : Int) + 1) = ((i + 1 : Nat) : Int) := by rw [wrap_i64 (by omega) (by omega)]; simp
theorem getI_at {α : Type} {l : List α} {i : Nat} (h : i < l.length) : getI l (i : Int) = some l[i] := by rw [getI_nat, List.getElem?_eq_getElem h]

/-! ### Numbers -/
theorem r2Many (s : List UInt8) (hs : small s) : F_r2Many s = some ((s.takeWhile isFig).length : Int) := by
  unfold small at hs
  have h := scan_loop (step := sp_r2Many_0) (fun i => (s, (i : Int))) (fun i => if i < s.length then Sum.inl (i : Int) else Sum.inr s) s isFig
    (fun i h hp => by rw [es_r2Many_0, cond_dec, if_pos (by omega), getI_at h]; simp only [Option.bind_some, r2Is, hp, Bool.not_true, cond_false]; rw [wrap_succ (by omega)])
    (fun i h hp => by rw [es_r2Many_0, cond_dec, if_pos (by omega), getI_at h]; simp only [Option.bind_some, r2Is, hp, Bool.not_false, cond_true, if_pos h])
    (by rw [es_r2Many_0, cond_dec, if_neg (by omega)]; simp) 0 (by omega)
  have h : w_r2Many_0 (s, (0 : Int)) = _ := h
  rw [e_r2Many, h]
  simp only [Option.bind_some, Nat.zero_add, List.drop_zero]
  split
  · rfl
  · rename_i hn
    have := (List.takeWhile_prefix (p := isFig) (l := s)).length_le
    simp only [Sum.elim_inr]
    congr 2
    omega
def numP : Option Nat → Int × Bool
  | none => (0, false)
  | some n => (n, true)
theorem tw_full (p : UInt8 → Bool) (s : List UInt8) : (s.takeWhile p).length = s.length ↔ s.all p = true := by
  constructor
  · intro h
    have : s.takeWhile p = s := List.IsPrefix.eq_of_length (List.takeWhile_prefix _) h
    rw [← this]
    exact takeWhile_all p s
  · intro h
    rw [takeWhile_self p s (all_mem h)]
theorem dig_sub {b : UInt8} (h : isFig b = true) : ((b - (48 : UInt8)).toNat : Nat) = dig b ∧ dig b ≤ 9 := by
  have hfi := isFig_iff.1 h
  refine ⟨?_, by unfold dig; omega⟩
  unfold dig
  rw [UInt8.toNat_sub_of_le _ _ (by rw [UInt8.le_iff_toNat_le]; exact hfi.1)]
  rfl
theorem numF_lt {l m n : Nat} {s : List UInt8} (h : numF l m s = some n) : n < 10 ^ m := by
  obtain ⟨h1, h2, h3, rfl⟩ := numF_some h
  have := decFrom_lt s h3 0
  have h10 : 10 ^ s.length ≤ 10 ^ m := Nat.pow_le_pow_right (by omega) h2
  omega
theorem r6number (s : List UInt8) (l m : Nat) (hs : small s) (hm : m ≤ 15) : F_r6number (s, (l : Int), (m : Int)) = some (numP (numF l m s)) := by
  rw [e_r6number]
  simp only [cond_dec]
  by_cases h1 : s.length < l
  · rw [if_pos (by omega)]
    unfold numF
    rw [if_neg (by omega)]
    rfl
  · rw [if_neg (by omega)]
    by_cases h2 : m < s.length
    · rw [if_pos (by omega)]
      unfold numF
      rw [if_neg (by omega)]
      rfl
    · rw [if_neg (by omega), r2Many s hs]
      simp only [Option.bind_some]
      have hle := (List.takeWhile_prefix (p := isFig) (l := s)).length_le
      by_cases h3 : s.all isFig = true
      · have hf := (tw_full isFig s).2 h3
        rw [if_neg (by rw [hf]; omega)]
        have hd := decFrom_lt s h3 0
        have h15 : 10 ^ s.length ≤ 10 ^ 15 := Nat.pow_le_pow_right (by omega) (by omega)
        have h := fold_loop (step := sp_r6number_0) (fun i (n : Nat) => (s, (n : Int), (i : Int))) (fun n => ((n : Nat) : Int)) s (fun n b => n * 10 + dig b) (fun i n => decFrom n (s.drop i) < 10 ^ 15)
          (fun i h n hok => by
            rw [List.drop_eq_getElem_cons h, decFrom_cons] at hok
            refine ⟨hok, ?_⟩
            have hb := decFrom_le (s.drop (i + 1)) (n * 10 + dig s[i])
            obtain ⟨hg, hg9⟩ := dig_sub (all_mem h3 s[i] (List.getElem_mem h))
            rw [es_r6number_0, cond_dec, if_pos (by omega), getI_at h]
            simp only [Option.bind_some, hg]
            rw [wrap_succ (by omega), wrap_i64 (x := (n : Int) * 10) (by omega) (by omega), wrap_i64 (by omega) (by omega)]
            simp)
          (fun n _ => by rw [es_r6number_0, cond_dec, if_neg (by omega)]) 0 0 (by omega) (by rw [List.drop_zero]; omega)
        have h : w_r6number_0 (s, (0 : Int), (0 : Int)) = _ := h
        rw [h]
        unfold numF
        rw [if_pos ⟨⟨by omega, by omega⟩, h3⟩]
        rfl
      · have hf : (s.takeWhile isFig).length ≠ s.length := fun h => h3 ((tw_full isFig s).1 h)
        rw [if_pos (by omega)]
        unfold numF
        rw [if_neg (fun h => h3 h.2)]
        rfl

/-! ### Parts -/
def glue (x : List UInt8) : List (List UInt8) → List (List UInt8)
  | [] => [x]
  | p :: ps => (x ++ p) :: ps
/-- What stands between signs. -/
def spl (c : UInt8) : List UInt8 → List (List UInt8)
  | [] => [[]]
  | b :: s => if b = c then [] :: spl c s else glue [b] (spl c s)
def splT (c : UInt8) : List UInt8 → List (List UInt8)
  | [] => []
  | _ :: r => spl c r
theorem splT_nil (c : UInt8) : splT c [] = [] := rfl
theorem splT_cons (c b : UInt8) (r : List UInt8) : splT c (b :: r) = spl c r := rfl
theorem spl_eq (c : UInt8) : ∀ s : List UInt8, spl c s = s.takeWhile (· != c) :: splT c (s.dropWhile (· != c))
  | [] => rfl
  | b :: s => by
    rw [spl, List.takeWhile_cons, List.dropWhile_cons]
    by_cases h : b = c
    · subst h
      simp [splT]
    · rw [if_neg h, spl_eq c s]
      have hb : (b != c) = true := by simpa using h
      rw [if_pos hb, if_pos hb]
      rfl
theorem glue_glue (x y : List UInt8) {l : List (List UInt8)} (h : l ≠ []) : glue x (glue y l) = glue (x ++ y) l := by
  cases l with
  | nil => exact absurd rfl h
  | cons p ps => simp [glue]
theorem spl_ne (c : UInt8) (s : List UInt8) : spl c s ≠ [] := by rw [spl_eq]; simp
theorem glue_nil {l : List (List UInt8)} (h : l ≠ []) : glue [] l = l := by
  cases l with
  | nil => exact absurd rfl h
  | cons p ps => rfl
theorem roomB_small {n : Nat} (h : n ≤ 1000000000000) : roomB n 1 16 = true := by
  unfold roomB
  simp
  omega
theorem r6parts_loop (s : List UInt8) (g : UInt8) (hs : small s) : ∀ (k i : Nat) (o : List (List UInt8)) (x : List UInt8), s.length - i = k → i ≤ s.length → o.length ≤ i → x.length ≤ i →
    w_r6parts_0 (s, g, o ++ [x], (i : Int)) = some (o ++ glue x (spl g (s.drop i))) := by
  unfold small at hs
  intro k
  induction k with
  | zero =>
    intro i o x hk hi ho hx
    rw [ew_r6parts_0, es_r6parts_0, cond_dec, if_neg (by omega), List.drop_eq_nil_of_le (by omega)]
    simp [spl, glue]
  | succ k ih =>
    intro i o x hk hi ho hx
    have hlt : i < s.length := by omega
    have hlen : ((o ++ [x]).length : Int) - 1 = (o.length : Int) := by simp
    rw [ew_r6parts_0, es_r6parts_0, cond_dec, if_pos (by omega), getI_at hlt, List.drop_eq_getElem_cons hlt, spl]
    simp only [Option.bind_some, cond_dec]
    by_cases h : s[i] = g
    · rw [if_pos h, if_pos h, roomB_small (by simp; omega), wrap_succ (by omega)]
      simp only [cond_true, Option.bind_some, Sum.elim_inl]
      rw [ih (i + 1) (o ++ [x]) [] (by omega) (by omega) (by simp; omega) (by simp), glue_nil (spl_ne _ _)]
      simp [glue]
    · rw [if_neg h, if_neg h, hlen, wrap_i64 (x := (o.length : Int)) (by omega) (by omega), wrap_succ (by omega)]
      rw [if_pos (by simp; omega), Int.toNat_natCast]
      have hgx : (o ++ [x])[o.length]? = some x := by simp
      rw [hgx]
      simp only [Option.bind_some]
      rw [subI_nat s (by omega) (by omega)]
      have hsub : (s.take (i + 1)).drop i = [s[i]] := by
        rw [List.drop_take]
        rw [show i + 1 - i = 1 by omega, List.drop_eq_getElem_cons hlt]
        rfl
      rw [hsub]
      simp only [Option.bind_some]
      rw [if_pos (by simp; omega), if_pos (by simp; omega)]
      simp only [Option.bind_some, Sum.elim_inl]
      have hset : (o ++ [x]).set o.length (x ++ [s[i]]) = o ++ [x ++ [s[i]]] := by simp
      rw [hset, ih (i + 1) o (x ++ [s[i]]) (by omega) (by omega) (by omega) (by simp; omega), glue_glue _ _ (spl_ne _ _)]
theorem r6parts (s : List UInt8) (g : UInt8) (hs : small s) : F_r6parts (s, g) = some (spl g s) := by
  have h := r6parts_loop s g hs _ 0 [] [] rfl (by omega) (by simp) (by simp)
  rw [List.drop_zero, glue_nil (spl_ne _ _)] at h
  have h : w_r6parts_0 (s, g, [[]], (0 : Int)) = some (spl g s) := h
  rw [e_r6parts, h]
  rfl

/-! ### Clocks -/
theorem numP_some {o : Option Nat} {n : Nat} (h : o = some n) : numP o = ((n : Int), true) := by subst h; rfl
theorem numP_none {o : Option Nat} (h : o = none) : numP o = (0, false) := by subst h; rfl
theorem clk_part (g : Int) (l : List (List UInt8)) (h r : Int) (b : Bool) (u : Int) (i : Nat) (x : List UInt8) (hx : l[i]? = some x) (hi : i ≤ 1000) (hs : small x) :
    w_r6ParseClock_0 (g, l, h, r, b, u, (i : Int)) = match numF 2 2 x with
      | none => some (.inl (0, 2))
      | some n => w_r6ParseClock_0 (g, l, h, IntKind.i64.wrap (r + IntKind.i64.wrap ((n : Int) * u)), b || decide (60 ≤ n), 1, ((i + 1 : Nat) : Int)) := by
  have hlt := (List.getElem?_eq_some_iff.1 hx).1
  have hn := r6number x 2 2 hs (by omega)
  rw [ew_r6ParseClock_0, es_r6ParseClock_0, cond_dec, if_pos (by omega), getI_nat, hx]
  simp only [Option.bind_some]
  have hn : F_r6number (x, (2 : Int), (2 : Int)) = _ := hn
  rw [hn]
  simp only [Option.bind_some]
  cases hq : numF 2 2 x with
  | none => rfl
  | some n =>
    rw [show numP (some n) = ((n : Int), true) from rfl, wrap_succ (by omega)]
    simp only [Bool.not_true, cond_false]
    cases b with
    | true => rfl
    | false =>
      simp only [cond_false, Option.bind_some, Sum.elim_inl, Bool.false_or]
      rw [show decide ((59 : Int) < (n : Int)) = decide (60 ≤ n) from decide_eq_decide.2 (by omega)]
theorem clk_done (g : Int) (l : List (List UInt8)) (h r : Int) (b : Bool) (u : Int) (i : Nat) (hi : i = l.length) :
    w_r6ParseClock_0 (g, l, h, r, b, u, (i : Int)) = some (.inr (g, h, r, b)) := by
  rw [ew_r6ParseClock_0, es_r6ParseClock_0, cond_dec, if_neg (by omega)]
  rfl
theorem small_dw {s : List UInt8} (p : UInt8 → Bool) (h : small s) : small (s.dropWhile p) := by
  have := (List.dropWhile_suffix (p := p) (l := s)).length_le
  unfold small at *
  omega
theorem small_tl {b : UInt8} {s : List UInt8} (h : small (b :: s)) : small s := by
  unfold small at *
  simp at h
  omega
def sgn (neg : Bool) : Int := if neg then -1 else 1
theorem r6clock_end (neg : Bool) (m : Int) (h k x : Nat) (bb : Bool) (hb : bb = true ↔ (m < (h : Int) ∨ 60 ≤ k ∨ 60 ≤ x)) (h1 : h < 10 ^ 3) (h2 : k < 10 ^ 2) (h3 : x < 10 ^ 2) (rest : Int) (hr : rest = (k : Int) * 60 + (x : Int)) :
    (bif bb then some ((0 : Int), (1 : Int)) else some (IntKind.i64.wrap (sgn neg * IntKind.i64.wrap (IntKind.i64.wrap ((h : Int) * 3600) + rest)), (0 : Int))) = some (clkV (some (h, k, x)) neg m) := by
  unfold clkV
  simp only
  by_cases hq : m < (h : Int) ∨ 60 ≤ k ∨ 60 ≤ x
  · rw [if_pos hq, hb.2 hq]
    rfl
  · rw [if_neg hq]
    have : bb = false := by cases bb with | false => rfl | true => exact absurd (hb.1 rfl) hq
    subst this
    subst hr
    simp only [cond_false]
    rw [wrap_i64 (x := (h : Int) * 3600) (by omega) (by omega), wrap_i64 (x := (h : Int) * 3600 + _) (by omega) (by omega)]
    unfold sgn
    cases neg with
    | true => rw [if_pos rfl, if_pos rfl, wrap_i64 (by omega) (by omega)]; congr 2; omega
    | false => rw [if_neg (by simp), if_neg (by simp), wrap_i64 (by omega) (by omega)]; congr 2; omega
theorem r6clock_tail (t : List UInt8) (neg : Bool) (m : Int) (ht : small t) :
    ((F_r6parts (t, (58 : UInt8))).bind fun x4 =>
      (getI x4 (0 : Int)).bind fun x5 =>
        (F_r6number (x5, (1 : Int), (3 : Int))).bind fun x6 =>
          bif !x6.snd then some ((0 : Int), (2 : Int))
          else
            bif decide ((3 : Int) < (↑x4.length : Int)) then some ((0 : Int), (2 : Int))
            else
              (w_r6ParseClock_0 (sgn neg, x4, x6.fst, (0 : Int), decide (m < x6.fst), (60 : Int), (1 : Int))).bind fun x7 =>
                Sum.elim (fun x8 => some x8)
                  (fun x8 =>
                    bif x8.snd.snd.snd then some ((0 : Int), (1 : Int))
                    else some (IntKind.i64.wrap (x8.fst * IntKind.i64.wrap (IntKind.i64.wrap (x8.snd.fst * (3600 : Int)) + x8.snd.snd.fst)), (0 : Int)))
                  x7) = some (clkV (clkO t) neg m) := by
  rw [r6parts t 58 ht, spl_eq]
  simp only [Option.bind_some]
  have hg0 : ∀ (a : List UInt8) (l : List (List UInt8)), getI (a :: l) (0 : Int) = some a := fun a l => getI_nat (a :: l) 0
  rw [hg0]
  simp only [Option.bind_some]
  have hn : F_r6number (t.takeWhile (· != 58), (1 : Int), (3 : Int)) = some (numP (numF 1 3 (t.takeWhile (· != 58)))) := r6number _ 1 3 (small_tw _ ht) (by omega)
  rw [hn]
  simp only [Option.bind_some]
  unfold clkO
  cases hq : numF 1 3 (t.takeWhile (· != 58)) with
  | none => rfl
  | some h =>
    have hh := numF_lt hq
    rw [show numP (some h) = ((h : Int), true) from rfl]
    simp only [Bool.not_true, cond_false, cond_dec]
    rcases dw_cases 58 t with hd | ⟨r, hd⟩
    · rw [hd, splT_nil]
      rw [if_neg (by simp), show (1 : Int) = ((1 : Nat) : Int) from rfl, clk_done _ _ _ _ _ _ 1 rfl]
      simp only [Option.bind_some, Sum.elim_inr]
      exact r6clock_end neg m h 0 0 _ (by simp) hh (by omega) (by omega) 0 (by simp)
    · rw [hd, splT_cons]
      dsimp only
      have hr : small r := by have := small_dw (· != 58) ht; rw [hd] at this; exact small_tl this
      rw [spl_eq]
      rcases dw_cases 58 r with hd2 | ⟨r2, hd2⟩
      · rw [hd2, splT_nil]
        rw [if_neg (by simp), show (1 : Int) = ((1 : Nat) : Int) from rfl, clk_part _ _ _ _ _ _ 1 (r.takeWhile (· != 58)) rfl (by omega) (small_tw _ hr)]
        cases hq2 : numF 2 2 (r.takeWhile (· != 58)) with
        | none => rfl
        | some k =>
          have hk := numF_lt hq2
          simp only
          rw [clk_done _ _ _ _ _ _ (1 + 1) rfl]
          simp only [Option.bind_some, Sum.elim_inr]
          exact r6clock_end neg m h k 0 _ (by simp) hh (by omega) (by omega) _ (by rw [wrap_i64 (x := (k : Int) * 60) (by omega) (by omega), wrap_i64 (by omega) (by omega)]; simp)
      · rw [hd2, splT_cons]
        dsimp only
        have hr2 : small r2 := by have := small_dw (· != 58) hr; rw [hd2] at this; exact small_tl this
        rcases dw_cases 58 r2 with hd3 | ⟨r3, hd3⟩
        · have h3 : r2.takeWhile (· != 58) = r2 := by have := tw_dw (· != 58) r2; rw [hd3, List.append_nil] at this; exact this.symm
          rw [spl_eq, hd3, splT_nil, h3]
          rw [if_neg (by simp), show (1 : Int) = ((1 : Nat) : Int) from rfl, clk_part _ _ _ _ _ _ 1 (r.takeWhile (· != 58)) rfl (by omega) (small_tw _ hr)]
          cases hq2 : numF 2 2 (r.takeWhile (· != 58)) with
          | none => rfl
          | some k =>
            have hk := numF_lt hq2
            simp only
            rw [clk_part _ _ _ _ _ _ (1 + 1) r2 rfl (by omega) hr2]
            cases hq3 : numF 2 2 r2 with
            | none => rfl
            | some x =>
              have hx := numF_lt hq3
              simp only
              rw [clk_done _ _ _ _ _ _ (1 + 1 + 1) rfl]
              simp only [Option.bind_some, Sum.elim_inr]
              exact r6clock_end neg m h k x _ (by simp [or_assoc]) hh (by omega) (by omega) _ (by rw [wrap_i64 (x := (k : Int) * 60) (by omega) (by omega), wrap_i64 (x := (x : Int) * 1) (by omega) (by omega), wrap_i64 (x := 0 + _) (by omega) (by omega), wrap_i64 (by omega) (by omega)]; simp)
        · rw [spl_eq, hd3, splT_cons]
          have hlen : 0 < (spl 58 r3).length := List.length_pos_iff.2 (spl_ne _ _)
          rw [if_pos (by simp only [List.length_cons]; omega)]
          have hno : numF 2 2 r2 = none := by
            unfold numF
            rw [if_neg]
            intro hc
            have hm : (58 : UInt8) ∈ r2 := (List.dropWhile_suffix (· != 58)).subset (by rw [hd3]; simp)
            have := all_mem hc.2 58 hm
            exact absurd this (by decide)
          rw [hno]
          cases numF 2 2 (r.takeWhile (· != 58)) <;> rfl
theorem r6ParseClock (s : List UInt8) (m : Int) (hs : small s) (h0 : 0 ≤ m) (h1 : m ≤ 999) : F_r6ParseClock (s, m) = some (clk s m) := by
  have tl := r6clock_tail
  have tT : ∀ t m, small t → _ := fun t m h => r6clock_tail t true m h
  have tF : ∀ t m, small t → _ := fun t m h => r6clock_tail t false m h
  rw [show sgn true = (-1 : Int) from rfl] at tT
  rw [show sgn false = (1 : Int) from rfl] at tF
  rw [e_r6ParseClock, clk_eq, cond_dec, if_neg (by omega), cond_dec, if_neg (by omega)]
  cases s with
  | nil =>
    rw [cond_dec, if_neg (by simp)]
    exact tF [] m hs
  | cons b r =>
    have hg : getI (b :: r) (0 : Int) = some b := getI_nat (b :: r) 0
    have hsub : subI (b :: r) (1 : Int) (((b :: r).length : Nat) : Int) = some r := by
      have := subI_nat (b :: r) (a := 1) (b := (b :: r).length) (by simp) (by omega)
      simpa using this
    have hr := small_tl hs
    rw [cond_dec, if_pos (by simp)]
    rw [hg]
    simp only [Option.bind_some]
    by_cases h43 : b = 43
    · subst h43
      rw [cond_dec, if_pos rfl, cond_dec, if_neg (by decide), hsub]
      simp only [Option.bind_some]
      have : strip (43 :: r) = r := by simp [strip]
      rw [this, tkB_zero]
      exact tF r m hr
    · rw [cond_dec, if_neg h43]
      by_cases h45 : b = 45
      · subst h45
        rw [cond_dec, if_pos rfl, cond_dec, if_pos rfl, hsub]
        simp only [Option.bind_some]
        have : strip (45 :: r) = r := by simp [strip]
        rw [this, tkB_cons]
        exact tT r m hr
      · rw [cond_dec, if_neg h45]
        have : strip (b :: r) = b :: r := by simp [strip, h43, h45]
        have hb : tkB 45 (b :: r) 0 = false := by rw [tkB_zero]; simpa using h45
        rw [this, hb]
        exact tF (b :: r) m hs
end Go.Sm
/- Plain Lean: figures as texts (program and reference). -/
set_option linter.unusedVariables false
set_option linter.unusedSimpArgs false
namespace Go.Sm
open Go.Proofs

/-! ### A list turned -/
theorem rev_loop : ∀ (n : Nat) (m a b : List UInt8), m.length = n → a.length = b.length → a.length + m.length + b.length ≤ 1000000000000 →
    w_slReverse_0 (a ++ m ++ b, (a.length : Int), ((a.length + m.length : Nat) : Int) - 1) = some (a ++ m.reverse ++ b)
  | 0, m, a, b, hn, hab, hs => by
    obtain rfl := List.length_eq_zero_iff.1 hn
    rw [ew_slReverse_0, es_slReverse_0, cond_dec, if_neg (by simp; omega)]
    simp
  | 1, m, a, b, hn, hab, hs => by
    obtain ⟨x, rfl⟩ := List.length_eq_one_iff.1 hn
    rw [ew_slReverse_0, es_slReverse_0, cond_dec, if_neg (by simp)]
    simp
  | n + 2, m, a, b, hn, hab, hs => by
    obtain ⟨x, m1, rfl⟩ : ∃ x m1, m = x :: m1 := by cases m with | nil => simp at hn | cons x m1 => exact ⟨x, m1, rfl⟩
    obtain ⟨m2, y, rfl⟩ : ∃ m2 y, m1 = m2 ++ [y] := by
      rcases List.eq_nil_or_concat m1 with h | ⟨s', b, h⟩
      · subst h; simp at hn
      · exact ⟨s', b, by simpa using h⟩
    have hlen : m2.length = n := by simp at hn; omega
    have hj : (((a.length + (x :: (m2 ++ [y])).length : Nat) : Int) - 1) = ((a.length + m2.length + 1 : Nat) : Int) := by simp; omega
    have hl : (a ++ x :: (m2 ++ [y]) ++ b).length = a.length + m2.length + 2 + b.length := by simp; omega
    have gi : (a ++ x :: (m2 ++ [y]) ++ b)[a.length]? = some x := by simp
    have gj : (a ++ x :: (m2 ++ [y]) ++ b)[a.length + m2.length + 1]? = some y := by
      rw [show a ++ x :: (m2 ++ [y]) ++ b = (a ++ x :: m2) ++ y :: b by simp]
      rw [List.getElem?_append_right (by simp; omega)]
      simp; rw [show a.length + m2.length + 1 - (a.length + (m2.length + 1)) = 0 by omega]; rfl
    have s1 : (a ++ x :: (m2 ++ [y]) ++ b).set a.length y = a ++ y :: (m2 ++ [y]) ++ b := by simp
    have s2 : (a ++ y :: (m2 ++ [y]) ++ b).set (a.length + m2.length + 1) x = (a ++ [y]) ++ m2 ++ (x :: b) := by
      rw [show a ++ y :: (m2 ++ [y]) ++ b = (a ++ y :: m2) ++ y :: b by simp]
      rw [List.set_append_right _ _ (by simp; omega)]
      rw [show a.length + m2.length + 1 - (a ++ y :: m2).length = 0 by simp; omega]
      simp
    rw [hj, ew_slReverse_0, es_slReverse_0, cond_dec, if_pos (by omega), cond_dec, if_pos (by rw [hl]; omega), Int.toNat_natCast, gj]
    simp only [Option.bind_some]
    rw [cond_dec, if_pos (by rw [hl]; omega), Int.toNat_natCast, gi]
    simp only [Option.bind_some]
    rw [s1]
    rw [cond_dec, if_pos (by simp; omega), cond_dec, if_pos (by simp; omega)]
    have g3 : (a ++ y :: (m2 ++ [y]) ++ b)[a.length + m2.length + 1]? = some y := by
      rw [show a ++ y :: (m2 ++ [y]) ++ b = (a ++ y :: m2) ++ y :: b by simp]
      rw [List.getElem?_append_right (by simp; omega)]
      simp; rw [show a.length + m2.length + 1 - (a.length + (m2.length + 1)) = 0 by omega]; rfl
    rw [g3]
    simp only [Option.bind_some, Sum.elim_inl]
    rw [s2, wrap_i64 (x := (a.length : Int) + 1) (by omega) (by omega), wrap_i64 (by omega) (by omega)]
    have ih := rev_loop n m2 (a ++ [y]) (x :: b) hlen (by simp; omega) (by simp at hs ⊢; omega)
    have e1 : ((a ++ [y]).length : Int) = (a.length : Int) + 1 := by simp
    have e2 : (((a ++ [y]).length + m2.length : Nat) : Int) - 1 = ((a.length + m2.length + 1 : Nat) : Int) - 1 := by simp; omega
    rw [e1, e2] at ih
    rw [ih]
    simp
theorem slReverse (l : List UInt8) (hs : small l) : F_slReverse l = some l.reverse := by
  unfold small at hs
  have h := rev_loop _ l [] [] rfl rfl (by simpa using hs)
  simp only [List.nil_append, List.append_nil, List.length_nil, Nat.zero_add] at h
  have h : w_slReverse_0 (l, (0 : Int), (l.length : Int) - 1) = _ := h
  rw [e_slReverse, wrap_i64 (by omega) (by omega), h]
  rfl

/-! ### Figures of a number, the least ones first -/
def dB (n : Nat) : UInt8 := UInt8.ofNat (48 + n % 10)
def dgs : Nat → Nat → List UInt8
  | 0, _ => []
  | f + 1, n => if n = 0 then [] else dB n :: dgs f (n / 10)
theorem dgs_fuel : ∀ (f g n : Nat), n ≤ f → n ≤ g → dgs f n = dgs g n
  | 0, 0, n, _, _ => rfl
  | 0, g + 1, n, h, _ => by
    obtain rfl : n = 0 := by omega
    rfl
  | f + 1, 0, n, _, h => by
    obtain rfl : n = 0 := by omega
    rfl
  | f + 1, g + 1, n, h1, h2 => by
    rw [dgs, dgs]
    by_cases h : n = 0
    · rw [if_pos h, if_pos h]
    · rw [if_neg h, if_neg h, dgs_fuel f g (n / 10) (by omega) (by omega)]
def dg (n : Nat) : List UInt8 := dgs n n
theorem dg_zero : dg 0 = [] := rfl
theorem dg_pos {n : Nat} (h : 0 < n) : dg n = dB n :: dg (n / 10) := by
  obtain ⟨m, rfl⟩ : ∃ m, n = m + 1 := ⟨n - 1, by omega⟩
  unfold dg
  rw [dgs, if_neg (by omega), dgs_fuel m ((m + 1) / 10) _ (by omega) (Nat.le_refl _)]
theorem dg_len : ∀ (k n : Nat), n < 10 ^ k → (dg n).length ≤ k
  | 0, n, h => by
    obtain rfl : n = 0 := by simpa using h
    simp [dg_zero]
  | k + 1, n, h => by
    by_cases h0 : n = 0
    · subst h0; simp [dg_zero]
    · rw [dg_pos (by omega), List.length_cons]
      have := dg_len k (n / 10) (by rw [Nat.pow_succ] at h; omega)
      omega
theorem dB_prog (n : Nat) : (48 : UInt8) + byteI ((n : Int).tmod 10) = dB n := by
  apply UInt8.toNat_inj.1
  unfold dB byteI
  have : ((n : Int).tmod 10) = ((n % 10 : Nat) : Int) := rfl
  rw [this]
  have h2 : (((n % 10 : Nat) : Int) % 256).toNat = n % 10 := by omega
  rw [h2, UInt8.toNat_add]
  simp
theorem dB_ref (n : Nat) : byteI (IntKind.i64.wrap (48 + (n : Int).tmod 10)) = dB n := by
  have : ((n : Int).tmod 10) = ((n % 10 : Nat) : Int) := rfl
  rw [this, wrap_i64 (by omega) (by omega)]
  unfold dB byteI
  congr 1
  omega
/-- A number's text, at least so wide. -/
def rawS (n w : Nat) : List UInt8 := List.replicate (max w 1 - (dg n).length) 48 ++ (dg n).reverse
theorem rawS_0 (n : Nat) : rawS n 0 = rawS n 1 := rfl
theorem rawS_len {n w : Nat} (k : Nat) (h : n < 10 ^ k) : (rawS n w).length ≤ k + w + 1 := by
  have := dg_len k n h
  unfold rawS
  simp
  omega
theorem raw_pad (w : Nat) (hw : w ≤ 20) : ∀ (k : Nat) (l : List UInt8), max w 1 - l.length = k → l.length ≤ 100 → w_figRaw_0 (0, (w : Int), l) = some (l ++ List.replicate k 48)
  | 0, l, hk, hl => by
    rw [ew_figRaw_0, es_figRaw_0, cond_dec, if_neg (by omega), cond_dec, if_neg (by omega)]
    simp
  | k + 1, l, hk, hl => by
    have h48 : (48 : UInt8) + byteI ((0 : Int).tmod 10) = 48 := by decide
    rw [ew_figRaw_0, es_figRaw_0, cond_dec, if_neg (by omega), cond_dec, if_pos (by omega), h48]
    have hr : roomB l.length [(48 : UInt8)].length 1 = true := by unfold roomB; simp; omega
    rw [hr]
    simp only [cond_true, Option.bind_some, Sum.elim_inl]
    rw [show IntKind.u64.wrap ((0 : Int).tdiv 10) = 0 by decide, raw_pad w hw k (l ++ [48]) (by simp; omega) (by simp; omega)]
    simp [List.replicate_succ]
theorem raw_loop (w : Nat) (hw : w ≤ 20) : ∀ (j n : Nat) (l : List UInt8), n < 10 ^ j → j ≤ 18 → l.length + j ≤ 60 → w_figRaw_0 ((n : Int), (w : Int), l) = some (l ++ dg n ++ List.replicate (max w 1 - (l ++ dg n).length) 48)
  | 0, n, l, hn, hj, hl => by
    obtain rfl : n = 0 := by simpa using hn
    rw [dg_zero, List.append_nil]
    exact raw_pad w hw _ l rfl (by omega)
  | j + 1, n, l, hn, hj, hl => by
    by_cases h0 : n = 0
    · subst h0
      rw [dg_zero, List.append_nil]
      exact raw_pad w hw _ l rfl (by omega)
    · have hb : n < 10 ^ 18 := Nat.lt_of_lt_of_le hn (Nat.pow_le_pow_right (by omega) hj)
      rw [ew_figRaw_0, es_figRaw_0, cond_dec, if_pos (by omega), dB_prog]
      have hr : roomB l.length [dB n].length 1 = true := by unfold roomB; simp; omega
      rw [hr]
      simp only [cond_true, Option.bind_some, Sum.elim_inl]
      have hd : (n : Int).tdiv 10 = ((n / 10 : Nat) : Int) := rfl
      rw [hd, wrap_u64 (by omega) (by omega), raw_loop w hw j (n / 10) (l ++ [dB n]) (by rw [Nat.pow_succ] at hn; omega) (by omega) (by simp; omega), dg_pos (n := n) (by omega)]
      simp
theorem figRaw (n w : Nat) (hn : n < 10 ^ 15) (hw : w ≤ 20) : F_figRaw ((n : Int), (w : Int)) = some (rawS n w) := by
  rw [e_figRaw, raw_loop w hw 15 n [] hn (by omega) (by simp)]
  have := dg_len 15 n hn
  simp only [Option.bind_some, List.nil_append]
  rw [slReverse _ (by unfold small; simp; omega)]
  unfold rawS
  simp
theorem figPut (n w : Nat) (hn : n < 10 ^ 15) (hw : w ≤ 20) : F_figPut ((n : Int), (w : Int)) = some (rawS n w, 0) := by
  rw [e_figPut, cond_dec, if_neg (by omega), cond_dec, if_neg (by omega), cond_dec, if_neg (by omega), wrap_u64 (by omega) (by omega), figRaw n w hn hw]
  rfl
theorem r2pad (w : Nat) (hw : w ≤ 20) : ∀ (k : Nat) (l : List UInt8), max w 1 - l.length = k → l.length ≤ 100 → w_r2Raw_1 ((w : Int), l) = some (List.replicate k 48 ++ l)
  | 0, l, hk, hl => by
    rw [ew_r2Raw_1, es_r2Raw_1, cond_dec, if_neg (by omega), cond_dec, if_neg (by omega)]
    rfl
  | k + 1, l, hk, hl => by
    have hgo : sp_r2Raw_1 ((w : Int), l) = some (.inl ((w : Int), 48 :: l)) := by
      rw [es_r2Raw_1, cond_dec]
      have hc : (bif decide ((1 : Nat) + l.length ≤ (9223372036854775807 : Nat)) then some (Sum.inl ((w : Int), [(48 : UInt8)] ++ l)) else (none : Option ((Int × List UInt8) ⊕ List UInt8))) = some (.inl ((w : Int), 48 :: l)) := by
        rw [cond_dec, if_pos (by omega)]; rfl
      rw [hc]
      by_cases h : l.length < w
      · rw [if_pos (by omega)]
      · rw [if_neg (by omega), cond_dec, if_pos (by omega)]
    rw [ew_r2Raw_1, hgo]
    simp only [Option.bind_some, Sum.elim_inl]
    rw [r2pad w hw k (48 :: l) (by simp; omega) (by simp; omega)]
    rw [show List.replicate (k + 1) (48 : UInt8) = List.replicate k 48 ++ [48] from List.replicate_succ']
    simp
theorem r2loop (w : Nat) : ∀ (j n : Nat) (l : List UInt8), n < 10 ^ j → j ≤ 18 → l.length + j ≤ 60 → w_r2Raw_0 ((n : Int), (w : Int), l) = some ((w : Int), (dg n).reverse ++ l)
  | 0, n, l, hn, hj, hl => by
    obtain rfl : n = 0 := by simpa using hn
    rw [ew_r2Raw_0, es_r2Raw_0, cond_dec, if_neg (by omega)]
    rfl
  | j + 1, n, l, hn, hj, hl => by
    by_cases h0 : n = 0
    · subst h0
      rw [ew_r2Raw_0, es_r2Raw_0, cond_dec, if_neg (by omega)]
      rfl
    · have hb : n < 10 ^ 18 := Nat.lt_of_lt_of_le hn (Nat.pow_le_pow_right (by omega) hj)
      rw [ew_r2Raw_0, es_r2Raw_0, cond_dec, if_pos (by omega), dB_ref, cond_dec, if_pos (by simp; omega)]
      have hd : (n : Int).tdiv 10 = ((n / 10 : Nat) : Int) := rfl
      simp only [Option.bind_some, Sum.elim_inl]
      rw [hd, wrap_i64 (by omega) (by omega), r2loop w j (n / 10) _ (by rw [Nat.pow_succ] at hn; omega) (by omega) (by simp; omega), dg_pos (n := n) (by omega)]
      simp
theorem r2Raw (n w : Nat) (hn : n < 10 ^ 15) (hw : w ≤ 20) : F_r2Raw ((n : Int), (w : Int)) = some (rawS n w) := by
  have := dg_len 15 n hn
  rw [e_r2Raw, r2loop w 15 n [] hn (by omega) (by simp)]
  simp only [Option.bind_some, List.append_nil]
  rw [r2pad w hw _ _ rfl (by simp; omega)]
  simp [rawS]
end Go.Sm
/- Plain Lean: the reference's rules, names, clocks of plans. -/
set_option linter.unusedVariables false
set_option linter.unusedSimpArgs false
namespace Go.Sm
open Go.Proofs

theorem cutB_eq (c : UInt8) (s : List UInt8) : cutB c s = (s.takeWhile (· != c), (s.dropWhile (· != c)).drop 1, decide ((s.takeWhile (· != c)).length < s.length)) := by
  unfold cutB
  have hs := congrArg List.length (tw_dw (· != c) s)
  rw [List.length_append] at hs
  cases hc : s.contains c with
  | true =>
    rw [if_pos rfl]
    have hm : c ∈ s := by simpa using hc
    have : s.dropWhile (· != c) ≠ [] := fun h => by
      have := dropWhile_nil (· != c) s h c hm
      simp at this
    have := List.length_pos_iff.2 this
    rw [decide_eq_true (by omega)]
  | false =>
    rw [if_neg (by simp)]
    have hm : ¬ c ∈ s := by simpa using hc
    have : s.takeWhile (· != c) = s := takeWhile_self _ _ fun x hx => by simp; rintro rfl; exact hm hx
    have h2 : s.dropWhile (· != c) = [] := by
      rw [this] at hs
      exact List.length_eq_zero_iff.1 (by omega)
    rw [this, h2]
    simp
theorem scan_ne {σ β : Type} {step : σ → Option (σ ⊕ β)} (st : Nat → σ) (fin : Nat → β) (s : List UInt8) (p : UInt8 → Bool)
    (h : ∀ i, i ≤ s.length → step (st i) = (if h : i < s.length then (if p s[i] then some (.inl (st (i + 1))) else some (.inr (fin i))) else some (.inr (fin i)))) :
    ∀ i, i ≤ s.length → whileO step (st i) = some (fin (i + ((s.drop i).takeWhile p).length)) :=
  scan_loop st fin s p (fun i hi hp => by rw [h i (by omega), dif_pos hi, if_pos hp]) (fun i hi hp => by rw [h i (by omega), dif_pos hi, if_neg (by simp [hp])]) (by rw [h _ (by omega), dif_neg (by omega)])
theorem r6Parse_loop (s : List UInt8) (x : Rul) (hs : small s) (i : Nat) (hi : i ≤ s.length) : w_r6Parse_0 (s, x, (i : Int)) = some (s, x, ((i + ((s.drop i).takeWhile (· != 47)).length : Nat) : Int)) :=
  scan_ne (step := sp_r6Parse_0) (fun i => (s, x, (i : Int))) (fun i => (s, x, (i : Int))) s (· != 47) (fun i hi => by
    unfold small at hs
    obtain ⟨k, m, w, d, t⟩ := x
    rw [es_r6Parse_0, cond_dec]
    by_cases h : i < s.length
    · rw [dif_pos h, if_pos (by omega), getI_at h]
      simp only [Option.bind_some, cond_dec]
      rw [wrap_succ (by omega)]
      by_cases h47 : s[i] = 47
      · rw [if_neg (by simpa using h47), if_neg (by simpa using h47)]
      · rw [if_pos h47, if_pos (by simpa using h47)]
    · rw [dif_neg h, if_neg (by omega)]) i hi
theorem rul_tail6 (s : List UInt8) (hs : small s) (k m w d : Int) :
    (bif decide ((((s.takeWhile (· != 47)).length : Nat) : Int) < (s.length : Int)) then
      (subI s (IntKind.i64.wrap ((((s.takeWhile (· != 47)).length : Nat) : Int) + (1 : Int))) (s.length : Int)).bind fun x6 =>
        (F_r6ParseClock (x6, (167 : Int))).bind fun x7 =>
          bif decide (x7.snd ≠ (0 : Int)) then some (((0 : Int), (0 : Int), (0 : Int), (0 : Int), (0 : Int)), x7.snd)
          else
            (F_r6Check (k, m, w, d, x7.fst)).bind fun x8 =>
              bif decide (x8 ≠ (0 : Int)) then some (((0 : Int), (0 : Int), (0 : Int), (0 : Int), (0 : Int)), x8) else some ((k, m, w, d, x7.fst), (0 : Int))
    else
      (F_r6Check (k, m, w, d, (7200 : Int))).bind fun x6 =>
        bif decide (x6 ≠ (0 : Int)) then some (((0 : Int), (0 : Int), (0 : Int), (0 : Int), (0 : Int)), x6) else some ((k, m, w, d, (7200 : Int)), (0 : Int))) =
    some (if (cutB 47 s).2.2 then (if (clk (cutB 47 s).2.1 167).2 ≠ 0 then (noRule, (clk (cutB 47 s).2.1 167).2) else fin (k, m, w, d) (clk (cutB 47 s).2.1 167).1) else fin (k, m, w, d) 7200) := by
  have hfin : ∀ t : Int, ((F_r6Check (k, m, w, d, t)).bind fun x8 => bif decide (x8 ≠ (0 : Int)) then some (((0 : Int), (0 : Int), (0 : Int), (0 : Int), (0 : Int)), x8) else some ((k, m, w, d, t), (0 : Int))) = some (fin (k, m, w, d) t) := by
    intro t
    rw [r6Check]
    simp only [Option.bind_some]
    rw [cond_dec]
    unfold fin
    by_cases h : rck k m w d t ≠ 0
    · rw [if_pos h, if_pos h]; rfl
    · rw [if_neg h, if_neg h]
  have hc := (small_cut 47 hs).2
  rw [cutB_eq] at hc ⊢
  have hsm : s.length ≤ 1000000000000 := hs
  rw [cond_dec]
  by_cases h : (s.takeWhile (· != 47)).length < s.length
  · rw [if_pos (by omega), decide_eq_true h, if_pos rfl, wrap_succ (by omega), subI_nat s (by omega) (by omega), List.take_length, ← List.drop_drop, drop_takeWhile]
    simp only [Option.bind_some]
    rw [r6ParseClock _ 167 hc (by omega) (by omega)]
    simp only [Option.bind_some]
    rw [cond_dec]
    by_cases h1 : (clk ((s.dropWhile (· != 47)).drop 1) 167).2 ≠ 0
    · rw [if_pos h1, if_pos h1]; rfl
    · rw [if_neg h1, if_neg h1]
      exact hfin _
  · rw [if_neg (by omega), decide_eq_false h, if_neg (by simp)]
    exact hfin 7200
theorem r6Parse (s : List UInt8) (hs : small s) : F_r6Parse s = some (rul s) := by
  rw [rul_eq, e_r6Parse]
  have hl := r6Parse_loop s noRule hs 0 (by omega)
  rw [Nat.zero_add, List.drop_zero] at hl
  have hl : w_r6Parse_0 (s, ((0 : Int), (0 : Int), (0 : Int), (0 : Int), (0 : Int)), (0 : Int)) = _ := hl
  rw [hl]
  simp only [Option.bind_some]
  have hle := (List.takeWhile_prefix (p := (· != 47)) (l := s)).length_le
  have hsub := subI_nat s (a := 0) (b := (s.takeWhile (· != 47)).length) (by omega) hle
  rw [List.drop_zero, take_takeWhile] at hsub
  have hsub : subI s (0 : Int) _ = _ := hsub
  rw [hsub]
  simp only [Option.bind_some]
  have hd := small_tw (· != 47) hs
  have tl := rul_tail6 s hs
  unfold rulO
  have h1 : (cutB 47 s).1 = s.takeWhile (· != 47) := by rw [cutB_eq]
  rw [h1]
  generalize s.takeWhile (· != 47) = D at hd tl ⊢
  have no13 : ∀ t : List UInt8, small t → F_r6number (t, (1 : Int), (3 : Int)) = some (numP (numF 1 3 t)) := fun t h => r6number t 1 3 h (by omega)
  cases D with
  | nil =>
    rw [cond_dec, if_neg (by simp), cond_dec, if_neg (by simp), no13 [] hd]
    rfl
  | cons b r =>
    have hr := small_tl hd
    have hg : getI (b :: r) (0 : Int) = some b := getI_nat (b :: r) 0
    have hsub : subI (b :: r) (1 : Int) (((b :: r).length : Nat) : Int) = some r := by
      have := subI_nat (b :: r) (a := 1) (b := (b :: r).length) (by simp) (by omega)
      simpa using this
    rw [cond_dec, if_pos (by simp)]
    rw [hg]
    simp only [Option.bind_some]
    unfold datO
    dsimp only
    by_cases h74 : b = 74
    · rw [cond_dec, if_pos h74, if_pos h74, hsub]
      simp only [Option.bind_some]
      rw [no13 r hr]
      simp only [Option.bind_some]
      cases hn : numF 1 3 r with
      | none => rfl
      | some n =>
        rw [show numP (some n) = ((n : Int), true) from rfl]
        exact tl 1 0 0 (n : Int)
    · rw [cond_dec, if_neg h74, if_neg h74, cond_dec, if_pos (by simp)]
      by_cases h77 : b = 77
      · rw [cond_dec, if_pos h77, if_pos h77, hsub]
        simp only [Option.bind_some]
        rw [r6parts r 46 hr, spl_eq]
        simp only [Option.bind_some]
        unfold wkO
        rcases dw_cases 46 r with hq | ⟨r1, hq⟩
        · rw [hq, splT_nil, cond_dec, if_neg (by simp)]
          cases hn : numF 1 2 (r.takeWhile (· != 46)) <;> rfl
        · rw [hq, splT_cons, spl_eq]
          dsimp only
          have hr1 : small r1 := by have := small_dw (· != 46) hr; rw [hq] at this; exact small_tl this
          rcases dw_cases 46 r1 with hq1 | ⟨r2, hq1⟩
          · rw [hq1, splT_nil, cond_dec, if_neg (by simp)]
            cases hn : numF 1 2 (r.takeWhile (· != 46)) with
            | none => rfl
            | some n => cases hn2 : numF 1 1 (r1.takeWhile (· != 46)) <;> rfl
          · rw [hq1, splT_cons]
            dsimp only
            have hr2 : small r2 := by have := small_dw (· != 46) hr1; rw [hq1] at this; exact small_tl this
            rcases dw_cases 46 r2 with hq2 | ⟨r3, hq2⟩
            · have h3 : r2.takeWhile (· != 46) = r2 := by have := tw_dw (· != 46) r2; rw [hq2, List.append_nil] at this; exact this.symm
              rw [spl_eq, hq2, splT_nil, h3, cond_dec, if_pos (by simp)]
              have g0 : ∀ (a b c : List UInt8), getI [a, b, c] (0 : Int) = some a := fun a b c => getI_nat [a, b, c] 0
              have g1 : ∀ (a b c : List UInt8), getI [a, b, c] (1 : Int) = some b := fun a b c => getI_nat [a, b, c] 1
              have g2 : ∀ (a b c : List UInt8), getI [a, b, c] (2 : Int) = some c := fun a b c => getI_nat [a, b, c] 2
              have n12 : F_r6number (r.takeWhile (· != 46), (1 : Int), (2 : Int)) = _ := r6number _ 1 2 (small_tw _ hr) (by omega)
              have n11 : F_r6number (r1.takeWhile (· != 46), (1 : Int), (1 : Int)) = _ := r6number _ 1 1 (small_tw _ hr1) (by omega)
              have n111 : F_r6number (r2, (1 : Int), (1 : Int)) = _ := r6number _ 1 1 hr2 (by omega)
              rw [g0]
              simp only [Option.bind_some]
              rw [n12]
              simp only [Option.bind_some]
              cases hn : numF 1 2 (r.takeWhile (· != 46)) with
              | none => rfl
              | some m =>
                rw [show numP (some m) = ((m : Int), true) from rfl, g1]
                simp only [cond_true, Option.bind_some]
                rw [n11]
                simp only [Option.bind_some]
                cases hn2 : numF 1 1 (r1.takeWhile (· != 46)) with
                | none => rfl
                | some w =>
                  rw [show numP (some w) = ((w : Int), true) from rfl, g2]
                  simp only [cond_true, Option.bind_some]
                  rw [n111]
                  simp only [Option.bind_some]
                  cases hn3 : numF 1 1 r2 with
                  | none => rfl
                  | some d =>
                    rw [show numP (some d) = ((d : Int), true) from rfl]
                    exact tl 3 (m : Int) (w : Int) (d : Int)
            · have hlen : 0 < (spl 46 r3).length := List.length_pos_iff.2 (spl_ne _ _)
              rw [spl_eq, hq2, splT_cons, cond_dec, if_neg (by simp only [List.length_cons]; omega)]
              have hno : numF 1 1 r2 = none := by
                unfold numF
                rw [if_neg]
                intro hc
                have hm : (46 : UInt8) ∈ r2 := (List.dropWhile_suffix (· != 46)).subset (by rw [hq2]; simp)
                have := all_mem hc.2 46 hm
                exact absurd this (by decide)
              rw [hno, decide_eq_false (by simp only [List.length_cons]; omega)]
              cases hn : numF 1 2 (r.takeWhile (· != 46)) with
              | none => rfl
              | some n => cases hn2 : numF 1 1 (r1.takeWhile (· != 46)) <;> rfl
      · rw [cond_dec, if_neg h77, if_neg h77, no13 _ hd]
        simp only [Option.bind_some]
        cases hn : numF 1 3 (b :: r) with
        | none => rfl
        | some n =>
          rw [show numP (some n) = ((n : Int), true) from rfl]
          exact tl 2 0 0 (n : Int)
end Go.Sm
/- Plain Lean: the reference's names and clocks of plans. -/
set_option linter.unusedVariables false
set_option linter.unusedSimpArgs false
namespace Go.Sm
open Go.Proofs

theorem byte_all {P : UInt8 → Prop} (h : ∀ n, n < 256 → P (UInt8.ofNat n)) (b : UInt8) : P b := by
  have := h b.toNat b.toNat_lt
  rwa [UInt8.ofNat_toNat] at this
theorem letter_tree : ∀ b : UInt8, (bif decide ((65 : UInt8) ≤ b) then bif decide (b ≤ (90 : UInt8)) then some true else bif decide ((97 : UInt8) ≤ b) then some (decide (b ≤ (122 : UInt8))) else some false
  else bif decide ((97 : UInt8) ≤ b) then some (decide (b ≤ (122 : UInt8))) else some false) = some (letters.contains b) := byte_all (by decide +kernel)
theorem r7letter (b : UInt8) : F_r7letter b = some (letters.contains b) := by rw [e_r7letter, letter_tree]
theorem r7figure (b : UInt8) : F_r7figure b = some (isFig b) := by
  rw [e_r7figure]
  unfold isFig
  cases decide ((48 : UInt8) ≤ b) <;> rfl
theorem named_eq : ∀ b : UInt8, named.contains b = (letters.contains b || (isFig b || (decide (b = 43) || decide (b = 45)))) := byte_all (by decide +kernel)
theorem clocks_eq : ∀ b : UInt8, clocks.contains b = (isFig b || (decide (b = 43) || (decide (b = 45) || decide (b = 58)))) := byte_all (by decide +kernel)
theorem r7Name (s : List UInt8) (hs : small s) : F_r7Name s = some (nameB s) := by
  unfold small at hs
  have step : ∀ i (h : i < s.length), sp_r7Name_0 (s, (i : Int)) = if named.contains s[i] then some (.inl (s, ((i + 1 : Nat) : Int))) else some (.inr (.inl false)) := by
    intro i h
    rw [es_r7Name_0, cond_dec, if_pos (by omega), getI_at h, wrap_succ (by omega)]
    simp only [Option.bind_some]
    rw [r7letter, r7figure, named_eq]
    simp only [Option.bind_some]
    cases letters.contains s[i] with
    | true => rfl
    | false =>
      cases isFig s[i] with
      | true => rfl
      | false =>
        simp only [Bool.not_false, cond_true, Bool.false_or]
        by_cases h1 : s[i] = 43
        · rw [decide_eq_false (by simpa using h1), decide_eq_true h1]; rfl
        · rw [decide_eq_true (by simpa using h1), decide_eq_false h1]
          by_cases h2 : s[i] = 45
          · rw [decide_eq_false (by simpa using h2), decide_eq_true h2]; rfl
          · rw [decide_eq_true (by simpa using h2), decide_eq_false h2]; rfl
  have h := scan_loop (step := sp_r7Name_0) (fun i => (s, (i : Int))) (fun i => if i < s.length then Sum.inl false else Sum.inr s) s (fun c => named.contains c)
    (fun i h hp => by rw [step i h, if_pos hp]) (fun i h hp => by rw [step i h, if_neg (by rw [hp]; simp), if_pos h])
    (by rw [es_r7Name_0, cond_dec, if_neg (by omega), if_neg (by omega)]) 0 (by omega)
  have h : w_r7Name_0 (s, (0 : Int)) = _ := h
  rw [e_r7Name, h]
  simp only [Option.bind_some, Nat.zero_add, List.drop_zero]
  have hle := (List.takeWhile_prefix (p := fun c => named.contains c) (l := s)).length_le
  have hfull := tw_full (fun c => named.contains c) s
  unfold nameB
  by_cases hq : (s.takeWhile fun c => named.contains c).length < s.length
  · rw [if_pos hq]
    have : s.all (fun c => named.contains c) = false := by
      cases hb : s.all (fun c => named.contains c) with
      | false => rfl
      | true => have := hfull.2 hb; omega
    rw [this, Bool.and_false]
    rfl
  · rw [if_neg hq, hfull.1 (by omega), Bool.and_true]
    simp only [Sum.elim_inr]
    rw [cond_dec]
    by_cases h3 : 3 ≤ s.length
    · rw [if_pos (by omega)]
      congr 1
      exact decide_eq_decide.2 (by omega)
    · rw [if_neg (by omega), decide_eq_false (by omega)]
theorem r7clock (s : List UInt8) (a : Nat) (hs : small s) (ha : a ≤ s.length) : F_r7clock (s, (a : Int)) = some ((a + ((s.drop a).takeWhile (runP clocks)).length : Nat) : Int) := by
  unfold small at hs
  have h := scan_ne (step := sp_r7clock_0) (fun i => (s, (i : Int))) (fun i => (i : Int)) s (runP clocks) (fun i hi => by
    rw [es_r7clock_0, cond_dec]
    by_cases h : i < s.length
    · rw [dif_pos h, if_pos (by omega), getI_at h, wrap_succ (by omega)]
      simp only [Option.bind_some]
      rw [r7figure]
      simp only [Option.bind_some]
      unfold runP
      rw [clocks_eq]
      cases isFig s[i] with
      | true => rfl
      | false =>
        simp only [cond_false, Bool.false_or]
        cases decide (s[i] = 43) with
        | true => rfl
        | false =>
          cases decide (s[i] = 45) with
          | true => rfl
          | false => cases decide (s[i] = 58) <;> rfl
    · rw [dif_neg h, if_neg (by omega)]) a ha
  have h : w_r7clock_0 (s, (a : Int)) = _ := h
  rw [e_r7clock, h]
  rfl
theorem r7name0 (s : List UInt8) (x : Int) (hs : small s) (i : Nat) (hi : i ≤ s.length) : w_r7name_0 (s, x, (i : Int)) = some (s, x, ((i + ((s.drop i).takeWhile (· != 62)).length : Nat) : Int)) :=
  scan_ne (step := sp_r7name_0) (fun i => (s, x, (i : Int))) (fun i => (s, x, (i : Int))) s (· != 62) (fun i hi => by
    unfold small at hs
    rw [es_r7name_0, cond_dec]
    by_cases h : i < s.length
    · rw [dif_pos h, if_pos (by omega), getI_at h]
      simp only [Option.bind_some, cond_dec]
      rw [wrap_succ (by omega)]
      by_cases h47 : s[i] = 62
      · rw [if_neg (by simpa using h47), if_neg (by simpa using h47)]
      · rw [if_pos h47, if_pos (by simpa using h47)]
    · rw [dif_neg h, if_neg (by omega)]) i hi
theorem r7name1 (s : List UInt8) (x : Int) (hs : small s) (i : Nat) (hi : i ≤ s.length) : w_r7name_1 (s, x, (i : Int)) = some (s, x, ((i + ((s.drop i).takeWhile (runP letters)).length : Nat) : Int)) :=
  scan_ne (step := sp_r7name_1) (fun i => (s, x, (i : Int))) (fun i => (s, x, (i : Int))) s (runP letters) (fun i hi => by
    unfold small at hs
    rw [es_r7name_1, cond_dec]
    by_cases h : i < s.length
    · rw [dif_pos h, if_pos (by omega), getI_at h]
      simp only [Option.bind_some]
      rw [wrap_succ (by omega), r7letter]
      unfold runP
      simp only [Option.bind_some]
      cases letters.contains s[i] <;> rfl
    · rw [dif_neg h, if_neg (by omega)]) i hi
/-- A place in a text, as what is left of it. -/
theorem sub_tw {s : List UInt8} {a : Nat} (p : UInt8 → Bool) (ha : a ≤ s.length) : subI s (a : Int) ((a + ((s.drop a).takeWhile p).length : Nat) : Int) = some ((s.drop a).takeWhile p) := by
  have hle := (List.takeWhile_prefix (p := p) (l := s.drop a)).length_le
  rw [List.length_drop] at hle
  rw [subI_nat s (by omega) (by omega), List.drop_take, show a + ((s.drop a).takeWhile p).length - a = ((s.drop a).takeWhile p).length by omega, take_takeWhile]
theorem drop_tw {s : List UInt8} {a : Nat} (p : UInt8 → Bool) : s.drop (a + ((s.drop a).takeWhile p).length) = (s.drop a).dropWhile p := by
  rw [← List.drop_drop, drop_takeWhile]
theorem tw_le {s : List UInt8} {a : Nat} (p : UInt8 → Bool) (ha : a ≤ s.length) : a + ((s.drop a).takeWhile p).length ≤ s.length := by
  have hle := (List.takeWhile_prefix (p := p) (l := s.drop a)).length_le
  rw [List.length_drop] at hle
  omega
def nmR (s : List UInt8) : Option (List UInt8 × List UInt8) → List UInt8 × Int
  | none => ([], -1)
  | some (r, n) => (n, ((s.length - r.length : Nat) : Int))
theorem nmB_eq (b : UInt8) (r : List UInt8) (h : b ≠ 60) : nmO (b :: r) = if nameB ((b :: r).takeWhile (runP letters)) then some ((b :: r).dropWhile (runP letters), (b :: r).takeWhile (runP letters)) else none := by
  show (if b = 60 then _ else _) = _
  rw [if_neg h]
theorem r7name_plain (s : List UInt8) (a : Nat) (hs : small s) (ha : a ≤ s.length) :
    ((w_r7name_1 (s, (a : Int), (a : Int))).bind fun x1 =>
      (subI x1.fst x1.snd.fst x1.snd.snd).bind fun x2 => (F_r7Name x2).bind fun x3 => bif !x3 then some ([], (-1 : Int)) else (subI x1.fst x1.snd.fst x1.snd.snd).bind fun x4 => some (x4, x1.snd.snd)) =
    some (nmR s (if nameB ((s.drop a).takeWhile (runP letters)) then some ((s.drop a).dropWhile (runP letters), (s.drop a).takeWhile (runP letters)) else none)) := by
  have hle := tw_le (s := s) (a := a) (runP letters) ha
  have hsm : small ((s.drop a).takeWhile (runP letters)) := by unfold small at *; omega
  rw [r7name1 s (a : Int) hs a ha]
  simp only [Option.bind_some]
  rw [sub_tw _ ha]
  simp only [Option.bind_some]
  rw [r7Name _ hsm]
  simp only [Option.bind_some]
  cases hn : nameB ((s.drop a).takeWhile (runP letters)) with
  | false => rfl
  | true =>
    rw [if_pos rfl]
    unfold nmR
    rw [← drop_tw]
    dsimp only
    rw [List.length_drop]
    simp only [Bool.not_true, cond_false, Option.some.injEq, Prod.mk.injEq, true_and]
    omega
theorem r7name (s : List UInt8) (a : Nat) (hs : small s) (ha : a ≤ s.length) : F_r7name (s, (a : Int)) = some (nmR s (nmO (s.drop a))) := by
  rw [e_r7name, cond_dec]
  by_cases h : a < s.length
  · rw [if_pos (by omega), getI_at h]
    have hd := List.drop_eq_getElem_cons h
    simp only [Option.bind_some]
    rw [cond_dec]
    by_cases h60 : s[a] = 60
    · rw [if_pos h60]
      unfold small at hs
      rw [wrap_succ (by omega), r7name0 s (a : Int) hs (a + 1) (by omega)]
      simp only [Option.bind_some]
      have hle := tw_le (s := s) (a := a + 1) (· != 62) (by omega)
      rw [wrap_succ (by omega), sub_tw _ (by omega)]
      simp only [Option.bind_some]
      have hO : nmO (s.drop a) = if nameB ((s.drop (a + 1)).takeWhile (· != 62)) then (match (s.drop (a + 1)).dropWhile (· != 62) with | [] => none | _ :: r2 => some (r2, (s.drop (a + 1)).takeWhile (· != 62))) else none := by
        rw [hd]
        exact if_pos h60
      rw [hO, cond_dec, r7Name _ (by unfold small; omega)]
      simp only [Option.bind_some]
      have hdr := drop_tw (s := s) (a := a + 1) (· != 62)
      by_cases hend : s.length ≤ a + 1 + ((s.drop (a + 1)).takeWhile (· != 62)).length
      · rw [if_pos (by omega)]
        rw [List.drop_eq_nil_of_le hend] at hdr
        rw [← hdr]
        cases nameB ((s.drop (a + 1)).takeWhile (· != 62)) <;> rfl
      · rw [if_neg (by omega)]
        cases hn : nameB ((s.drop (a + 1)).takeWhile (· != 62)) with
        | false => rfl
        | true =>
          rw [if_pos rfl]
          rw [List.drop_eq_getElem_cons (by omega)] at hdr
          rw [← hdr, wrap_succ (by omega)]
          unfold nmR
          simp only [Bool.not_true, cond_false, Option.some.injEq, Prod.mk.injEq, true_and, List.length_drop]
          omega
    · rw [if_neg h60, r7name_plain s a hs ha, hd, nmB_eq _ _ h60]
  · rw [if_neg (by omega), r7name_plain s a hs ha, List.drop_eq_nil_of_le (by omega)]
    rfl
end Go.Sm
/- Plain Lean: clocks, rules and plans as texts (program and reference). -/
set_option linter.unusedVariables false
set_option linter.unusedSimpArgs false
namespace Go.Sm
open Go.Proofs

def clkT (u : Nat) : List UInt8 := rawS (u / 3600) 1 ++ (if u % 3600 = 0 then [] else 58 :: (rawS (u / 60 % 60) 2 ++ (if u % 60 = 0 then [] else 58 :: rawS (u % 60) 2)))
/-- The text of seconds. -/
def clkS (t : Int) : List UInt8 := (if t < 0 then [45] else []) ++ clkT t.natAbs
theorem clkT_len {u : Nat} (h : u < 10 ^ 7) : (clkT u).length ≤ 30 := by
  unfold clkT
  have h1 := rawS_len (n := u / 3600) (w := 1) 4 (by omega)
  have h2 := rawS_len (n := u / 60 % 60) (w := 2) 2 (by omega)
  have h3 := rawS_len (n := u % 60) (w := 2) 2 (by omega)
  rw [List.length_append]
  split
  · simp; omega
  · split
    · simp; omega
    · simp; omega
theorem clkS_len {t : Int} (h : t.natAbs < 10 ^ 7) : (clkS t).length ≤ 31 := by
  unfold clkS
  have := clkT_len h
  split <;> simp <;> omega
theorem roomB_len {n m : Nat} (h : n + m ≤ 1000000) : roomB n m 1 = true := by
  unfold roomB
  simp
  omega
theorem rwText (b s : List UInt8) (e : Int) (h : b.length + s.length ≤ 1000000) : F_rwText ((b, e), (), s) = some ((b ++ s, e), ()) := by
  rw [e_rwText, roomB_len h]
  rfl
theorem rwPut (b : List UInt8) (e : Int) (n w : Nat) (hn : n < 10 ^ 7) (hw : w ≤ 2) (h : b.length ≤ 900000) : F_rwPut ((b, e), (), (n : Int), (w : Int)) = some ((b ++ rawS n w, e), ()) := by
  have := rawS_len (w := w) 7 hn
  rw [e_rwPut, figPut n w (by omega) (by omega)]
  simp only [Option.bind_some]
  rw [cond_dec, if_neg (by simp), rwText _ _ _ (by omega)]
  rfl
theorem rwClk (b : List UInt8) (e : Int) (u : Nat) (hu : u < 10 ^ 7) (h : b.length ≤ 1000) (n : Int) (hn : n = (u : Int)) :
    ((F_rwPut ((b, e), (), IntKind.i64.wrap (n.tdiv (3600 : Int)), (0 : Int))).bind fun x1 =>
    bif decide (n.tmod (3600 : Int) = (0 : Int)) then some (x1.fst, ())
    else
      (F_rwText (x1.fst, (), [(58 : UInt8)])).bind fun x2 =>
        (F_rwPut (x2.fst, (), IntKind.i64.wrap ((n.tmod (3600 : Int)).tdiv (60 : Int)), (2 : Int))).bind fun x3 =>
          bif decide (n.tmod (60 : Int) = (0 : Int)) then some (x3.fst, ())
          else (F_rwText (x3.fst, (), [(58 : UInt8)])).bind fun x4 => (F_rwPut (x4.fst, (), n.tmod (60 : Int), (2 : Int))).bind fun x5 => some (x5.fst, ())) =
    some ((b ++ clkT u, e), ()) := by
  subst hn
  have h1 := rawS_len (n := u / 3600) (w := 0) 4 (by omega)
  have h2 := rawS_len (n := u % 3600 / 60) (w := 2) 2 (by omega)
  have h3 := rawS_len (n := u % 60) (w := 2) 2 (by omega)
  have d1 : (u : Int).tdiv 3600 = ((u / 3600 : Nat) : Int) := rfl
  have d2 : (u : Int).tmod 3600 = ((u % 3600 : Nat) : Int) := rfl
  have d3 : (u : Int).tmod 60 = ((u % 60 : Nat) : Int) := rfl
  have d4 : (((u % 3600 : Nat) : Int)).tdiv 60 = ((u % 3600 / 60 : Nat) : Int) := rfl
  have hm : u / 60 % 60 = u % 3600 / 60 := by omega
  have p1 : F_rwPut ((b, e), (), ((u / 3600 : Nat) : Int), (0 : Int)) = _ := rwPut b e (u / 3600) 0 (by omega) (by omega) (by omega)
  rw [d1, d2, d3, d4, wrap_i64 (by omega) (by omega), wrap_i64 (by omega) (by omega), p1]
  simp only [Option.bind_some]
  unfold clkT
  rw [hm, cond_dec, rawS_0]
  rw [rawS_0] at h1
  by_cases hz : u % 3600 = 0
  · rw [if_pos (by omega), if_pos hz, List.append_nil]
  · rw [if_neg (by omega), if_neg hz, rwText _ _ _ (by simp; omega)]
    simp only [Option.bind_some]
    have p2 : F_rwPut ((b ++ rawS (u / 3600) 1 ++ [58], e), (), ((u % 3600 / 60 : Nat) : Int), (2 : Int)) = _ := rwPut _ e (u % 3600 / 60) 2 (by omega) (by omega) (by simp; omega)
    rw [p2]
    simp only [Option.bind_some]
    rw [cond_dec]
    by_cases hy : u % 60 = 0
    · rw [if_pos (by omega), if_pos hy]
      simp
    · rw [if_neg (by omega), if_neg hy, rwText _ _ _ (by simp; omega)]
      simp only [Option.bind_some]
      have p3 : F_rwPut ((b ++ rawS (u / 3600) 1 ++ [58] ++ rawS (u % 3600 / 60) 2 ++ [58], e), (), ((u % 60 : Nat) : Int), (2 : Int)) = _ := rwPut _ e (u % 60) 2 (by omega) (by omega) (by simp; omega)
      rw [p3]
      simp
theorem rwClock (b : List UInt8) (e : Int) (t : Int) (ht : t.natAbs < 10 ^ 7) (h : b.length ≤ 900) : F_rwClock ((b, e), (), t) = some ((b ++ clkS t, e), ()) := by
  rw [e_rwClock, cond_dec]
  unfold clkS
  by_cases h0 : t < 0
  · rw [if_pos h0, if_pos h0, rwText _ _ _ (by simp; omega)]
    simp only [Option.bind_some]
    have := rwClk (b ++ [45]) e t.natAbs ht (by simp; omega) (IntKind.i64.wrap (0 - t)) (by rw [wrap_i64 (by omega) (by omega)]; omega)
    rw [this]
    simp
  · rw [if_neg h0, if_neg h0]
    have := rwClk b e t.natAbs ht (by omega) t (by omega)
    rw [this]
    rfl
theorem PutClock (t m : Int) (ht : t.natAbs < 10 ^ 7) (hm0 : 0 ≤ m) (hm1 : m ≤ 999) (h : -(m * 3600 + 3599) ≤ t ∧ t ≤ m * 3600 + 3599) : F_PutClock (t, m) = some (clkS t, 0) := by
  rw [e_PutClock, ruleIn, ruleIn]
  simp only [Option.bind_some]
  rw [wrap_i64 (x := m * 3600) (by omega) (by omega), wrap_i64 (x := m * 3600 + 3600) (by omega) (by omega), wrap_i64 (x := m * 3600 + 3600 - 1) (by omega) (by omega), wrap_i64 (x := 0 - _) (by omega) (by omega)]
  rw [decide_eq_true (show (0 : Int) ≤ m ∧ m ≤ 999 by omega), decide_eq_true (by omega)]
  simp only [Bool.not_true, cond_false]
  have := rwClock [] 0 t ht (by simp)
  rw [this]
  rfl
theorem r6clk_tail (p : List UInt8) (hp : p.length ≤ 10) (u : Nat) (hu : u < 10 ^ 7) (n : Int) (hn : n = (u : Int)) :
    ((F_r2Raw (IntKind.i64.wrap (n.tdiv (3600 : Int)), (1 : Int))).bind fun x1 =>
      bif decide (p.length + x1.length ≤ (9223372036854775807 : Nat)) then
        bif decide (n.tmod (3600 : Int) ≠ (0 : Int)) then
          (F_r2Raw ((IntKind.i64.wrap (n.tdiv (60 : Int))).tmod (60 : Int), (2 : Int))).bind fun x2 =>
            bif decide ((1 : Nat) + x2.length ≤ (9223372036854775807 : Nat)) then
              bif decide ((p ++ x1).length + ([(58 : UInt8)] ++ x2).length ≤ (9223372036854775807 : Nat)) then
                bif decide (n.tmod (60 : Int) ≠ (0 : Int)) then
                  (F_r2Raw (n.tmod (60 : Int), (2 : Int))).bind fun x3 =>
                    bif decide ((1 : Nat) + x3.length ≤ (9223372036854775807 : Nat)) then
                      bif decide ((p ++ x1 ++ ([(58 : UInt8)] ++ x2)).length + ([(58 : UInt8)] ++ x3).length ≤ (9223372036854775807 : Nat)) then
                        some (p ++ x1 ++ ([(58 : UInt8)] ++ x2) ++ ([(58 : UInt8)] ++ x3))
                      else none
                    else none
                else some (p ++ x1 ++ ([(58 : UInt8)] ++ x2))
              else none
            else none
        else
          bif decide (n.tmod (60 : Int) ≠ (0 : Int)) then
            (F_r2Raw (n.tmod (60 : Int), (2 : Int))).bind fun x2 =>
              bif decide ((1 : Nat) + x2.length ≤ (9223372036854775807 : Nat)) then
                bif decide ((p ++ x1).length + ([(58 : UInt8)] ++ x2).length ≤ (9223372036854775807 : Nat)) then some (p ++ x1 ++ ([(58 : UInt8)] ++ x2)) else none
              else none
          else some (p ++ x1)
      else none) = some (p ++ clkT u) := by
  subst hn
  have h1 := rawS_len (n := u / 3600) (w := 1) 4 (by omega)
  have h2 := rawS_len (n := u / 60 % 60) (w := 2) 2 (by omega)
  have h3 := rawS_len (n := u % 60) (w := 2) 2 (by omega)
  have d1 : (u : Int).tdiv 3600 = ((u / 3600 : Nat) : Int) := rfl
  have d2 : (u : Int).tmod 3600 = ((u % 3600 : Nat) : Int) := rfl
  have d3 : (u : Int).tmod 60 = ((u % 60 : Nat) : Int) := rfl
  have d4 : (u : Int).tdiv 60 = ((u / 60 : Nat) : Int) := rfl
  have d5 : ((u / 60 : Nat) : Int).tmod 60 = ((u / 60 % 60 : Nat) : Int) := rfl
  have p1 : F_r2Raw (((u / 3600 : Nat) : Int), (1 : Int)) = _ := r2Raw (u / 3600) 1 (by omega) (by omega)
  have p2 : F_r2Raw (((u / 60 % 60 : Nat) : Int), (2 : Int)) = _ := r2Raw (u / 60 % 60) 2 (by omega) (by omega)
  have p3 : F_r2Raw (((u % 60 : Nat) : Int), (2 : Int)) = _ := r2Raw (u % 60) 2 (by omega) (by omega)
  rw [d1, d2, d3, d4, wrap_i64 (by omega) (by omega), wrap_i64 (by omega) (by omega), d5, p1]
  simp only [Option.bind_some]
  rw [cond_dec, if_pos (by omega), cond_dec]
  unfold clkT
  by_cases hz : u % 3600 = 0
  · rw [if_neg (by omega), cond_dec, if_neg (by omega), if_pos hz]
    simp
  · rw [if_pos (by omega), if_neg hz, p2]
    simp only [Option.bind_some]
    rw [cond_dec, if_pos (by omega), cond_dec, if_pos (by simp; omega), cond_dec]
    by_cases hy : u % 60 = 0
    · rw [if_neg (by omega), if_pos hy]
      simp
    · rw [if_pos (by omega), if_neg hy, p3]
      simp only [Option.bind_some]
      rw [cond_dec, if_pos (by omega), cond_dec, if_pos (by simp; omega)]
      simp
theorem r6Clock (t : Int) (ht : t.natAbs < 10 ^ 7) : F_r6Clock t = some (clkS t) := by
  rw [e_r6Clock, cond_dec]
  unfold clkS
  by_cases h0 : t < 0
  · rw [if_pos h0, if_pos h0]
    exact r6clk_tail [45] (by simp) t.natAbs ht (IntKind.i64.wrap (0 - t)) (by rw [wrap_i64 (by omega) (by omega)]; omega)
  · rw [if_neg h0, if_neg h0]
    exact r6clk_tail [] (by simp) t.natAbs ht t (by omega)

/-! ### Rules -/
def timS (t : Int) : List UInt8 := if t ≠ 7200 then 47 :: clkS t else []
/-- The text of a right rule. -/
def rulS (k : Int) (m w d : Nat) (t : Int) : List UInt8 :=
  (if k = 1 then 74 :: rawS d 1 else if k = 3 then 77 :: (rawS m 1 ++ 46 :: (rawS w 1 ++ 46 :: rawS d 1)) else rawS d 1) ++ timS t
theorem timS_len {t : Int} (h : t.natAbs < 10 ^ 7) : (timS t).length ≤ 32 := by
  have := clkS_len h
  unfold timS
  split <;> simp <;> omega
theorem rulS_len {k : Int} {m w d : Nat} {t : Int} (hm : m < 1000) (hw : w < 1000) (hd : d < 1000) (h : t.natAbs < 10 ^ 7) : (rulS k m w d t).length ≤ 60 := by
  have h1 := timS_len h
  have h2 := rawS_len (n := m) (w := 1) 3 (by omega)
  have h3 := rawS_len (n := w) (w := 1) 3 (by omega)
  have h4 := rawS_len (n := d) (w := 1) 3 (by omega)
  unfold rulS
  rw [List.length_append]
  split
  · simp; omega
  · split
    · simp; omega
    · omega
theorem put_tail (b : List UInt8) (t : Int) (hb : b.length ≤ 500) (ht : t.natAbs < 10 ^ 7) :
    (bif decide (t ≠ (7200 : Int)) then (F_rwText ((b, (0 : Int)), (), [(47 : UInt8)])).bind fun x4 => (F_rwClock (x4.fst, (), t)).bind fun x5 => some x5.fst else some (b, (0 : Int))) = some (b ++ timS t, 0) := by
  unfold timS
  rw [cond_dec]
  by_cases h : t ≠ 7200
  · rw [if_pos h, if_pos h, rwText _ _ _ (by simp; omega)]
    simp only [Option.bind_some]
    rw [rwClock _ _ _ ht (by simp; omega)]
    simp
  · rw [if_neg h, if_neg h]
    simp
theorem rulePut_bad (k m w d t : Int) (h : rck k m w d t ≠ 0) : F_rulePut (k, m, w, d, t) = some ([], rck k m w d t) := by
  rw [e_rulePut, ruleCheck]
  simp only [Option.bind_some]
  rw [cond_dec, if_pos h]
theorem rck_zero {k m w d t : Int} (h : rck k m w d t = 0) : 0 ≤ m ∧ m < 1000 ∧ 0 ≤ w ∧ w < 1000 ∧ 0 ≤ d ∧ d < 1000 ∧ -604799 ≤ t ∧ t ≤ 604799 ∧ 1 ≤ k ∧ k ≤ 3 := by
  unfold rck at h
  split at h
  · split at h
    · rename_i h1 h2
      unfold may at h2
      omega
    · cases h
  · cases h
theorem rulePut (k : Int) (m w d : Nat) (t : Int) (h : rck k m w d t = 0) : F_rulePut (k, (m : Int), (w : Int), (d : Int), t) = some (rulS k m w d t, 0) := by
  have hz := rck_zero h
  have pd : ∀ b e, b.length ≤ 500 → F_rwPut ((b, e), (), (d : Int), (0 : Int)) = some ((b ++ rawS d 1, e), ()) := fun b e hb => rwPut b e d 0 (by omega) (by omega) (by omega)
  have pm : ∀ b e, b.length ≤ 500 → F_rwPut ((b, e), (), (m : Int), (0 : Int)) = some ((b ++ rawS m 1, e), ()) := fun b e hb => rwPut b e m 0 (by omega) (by omega) (by omega)
  have pw : ∀ b e, b.length ≤ 500 → F_rwPut ((b, e), (), (w : Int), (0 : Int)) = some ((b ++ rawS w 1, e), ()) := fun b e hb => rwPut b e w 0 (by omega) (by omega) (by omega)
  have h2 := rawS_len (n := m) (w := 1) 3 (by omega)
  have h3 := rawS_len (n := w) (w := 1) 3 (by omega)
  have h4 := rawS_len (n := d) (w := 1) 3 (by omega)
  have ht : t.natAbs < 10 ^ 7 := by omega
  rw [e_rulePut, ruleCheck]
  simp only [Option.bind_some]
  rw [h, cond_dec, if_neg (by omega), cond_dec]
  unfold rulS
  by_cases h1 : k = 1
  · rw [if_pos h1, if_pos h1, rwText _ _ _ (by simp)]
    simp only [Option.bind_some]
    rw [pd _ _ (by simp)]
    simp only [Option.bind_some]
    rw [put_tail _ t (by simp; omega) ht]
    simp
  · rw [if_neg h1, if_neg h1, cond_dec]
    by_cases h3' : k = 3
    · rw [if_pos h3', if_pos h3', rwText _ _ _ (by simp)]
      simp only [Option.bind_some]
      rw [pm _ _ (by simp)]
      simp only [Option.bind_some]
      rw [rwText _ _ _ (by simp; omega)]
      simp only [Option.bind_some]
      rw [pw _ _ (by simp; omega)]
      simp only [Option.bind_some]
      rw [rwText _ _ _ (by simp; omega)]
      simp only [Option.bind_some]
      rw [pd _ _ (by simp; omega)]
      simp only [Option.bind_some]
      rw [put_tail _ t (by simp; omega) ht]
      simp
    · rw [if_neg h3', if_neg h3', pd _ _ (by simp)]
      simp only [Option.bind_some]
      rw [put_tail _ t (by simp; omega) ht]
      simp
theorem r6tail (b : List UInt8) (t : Int) (hb : b.length ≤ 500) (ht : t.natAbs < 10 ^ 7) :
    (bif decide (t ≠ (7200 : Int)) then
      (F_r6Clock t).bind fun x2 =>
        bif decide ((1 : Nat) + x2.length ≤ (9223372036854775807 : Nat)) then
          bif decide (b.length + ([(47 : UInt8)] ++ x2).length ≤ (9223372036854775807 : Nat)) then some (b ++ ([(47 : UInt8)] ++ x2)) else none
        else none
    else some b) = some (b ++ timS t) := by
  have := clkS_len ht
  unfold timS
  rw [cond_dec]
  by_cases h : t ≠ 7200
  · rw [if_pos h, if_pos h, r6Clock t ht]
    simp only [Option.bind_some]
    rw [cond_dec, if_pos (by omega), cond_dec, if_pos (by simp; omega)]
    simp
  · rw [if_neg h, if_neg h]
    simp
theorem r6Put (k : Int) (m w d : Nat) (t : Int) (h : rck k m w d t = 0) : F_r6Put (k, (m : Int), (w : Int), (d : Int), t) = some (rulS k m w d t) := by
  have hz := rck_zero h
  have pd : F_r2Raw ((d : Int), (1 : Int)) = some (rawS d 1) := r2Raw d 1 (by omega) (by omega)
  have pm : F_r2Raw ((m : Int), (1 : Int)) = some (rawS m 1) := r2Raw m 1 (by omega) (by omega)
  have pw : F_r2Raw ((w : Int), (1 : Int)) = some (rawS w 1) := r2Raw w 1 (by omega) (by omega)
  have h2 := rawS_len (n := m) (w := 1) 3 (by omega)
  have h3 := rawS_len (n := w) (w := 1) 3 (by omega)
  have h4 := rawS_len (n := d) (w := 1) 3 (by omega)
  have ht : t.natAbs < 10 ^ 7 := by omega
  rw [e_r6Put]
  dsimp only
  rw [pd]
  simp only [Option.bind_some]
  rw [cond_dec]
  unfold rulS
  by_cases h1 : k = 1
  · rw [if_pos h1, if_pos h1, cond_dec, if_pos (by omega), cond_dec, if_neg (by omega), r6tail _ t (by simp; omega) ht]
    simp
  · rw [if_neg h1, if_neg h1, cond_dec]
    by_cases h3' : k = 3
    · rw [if_pos h3', if_pos h3', pm]
      simp only [Option.bind_some]
      rw [cond_dec, if_pos (by omega), cond_dec, if_pos (by simp; omega), pw]
      simp only [Option.bind_some]
      rw [cond_dec, if_pos (by simp; omega), cond_dec, if_pos (by simp; omega), cond_dec, if_pos (by simp; omega), r6tail _ t (by simp; omega) ht]
      simp
    · rw [if_neg h3', if_neg h3', r6tail _ t (by omega) ht]
end Go.Sm
