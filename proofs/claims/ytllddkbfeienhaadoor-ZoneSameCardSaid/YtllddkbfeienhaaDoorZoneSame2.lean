/- The references of rules and plans. No condition. -/
import Derived.Test.YtllddkbfeienhaaDoorZoneSame1
set_option linter.unusedVariables false
namespace Go.Sm
open Go.Proofs
/-! ### horologe/horologeref02.Is -/
noncomputable abbrev ct_r2Is : List (FuncId × Bool × SpecT) := []
theorem cs_r2Is : AllSound Tryd.prog ct_r2Is := trivial
-- loop 0 (key 2) exit 0: [0, 3]
-- loop 0 (key 2) exit 2: [2]
-- loop 0 (key 2) exit 3: []
abbrev kp_r2Is : Keep := keepT [(2, 0, [(0, none), (3, none)]), (2, 2, [(2, none)]), (2, 3, [])]
noncomputable abbrev b_r2Is_0 : Code := loopAt Tryd.f148 0
noncomputable def sp_r2Is_0 (x : (UInt8 × UInt8)) : Option ((UInt8 × UInt8) ⊕ ((Bool) ⊕ Unit)) := (stepL Tryd.prog (lookT ct_r2Is) kp_r2Is (loopsT []) 0 false b_r2Is_0 (codP [pU, pU]) (exS (exO .ret (codP [pB])) (exO (.ext 0) (codP []))) x).run
noncomputable def w_r2Is_0 : (UInt8 × UInt8) → Option ((Bool) ⊕ Unit) := whileO sp_r2Is_0
theorem ew_r2Is_0 (x : (UInt8 × UInt8)) : w_r2Is_0 x = (sp_r2Is_0 x).bind (Sum.elim w_r2Is_0 some) := whileO_eq _ _
noncomputable abbrev l_r2Is_0 : LT := ltF (codP [pU, pU]) (exS (exO .ret (codP [pB])) (exO (.ext 0) (codP []))) w_r2Is_0
theorem lo_r2Is_0 : LoopOk Tryd.prog Tryd.f148.ntmps kp_r2Is 0 false b_r2Is_0 l_r2Is_0 := loopG mixed cs_r2Is (lps := loopsT []) (by kernel_rfl) (ls := []) (by kernel_rfl) lps_nil
noncomputable def F_r2Is (x : (UInt8)) : Option (Bool) := (evalF Tryd.prog (lookT ct_r2Is) (kp_r2Is) (loopsT [(2, l_r2Is_0)]) false false Tryd.f148 (codP [pU]) 1 (codP [pB]) x).run
noncomputable abbrev s_r2Is : SpecT := specF (codP [pU]) 1 (codP [pB]) F_r2Is
theorem so_r2Is : SoundT Tryd.prog 148 s_r2Is := soundG (P := Tryd.prog) mixed (t := ct_r2Is) cs_r2Is (f := 148) (fn := Tryd.f148) Tryd.func148 (by kernel_rfl) (by kernel_rfl) (by kernel_rfl) (ls := [b_r2Is_0]) (by kernel_rfl) (kp := kp_r2Is) (lps := loopsT [(2, l_r2Is_0)]) (bump := false) (ice := false) (A := (codP [pU])) (n := 1) (R := (codP [pB])) fun _ => (lps_cons l_r2Is_0 (by kernel_rfl) lo_r2Is_0 lps_nil)

theorem es_r2Is_0 (b c : UInt8) : sp_r2Is_0 (b, c) = (
  bif decide (c ≤ (57 : UInt8)) then bif decide (b = c) then some (Sum.inr (Sum.inl true)) else some (Sum.inl (b, c + (1 : UInt8))) else some (Sum.inr (Sum.inr ()))) := by kernel_rfl

theorem e_r2Is (b : UInt8) : F_r2Is b = (
  (w_r2Is_0 (b, (48 : UInt8))).bind fun x1 => Sum.elim (fun x2 => some x2) (fun x2 => some false) x1) := by kernel_rfl


/-! ### horologe/horologeref02.Many -/
noncomputable abbrev ct_r2Many : List (FuncId × Bool × SpecT) := [(148, false, s_r2Is)]
theorem cs_r2Many : AllSound Tryd.prog ct_r2Many := ⟨so_r2Is, trivial⟩
-- loop 0 (key 2) exit 0: [0, 3]
-- loop 0 (key 2) exit 2: [2]
-- loop 0 (key 2) exit 3: [0]
abbrev kp_r2Many : Keep := keepT [(2, 0, [(0, none), (3, none)]), (2, 2, [(2, none)]), (2, 3, [(0, none)])]
noncomputable abbrev b_r2Many_0 : Code := loopAt Tryd.f125 0
noncomputable def sp_r2Many_0 (x : ((List UInt8) × Int)) : Option (((List UInt8) × Int) ⊕ ((Int) ⊕ ((List UInt8)))) := (stepL Tryd.prog (lookT ct_r2Many) kp_r2Many (loopsT []) 0 false b_r2Many_0 (codP [pS, pI]) (exS (exO .ret (codP [pI])) (exO (.ext 0) (codP [pS]))) x).run
noncomputable def w_r2Many_0 : ((List UInt8) × Int) → Option ((Int) ⊕ ((List UInt8))) := whileO sp_r2Many_0
theorem ew_r2Many_0 (x : ((List UInt8) × Int)) : w_r2Many_0 x = (sp_r2Many_0 x).bind (Sum.elim w_r2Many_0 some) := whileO_eq _ _
noncomputable abbrev l_r2Many_0 : LT := ltF (codP [pS, pI]) (exS (exO .ret (codP [pI])) (exO (.ext 0) (codP [pS]))) w_r2Many_0
theorem lo_r2Many_0 : LoopOk Tryd.prog Tryd.f125.ntmps kp_r2Many 0 false b_r2Many_0 l_r2Many_0 := loopG mixed cs_r2Many (lps := loopsT []) (by kernel_rfl) (ls := []) (by kernel_rfl) lps_nil
noncomputable def F_r2Many (x : ((List UInt8))) : Option (Int) := (evalF Tryd.prog (lookT ct_r2Many) (kp_r2Many) (loopsT [(2, l_r2Many_0)]) false false Tryd.f125 (codP [pS]) 1 (codP [pI]) x).run
noncomputable abbrev s_r2Many : SpecT := specF (codP [pS]) 1 (codP [pI]) F_r2Many
theorem so_r2Many : SoundT Tryd.prog 125 s_r2Many := soundG (P := Tryd.prog) mixed (t := ct_r2Many) cs_r2Many (f := 125) (fn := Tryd.f125) Tryd.func125 (by kernel_rfl) (by kernel_rfl) (by kernel_rfl) (ls := [b_r2Many_0]) (by kernel_rfl) (kp := kp_r2Many) (lps := loopsT [(2, l_r2Many_0)]) (bump := false) (ice := false) (A := (codP [pS])) (n := 1) (R := (codP [pI])) fun _ => (lps_cons l_r2Many_0 (by kernel_rfl) lo_r2Many_0 lps_nil)

theorem es_r2Many_0 (s : List UInt8) (i : Int) : sp_r2Many_0 (s, i) = (
  bif decide (i < (↑s.length : Int)) then (getI s i).bind fun x1 => (F_r2Is x1).bind fun x2 => bif !x2 then some (Sum.inr (Sum.inl i)) else some (Sum.inl (s, IntKind.i64.wrap (i + (1 : Int))))
  else some (Sum.inr (Sum.inr s))) := by kernel_rfl

theorem e_r2Many (s : List UInt8) : F_r2Many s = (
  (w_r2Many_0 (s, (0 : Int))).bind fun x1 => Sum.elim (fun x2 => some x2) (fun x2 => some (↑x2.length : Int)) x1) := by kernel_rfl


/-! ### horologe/horologeref02.Raw -/
noncomputable abbrev ct_r2Raw : List (FuncId × Bool × SpecT) := []
theorem cs_r2Raw : AllSound Tryd.prog ct_r2Raw := trivial
-- loop 0 (key 2) exit 0: [0, 1, 5]
-- loop 0 (key 2) exit 3: [1, 5]
-- loop 1 (key 5) exit 0: [1, 5]
-- loop 1 (key 5) exit 5: [5]
abbrev kp_r2Raw : Keep := keepT [(2, 0, [(0, none), (1, none), (5, none)]), (2, 3, [(1, none), (5, none)]), (5, 0, [(1, none), (5, none)]), (5, 5, [(5, none)])]
noncomputable abbrev b_r2Raw_0 : Code := loopAt Tryd.f111 0
noncomputable abbrev b_r2Raw_1 : Code := loopAt Tryd.f111 1
noncomputable def sp_r2Raw_1 (x : (Int × (List UInt8))) : Option ((Int × (List UInt8)) ⊕ ((List UInt8))) := (stepL Tryd.prog (lookT ct_r2Raw) kp_r2Raw (loopsT []) 0 false b_r2Raw_1 (codP [pI, pS]) (exO (.ext 2) (codP [pS])) x).run
noncomputable def w_r2Raw_1 : (Int × (List UInt8)) → Option ((List UInt8)) := whileO sp_r2Raw_1
theorem ew_r2Raw_1 (x : (Int × (List UInt8))) : w_r2Raw_1 x = (sp_r2Raw_1 x).bind (Sum.elim w_r2Raw_1 some) := whileO_eq _ _
noncomputable abbrev l_r2Raw_1 : LT := ltF (codP [pI, pS]) (exO (.ext 2) (codP [pS])) w_r2Raw_1
theorem lo_r2Raw_1 : LoopOk Tryd.prog Tryd.f111.ntmps kp_r2Raw 0 false b_r2Raw_1 l_r2Raw_1 := loopG mixed cs_r2Raw (lps := loopsT []) (by kernel_rfl) (ls := []) (by kernel_rfl) lps_nil
noncomputable def sp_r2Raw_0 (x : (Int × Int × (List UInt8))) : Option ((Int × Int × (List UInt8)) ⊕ (Int × (List UInt8))) := (stepL Tryd.prog (lookT ct_r2Raw) kp_r2Raw (loopsT []) 0 false b_r2Raw_0 (codP [pI, pI, pS]) (exO (.ext 0) (codP [pI, pS])) x).run
noncomputable def w_r2Raw_0 : (Int × Int × (List UInt8)) → Option (Int × (List UInt8)) := whileO sp_r2Raw_0
theorem ew_r2Raw_0 (x : (Int × Int × (List UInt8))) : w_r2Raw_0 x = (sp_r2Raw_0 x).bind (Sum.elim w_r2Raw_0 some) := whileO_eq _ _
noncomputable abbrev l_r2Raw_0 : LT := ltF (codP [pI, pI, pS]) (exO (.ext 0) (codP [pI, pS])) w_r2Raw_0
theorem lo_r2Raw_0 : LoopOk Tryd.prog Tryd.f111.ntmps kp_r2Raw 0 false b_r2Raw_0 l_r2Raw_0 := loopG mixed cs_r2Raw (lps := loopsT []) (by kernel_rfl) (ls := []) (by kernel_rfl) lps_nil
noncomputable def F_r2Raw (x : (Int × Int)) : Option ((List UInt8)) := (evalF Tryd.prog (lookT ct_r2Raw) (kp_r2Raw) (loopsT [(2, l_r2Raw_0), (5, l_r2Raw_1)]) false false Tryd.f111 (codP [pI, pI]) 1 (codP [pS]) x).run
noncomputable abbrev s_r2Raw : SpecT := specF (codP [pI, pI]) 1 (codP [pS]) F_r2Raw
theorem so_r2Raw : SoundT Tryd.prog 111 s_r2Raw := soundG (P := Tryd.prog) mixed (t := ct_r2Raw) cs_r2Raw (f := 111) (fn := Tryd.f111) Tryd.func111 (by kernel_rfl) (by kernel_rfl) (by kernel_rfl) (ls := [b_r2Raw_0, b_r2Raw_1]) (by kernel_rfl) (kp := kp_r2Raw) (lps := loopsT [(2, l_r2Raw_0), (5, l_r2Raw_1)]) (bump := false) (ice := false) (A := (codP [pI, pI])) (n := 1) (R := (codP [pS])) fun _ => (lps_cons l_r2Raw_0 (by kernel_rfl) lo_r2Raw_0 (lps_cons l_r2Raw_1 (by kernel_rfl) lo_r2Raw_1 lps_nil))

theorem es_r2Raw_0 (n w : Int) (s : List UInt8) : sp_r2Raw_0 (n, w, s) = (
  bif decide ((0 : Int) < n) then
    bif decide ([byteI (IntKind.i64.wrap ((48 : Int) + n.tmod (10 : Int)))].length + s.length ≤ (9223372036854775807 : Nat)) then
      some (Sum.inl (IntKind.i64.wrap (n.tdiv (10 : Int)), w, [byteI (IntKind.i64.wrap ((48 : Int) + n.tmod (10 : Int)))] ++ s))
    else none
  else some (Sum.inr (w, s))) := by kernel_rfl

theorem es_r2Raw_1 (w : Int) (s : List UInt8) : sp_r2Raw_1 (w, s) = (
  bif decide ((↑s.length : Int) < w) then bif decide ((1 : Nat) + s.length ≤ (9223372036854775807 : Nat)) then some (Sum.inl (w, [(48 : UInt8)] ++ s)) else none
  else bif decide ((↑s.length : Int) = (0 : Int)) then bif decide ((1 : Nat) + s.length ≤ (9223372036854775807 : Nat)) then some (Sum.inl (w, [(48 : UInt8)] ++ s)) else none else some (Sum.inr s)) := by kernel_rfl

theorem e_r2Raw (n w : Int) : F_r2Raw (n, w) = (
  (w_r2Raw_0 (n, w, [])).bind fun x1 => (w_r2Raw_1 x1).bind fun x2 => some x2) := by kernel_rfl


/-! ### horologe/horologeref16.Check -/
noncomputable abbrev ct_r6Check : List (FuncId × Bool × SpecT) := []
theorem cs_r6Check : AllSound Tryd.prog ct_r6Check := trivial
noncomputable def F_r6Check (x : ((Int × Int × Int × Int × Int))) : Option (Int) := (evalF Tryd.prog (lookT ct_r6Check) (keepT []) (loopsT []) false false Tryd.f69 (codP [pRule]) 1 (codP [pI]) x).run
noncomputable abbrev s_r6Check : SpecT := specF (codP [pRule]) 1 (codP [pI]) F_r6Check
theorem so_r6Check : SoundT Tryd.prog 69 s_r6Check := soundG (P := Tryd.prog) mixed (t := ct_r6Check) cs_r6Check (f := 69) (fn := Tryd.f69) Tryd.func69 (by kernel_rfl) (by kernel_rfl) (by kernel_rfl) (ls := []) (by kernel_rfl) (kp := keepT []) (lps := loopsT []) (bump := false) (ice := false) (A := (codP [pRule])) (n := 1) (R := (codP [pI])) fun _ => lps_nil

theorem e_r6Check (r : Int × Int × Int × Int × Int) : F_r6Check r = (
  bif decide ((-604799 : Int) ≤ r.snd.snd.snd.snd) then
    bif decide (r.fst = (1 : Int)) then
      bif decide (r.snd.snd.snd.snd ≤ (604799 : Int)) then
        bif decide ((1 : Int) ≤ r.snd.snd.snd.fst) then
          bif decide (r.snd.snd.snd.fst ≤ (365 : Int)) then bif decide (r.snd.fst = (0 : Int)) then bif !decide (r.snd.snd.fst = (0 : Int)) then some (1 : Int) else some (0 : Int) else some (1 : Int)
          else some (1 : Int)
        else some (1 : Int)
      else some (1 : Int)
    else
      bif decide (r.fst = (2 : Int)) then
        bif decide (r.snd.snd.snd.snd ≤ (604799 : Int)) then
          bif decide ((0 : Int) ≤ r.snd.snd.snd.fst) then
            bif decide (r.snd.snd.snd.fst ≤ (365 : Int)) then bif decide (r.snd.fst = (0 : Int)) then bif !decide (r.snd.snd.fst = (0 : Int)) then some (1 : Int) else some (0 : Int) else some (1 : Int)
            else some (1 : Int)
          else some (1 : Int)
        else some (1 : Int)
      else
        bif decide (r.fst = (3 : Int)) then
          bif decide (r.snd.snd.snd.snd ≤ (604799 : Int)) then
            bif decide ((1 : Int) ≤ r.snd.fst) then
              bif decide (r.snd.fst ≤ (12 : Int)) then
                bif decide ((1 : Int) ≤ r.snd.snd.fst) then
                  bif decide (r.snd.snd.fst ≤ (5 : Int)) then
                    bif decide ((0 : Int) ≤ r.snd.snd.snd.fst) then bif !decide (r.snd.snd.snd.fst ≤ (6 : Int)) then some (1 : Int) else some (0 : Int) else some (1 : Int)
                  else some (1 : Int)
                else some (1 : Int)
              else some (1 : Int)
            else some (1 : Int)
          else some (1 : Int)
        else some (11 : Int)
  else bif decide (r.fst = (1 : Int)) then some (1 : Int) else bif decide (r.fst = (2 : Int)) then some (1 : Int) else bif decide (r.fst = (3 : Int)) then some (1 : Int) else some (11 : Int)) := by kernel_rfl


/-! ### horologe/horologeref16.Clock -/
noncomputable abbrev ct_r6Clock : List (FuncId × Bool × SpecT) := [(111, false, s_r2Raw)]
theorem cs_r6Clock : AllSound Tryd.prog ct_r6Clock := ⟨so_r2Raw, trivial⟩
noncomputable def F_r6Clock (x : (Int)) : Option ((List UInt8)) := (evalF Tryd.prog (lookT ct_r6Clock) (keepT []) (loopsT []) false false Tryd.f76 (codP [pI]) 1 (codP [pS]) x).run
noncomputable abbrev s_r6Clock : SpecT := specF (codP [pI]) 1 (codP [pS]) F_r6Clock
theorem so_r6Clock : SoundT Tryd.prog 76 s_r6Clock := soundG (P := Tryd.prog) mixed (t := ct_r6Clock) cs_r6Clock (f := 76) (fn := Tryd.f76) Tryd.func76 (by kernel_rfl) (by kernel_rfl) (by kernel_rfl) (ls := []) (by kernel_rfl) (kp := keepT []) (lps := loopsT []) (bump := false) (ice := false) (A := (codP [pI])) (n := 1) (R := (codP [pS])) fun _ => lps_nil

theorem e_r6Clock (t : Int) : F_r6Clock t = (
  bif decide (t < (0 : Int)) then
    (F_r2Raw (IntKind.i64.wrap ((IntKind.i64.wrap ((0 : Int) - t)).tdiv (3600 : Int)), (1 : Int))).bind fun x1 =>
      bif decide ((1 : Nat) + x1.length ≤ (9223372036854775807 : Nat)) then
        bif decide ((IntKind.i64.wrap ((0 : Int) - t)).tmod (3600 : Int) ≠ (0 : Int)) then
          (F_r2Raw ((IntKind.i64.wrap ((IntKind.i64.wrap ((0 : Int) - t)).tdiv (60 : Int))).tmod (60 : Int), (2 : Int))).bind fun x2 =>
            bif decide ((1 : Nat) + x2.length ≤ (9223372036854775807 : Nat)) then
              bif decide (([(45 : UInt8)] ++ x1).length + ([(58 : UInt8)] ++ x2).length ≤ (9223372036854775807 : Nat)) then
                bif decide ((IntKind.i64.wrap ((0 : Int) - t)).tmod (60 : Int) ≠ (0 : Int)) then
                  (F_r2Raw ((IntKind.i64.wrap ((0 : Int) - t)).tmod (60 : Int), (2 : Int))).bind fun x3 =>
                    bif decide ((1 : Nat) + x3.length ≤ (9223372036854775807 : Nat)) then
                      bif decide (([(45 : UInt8)] ++ x1 ++ ([(58 : UInt8)] ++ x2)).length + ([(58 : UInt8)] ++ x3).length ≤ (9223372036854775807 : Nat)) then
                        some ([(45 : UInt8)] ++ x1 ++ ([(58 : UInt8)] ++ x2) ++ ([(58 : UInt8)] ++ x3))
                      else none
                    else none
                else some ([(45 : UInt8)] ++ x1 ++ ([(58 : UInt8)] ++ x2))
              else none
            else none
        else
          bif decide ((IntKind.i64.wrap ((0 : Int) - t)).tmod (60 : Int) ≠ (0 : Int)) then
            (F_r2Raw ((IntKind.i64.wrap ((0 : Int) - t)).tmod (60 : Int), (2 : Int))).bind fun x2 =>
              bif decide ((1 : Nat) + x2.length ≤ (9223372036854775807 : Nat)) then
                bif decide (([(45 : UInt8)] ++ x1).length + ([(58 : UInt8)] ++ x2).length ≤ (9223372036854775807 : Nat)) then some ([(45 : UInt8)] ++ x1 ++ ([(58 : UInt8)] ++ x2)) else none
              else none
          else some ([(45 : UInt8)] ++ x1)
      else none
  else
    (F_r2Raw (IntKind.i64.wrap (t.tdiv (3600 : Int)), (1 : Int))).bind fun x1 =>
      bif decide ((0 : Nat) + x1.length ≤ (9223372036854775807 : Nat)) then
        bif decide (t.tmod (3600 : Int) ≠ (0 : Int)) then
          (F_r2Raw ((IntKind.i64.wrap (t.tdiv (60 : Int))).tmod (60 : Int), (2 : Int))).bind fun x2 =>
            bif decide ((1 : Nat) + x2.length ≤ (9223372036854775807 : Nat)) then
              bif decide (([] ++ x1).length + ([(58 : UInt8)] ++ x2).length ≤ (9223372036854775807 : Nat)) then
                bif decide (t.tmod (60 : Int) ≠ (0 : Int)) then
                  (F_r2Raw (t.tmod (60 : Int), (2 : Int))).bind fun x3 =>
                    bif decide ((1 : Nat) + x3.length ≤ (9223372036854775807 : Nat)) then
                      bif decide (([] ++ x1 ++ ([(58 : UInt8)] ++ x2)).length + ([(58 : UInt8)] ++ x3).length ≤ (9223372036854775807 : Nat)) then
                        some ([] ++ x1 ++ ([(58 : UInt8)] ++ x2) ++ ([(58 : UInt8)] ++ x3))
                      else none
                    else none
                else some ([] ++ x1 ++ ([(58 : UInt8)] ++ x2))
              else none
            else none
        else
          bif decide (t.tmod (60 : Int) ≠ (0 : Int)) then
            (F_r2Raw (t.tmod (60 : Int), (2 : Int))).bind fun x2 =>
              bif decide ((1 : Nat) + x2.length ≤ (9223372036854775807 : Nat)) then
                bif decide (([] ++ x1).length + ([(58 : UInt8)] ++ x2).length ≤ (9223372036854775807 : Nat)) then some ([] ++ x1 ++ ([(58 : UInt8)] ++ x2)) else none
              else none
          else some ([] ++ x1)
      else none) := by kernel_rfl


/-! ### horologe/horologeref16.number -/
noncomputable abbrev ct_r6number : List (FuncId × Bool × SpecT) := [(125, false, s_r2Many)]
theorem cs_r6number : AllSound Tryd.prog ct_r6number := ⟨so_r2Many, trivial⟩
-- loop 0 (key 5) exit 0: [0, 8, 9]
-- loop 0 (key 5) exit 3: [8]
abbrev kp_r6number : Keep := keepT [(5, 0, [(0, none), (8, none), (9, none)]), (5, 3, [(8, none)])]
noncomputable abbrev b_r6number_0 : Code := loopAt Tryd.f96 0
noncomputable def sp_r6number_0 (x : ((List UInt8) × Int × Int)) : Option (((List UInt8) × Int × Int) ⊕ (Int)) := (stepL Tryd.prog (lookT ct_r6number) kp_r6number (loopsT []) 0 false b_r6number_0 (codP [pS, pI, pI]) (exO (.ext 0) (codP [pI])) x).run
noncomputable def w_r6number_0 : ((List UInt8) × Int × Int) → Option (Int) := whileO sp_r6number_0
theorem ew_r6number_0 (x : ((List UInt8) × Int × Int)) : w_r6number_0 x = (sp_r6number_0 x).bind (Sum.elim w_r6number_0 some) := whileO_eq _ _
noncomputable abbrev l_r6number_0 : LT := ltF (codP [pS, pI, pI]) (exO (.ext 0) (codP [pI])) w_r6number_0
theorem lo_r6number_0 : LoopOk Tryd.prog Tryd.f96.ntmps kp_r6number 0 false b_r6number_0 l_r6number_0 := loopG mixed cs_r6number (lps := loopsT []) (by kernel_rfl) (ls := []) (by kernel_rfl) lps_nil
noncomputable def F_r6number (x : ((List UInt8) × Int × Int)) : Option (Int × Bool) := (evalF Tryd.prog (lookT ct_r6number) (kp_r6number) (loopsT [(5, l_r6number_0)]) false false Tryd.f96 (codP [pS, pI, pI]) 2 (codP [pI, pB]) x).run
noncomputable abbrev s_r6number : SpecT := specF (codP [pS, pI, pI]) 2 (codP [pI, pB]) F_r6number
theorem so_r6number : SoundT Tryd.prog 96 s_r6number := soundG (P := Tryd.prog) mixed (t := ct_r6number) cs_r6number (f := 96) (fn := Tryd.f96) Tryd.func96 (by kernel_rfl) (by kernel_rfl) (by kernel_rfl) (ls := [b_r6number_0]) (by kernel_rfl) (kp := kp_r6number) (lps := loopsT [(5, l_r6number_0)]) (bump := false) (ice := false) (A := (codP [pS, pI, pI])) (n := 2) (R := (codP [pI, pB])) fun _ => (lps_cons l_r6number_0 (by kernel_rfl) lo_r6number_0 lps_nil)

theorem es_r6number_0 (s : List UInt8) (n i : Int) : sp_r6number_0 (s, n, i) = (
  bif decide (i < (↑s.length : Int)) then
    (getI s i).bind fun x1 => some (Sum.inl (s, IntKind.i64.wrap (IntKind.i64.wrap (n * (10 : Int)) + (↑(x1 - (48 : UInt8)).toNat : Int)), IntKind.i64.wrap (i + (1 : Int))))
  else some (Sum.inr n)) := by kernel_rfl

theorem e_r6number (s : List UInt8) (l m : Int) : F_r6number (s, l, m) = (
  bif decide ((↑s.length : Int) < l) then some ((0 : Int), false)
  else
    bif decide (m < (↑s.length : Int)) then some ((0 : Int), false)
    else (F_r2Many s).bind fun x1 => bif decide (x1 < (↑s.length : Int)) then some ((0 : Int), false) else (w_r6number_0 (s, (0 : Int), (0 : Int))).bind fun x2 => some (x2, true)) := by kernel_rfl


/-! ### horologe/horologeref16.parts -/
noncomputable abbrev ct_r6parts : List (FuncId × Bool × SpecT) := []
theorem cs_r6parts : AllSound Tryd.prog ct_r6parts := trivial
-- loop 0 (key 3) exit 0: [0, 1, 5, 6]
-- loop 0 (key 3) exit 3: [5]
abbrev kp_r6parts : Keep := keepT [(3, 0, [(0, none), (1, none), (5, some .str), (6, none)]), (3, 3, [(5, some .str)])]
noncomputable abbrev b_r6parts_0 : Code := loopAt Tryd.f95 0
noncomputable def sp_r6parts_0 (x : ((List UInt8) × UInt8 × (List (List UInt8)) × Int)) : Option (((List UInt8) × UInt8 × (List (List UInt8)) × Int) ⊕ ((List (List UInt8)))) := (stepL Tryd.prog (lookT ct_r6parts) kp_r6parts (loopsT []) 0 false b_r6parts_0 (codP [pS, pU, (.own .str), pI]) (exO (.ext 0) (codP [(.own .str)])) x).run
noncomputable def w_r6parts_0 : ((List UInt8) × UInt8 × (List (List UInt8)) × Int) → Option ((List (List UInt8))) := whileO sp_r6parts_0
theorem ew_r6parts_0 (x : ((List UInt8) × UInt8 × (List (List UInt8)) × Int)) : w_r6parts_0 x = (sp_r6parts_0 x).bind (Sum.elim w_r6parts_0 some) := whileO_eq _ _
noncomputable abbrev l_r6parts_0 : LT := ltF (codP [pS, pU, (.own .str), pI]) (exO (.ext 0) (codP [(.own .str)])) w_r6parts_0
theorem lo_r6parts_0 : LoopOk Tryd.prog Tryd.f95.ntmps kp_r6parts 0 false b_r6parts_0 l_r6parts_0 := loopG mixed cs_r6parts (lps := loopsT []) (by kernel_rfl) (ls := []) (by kernel_rfl) lps_nil
noncomputable def F_r6parts (x : ((List UInt8) × UInt8)) : Option ((List (List UInt8))) := (evalF Tryd.prog (lookT ct_r6parts) (kp_r6parts) (loopsT [(3, l_r6parts_0)]) false true Tryd.f95 (codP [pS, pU]) 1 (codP [(.pure (.lst .str))]) x).run
noncomputable abbrev s_r6parts : SpecT := specF (codP [pS, pU]) 1 (codP [(.pure (.lst .str))]) F_r6parts
theorem so_r6parts : SoundT Tryd.prog 95 s_r6parts := soundG (P := Tryd.prog) mixed (t := ct_r6parts) cs_r6parts (f := 95) (fn := Tryd.f95) Tryd.func95 (by kernel_rfl) (by kernel_rfl) (by kernel_rfl) (ls := [b_r6parts_0]) (by kernel_rfl) (kp := kp_r6parts) (lps := loopsT [(3, l_r6parts_0)]) (bump := false) (ice := true) (A := (codP [pS, pU])) (n := 1) (R := (codP [(.pure (.lst .str))])) fun _ => (lps_cons l_r6parts_0 (by kernel_rfl) lo_r6parts_0 lps_nil)

theorem es_r6parts_0 (s : List UInt8) (g : UInt8) (o : List (List UInt8)) (i : Int) : sp_r6parts_0 (s, g, o, i) = (
  bif decide (i < (↑s.length : Int)) then
    (getI s i).bind fun x1 =>
      bif decide (x1 = g) then bif roomB o.length (1 : Nat) (16 : Nat) then some (Sum.inl (s, g, o ++ [[]], IntKind.i64.wrap (i + (1 : Int)))) else none
      else
        bif decide ((0 : Int) ≤ IntKind.i64.wrap ((↑o.length : Int) - (1 : Int)) ∧ IntKind.i64.wrap ((↑o.length : Int) - (1 : Int)) < (↑o.length : Int)) then
          o[(IntKind.i64.wrap ((↑o.length : Int) - (1 : Int))).toNat]?.bind fun x2 =>
            (subI s i (IntKind.i64.wrap (i + (1 : Int)))).bind fun x3 =>
              bif decide (x2.length + x3.length ≤ (9223372036854775807 : Nat)) then
                bif decide ((0 : Int) ≤ IntKind.i64.wrap ((↑o.length : Int) - (1 : Int)) ∧ IntKind.i64.wrap ((↑o.length : Int) - (1 : Int)) < (↑o.length : Int)) then
                  o[(IntKind.i64.wrap ((↑o.length : Int) - (1 : Int))).toNat]?.bind fun x4 =>
                    some (Sum.inl (s, g, o.set (IntKind.i64.wrap ((↑o.length : Int) - (1 : Int))).toNat (x2 ++ x3), IntKind.i64.wrap (i + (1 : Int))))
                else none
              else none
        else none
  else some (Sum.inr o)) := by kernel_rfl

theorem e_r6parts (s : List UInt8) (g : UInt8) : F_r6parts (s, g) = (
  (w_r6parts_0 (s, g, [[]], (0 : Int))).bind fun x1 => some x1) := by kernel_rfl


/-! ### horologe/horologeref16.ParseClock -/
noncomputable abbrev ct_r6ParseClock : List (FuncId × Bool × SpecT) := [(95, false, s_r6parts), (96, false, s_r6number)]
theorem cs_r6ParseClock : AllSound Tryd.prog ct_r6ParseClock := ⟨so_r6parts, so_r6number, trivial⟩
-- loop 0 (key 16) exit 0: [6, 7, 8, 10, 11, 12, 13]
-- loop 0 (key 16) exit 2: [4, 5]
-- loop 0 (key 16) exit 3: [6, 8, 10, 11]
abbrev kp_r6ParseClock : Keep := keepT [(16, 0, [(6, none), (7, none), (8, none), (10, none), (11, none), (12, none), (13, none)]), (16, 2, [(4, none), (5, none)]), (16, 3, [(6, none), (8, none), (10, none), (11, none)])]
noncomputable abbrev b_r6ParseClock_0 : Code := loopAt Tryd.f49 0
noncomputable def sp_r6ParseClock_0 (x : (Int × (List (List UInt8)) × Int × Int × Bool × Int × Int)) : Option ((Int × (List (List UInt8)) × Int × Int × Bool × Int × Int) ⊕ ((Int × Int) ⊕ (Int × Int × Int × Bool))) := (stepL Tryd.prog (lookT ct_r6ParseClock) kp_r6ParseClock (loopsT []) 0 false b_r6ParseClock_0 (codP [pI, (.pure (.lst .str)), pI, pI, pB, pI, pI]) (exS (exO .ret (codP [pI, pI])) (exO (.ext 0) (codP [pI, pI, pI, pB]))) x).run
noncomputable def w_r6ParseClock_0 : (Int × (List (List UInt8)) × Int × Int × Bool × Int × Int) → Option ((Int × Int) ⊕ (Int × Int × Int × Bool)) := whileO sp_r6ParseClock_0
theorem ew_r6ParseClock_0 (x : (Int × (List (List UInt8)) × Int × Int × Bool × Int × Int)) : w_r6ParseClock_0 x = (sp_r6ParseClock_0 x).bind (Sum.elim w_r6ParseClock_0 some) := whileO_eq _ _
noncomputable abbrev l_r6ParseClock_0 : LT := ltF (codP [pI, (.pure (.lst .str)), pI, pI, pB, pI, pI]) (exS (exO .ret (codP [pI, pI])) (exO (.ext 0) (codP [pI, pI, pI, pB]))) w_r6ParseClock_0
theorem lo_r6ParseClock_0 : LoopOk Tryd.prog Tryd.f49.ntmps kp_r6ParseClock 0 false b_r6ParseClock_0 l_r6ParseClock_0 := loopG mixed cs_r6ParseClock (lps := loopsT []) (by kernel_rfl) (ls := []) (by kernel_rfl) lps_nil
noncomputable def F_r6ParseClock (x : ((List UInt8) × Int)) : Option (Int × Int) := (evalF Tryd.prog (lookT ct_r6ParseClock) (kp_r6ParseClock) (loopsT [(16, l_r6ParseClock_0)]) false false Tryd.f49 (codP [pS, pI]) 2 (codP [pI, pI]) x).run
noncomputable abbrev s_r6ParseClock : SpecT := specF (codP [pS, pI]) 2 (codP [pI, pI]) F_r6ParseClock
theorem so_r6ParseClock : SoundT Tryd.prog 49 s_r6ParseClock := soundG (P := Tryd.prog) mixed (t := ct_r6ParseClock) cs_r6ParseClock (f := 49) (fn := Tryd.f49) Tryd.func49 (by kernel_rfl) (by kernel_rfl) (by kernel_rfl) (ls := [b_r6ParseClock_0]) (by kernel_rfl) (kp := kp_r6ParseClock) (lps := loopsT [(16, l_r6ParseClock_0)]) (bump := false) (ice := false) (A := (codP [pS, pI])) (n := 2) (R := (codP [pI, pI])) fun _ => (lps_cons l_r6ParseClock_0 (by kernel_rfl) lo_r6ParseClock_0 lps_nil)

theorem es_r6ParseClock_0 (g : Int) (l : List (List UInt8)) (h r : Int) (b : Bool) (u i : Int) : sp_r6ParseClock_0 (g, l, h, r, b, u, i) = (
  bif decide (i < (↑l.length : Int)) then
    (getI l i).bind fun x1 =>
      (F_r6number (x1, (2 : Int), (2 : Int))).bind fun x2 =>
        bif !x2.snd then some (Sum.inr (Sum.inl ((0 : Int), (2 : Int))))
        else
          bif b then some (Sum.inl (g, l, h, IntKind.i64.wrap (r + IntKind.i64.wrap (x2.fst * u)), true, (1 : Int), IntKind.i64.wrap (i + (1 : Int))))
          else some (Sum.inl (g, l, h, IntKind.i64.wrap (r + IntKind.i64.wrap (x2.fst * u)), decide ((59 : Int) < x2.fst), (1 : Int), IntKind.i64.wrap (i + (1 : Int))))
  else some (Sum.inr (Sum.inr (g, h, r, b)))) := by kernel_rfl

theorem e_r6ParseClock (s : List UInt8) (m : Int) : F_r6ParseClock (s, m) = (
  bif decide (m < (0 : Int)) then some ((0 : Int), (1 : Int))
  else
    bif decide ((999 : Int) < m) then some ((0 : Int), (1 : Int))
    else
      bif decide ((0 : Int) < (↑s.length : Int)) then
        (getI s (0 : Int)).bind fun x1 =>
          bif decide (x1 = (43 : UInt8)) then
            (getI s (0 : Int)).bind fun x2 =>
              bif decide (x2 = (45 : UInt8)) then
                (subI s (1 : Int) (↑s.length : Int)).bind fun x3 =>
                  (F_r6parts (x3, (58 : UInt8))).bind fun x4 =>
                    (getI x4 (0 : Int)).bind fun x5 =>
                      (F_r6number (x5, (1 : Int), (3 : Int))).bind fun x6 =>
                        bif !x6.snd then some ((0 : Int), (2 : Int))
                        else
                          bif decide ((3 : Int) < (↑x4.length : Int)) then some ((0 : Int), (2 : Int))
                          else
                            (w_r6ParseClock_0 ((-1 : Int), x4, x6.fst, (0 : Int), decide (m < x6.fst), (60 : Int), (1 : Int))).bind fun x7 =>
                              Sum.elim (fun x8 => some x8)
                                (fun x8 =>
                                  bif x8.snd.snd.snd then some ((0 : Int), (1 : Int))
                                  else some (IntKind.i64.wrap (x8.fst * IntKind.i64.wrap (IntKind.i64.wrap (x8.snd.fst * (3600 : Int)) + x8.snd.snd.fst)), (0 : Int)))
                                x7
              else
                (subI s (1 : Int) (↑s.length : Int)).bind fun x3 =>
                  (F_r6parts (x3, (58 : UInt8))).bind fun x4 =>
                    (getI x4 (0 : Int)).bind fun x5 =>
                      (F_r6number (x5, (1 : Int), (3 : Int))).bind fun x6 =>
                        bif !x6.snd then some ((0 : Int), (2 : Int))
                        else
                          bif decide ((3 : Int) < (↑x4.length : Int)) then some ((0 : Int), (2 : Int))
                          else
                            (w_r6ParseClock_0 ((1 : Int), x4, x6.fst, (0 : Int), decide (m < x6.fst), (60 : Int), (1 : Int))).bind fun x7 =>
                              Sum.elim (fun x8 => some x8)
                                (fun x8 =>
                                  bif x8.snd.snd.snd then some ((0 : Int), (1 : Int))
                                  else some (IntKind.i64.wrap (x8.fst * IntKind.i64.wrap (IntKind.i64.wrap (x8.snd.fst * (3600 : Int)) + x8.snd.snd.fst)), (0 : Int)))
                                x7
          else
            (getI s (0 : Int)).bind fun x2 =>
              bif decide (x2 = (45 : UInt8)) then
                (getI s (0 : Int)).bind fun x3 =>
                  bif decide (x3 = (45 : UInt8)) then
                    (subI s (1 : Int) (↑s.length : Int)).bind fun x4 =>
                      (F_r6parts (x4, (58 : UInt8))).bind fun x5 =>
                        (getI x5 (0 : Int)).bind fun x6 =>
                          (F_r6number (x6, (1 : Int), (3 : Int))).bind fun x7 =>
                            bif !x7.snd then some ((0 : Int), (2 : Int))
                            else
                              bif decide ((3 : Int) < (↑x5.length : Int)) then some ((0 : Int), (2 : Int))
                              else
                                (w_r6ParseClock_0 ((-1 : Int), x5, x7.fst, (0 : Int), decide (m < x7.fst), (60 : Int), (1 : Int))).bind fun x8 =>
                                  Sum.elim (fun x9 => some x9)
                                    (fun x9 =>
                                      bif x9.snd.snd.snd then some ((0 : Int), (1 : Int))
                                      else some (IntKind.i64.wrap (x9.fst * IntKind.i64.wrap (IntKind.i64.wrap (x9.snd.fst * (3600 : Int)) + x9.snd.snd.fst)), (0 : Int)))
                                    x8
                  else
                    (subI s (1 : Int) (↑s.length : Int)).bind fun x4 =>
                      (F_r6parts (x4, (58 : UInt8))).bind fun x5 =>
                        (getI x5 (0 : Int)).bind fun x6 =>
                          (F_r6number (x6, (1 : Int), (3 : Int))).bind fun x7 =>
                            bif !x7.snd then some ((0 : Int), (2 : Int))
                            else
                              bif decide ((3 : Int) < (↑x5.length : Int)) then some ((0 : Int), (2 : Int))
                              else
                                (w_r6ParseClock_0 ((1 : Int), x5, x7.fst, (0 : Int), decide (m < x7.fst), (60 : Int), (1 : Int))).bind fun x8 =>
                                  Sum.elim (fun x9 => some x9)
                                    (fun x9 =>
                                      bif x9.snd.snd.snd then some ((0 : Int), (1 : Int))
                                      else some (IntKind.i64.wrap (x9.fst * IntKind.i64.wrap (IntKind.i64.wrap (x9.snd.fst * (3600 : Int)) + x9.snd.snd.fst)), (0 : Int)))
                                    x8
              else
                (F_r6parts (s, (58 : UInt8))).bind fun x3 =>
                  (getI x3 (0 : Int)).bind fun x4 =>
                    (F_r6number (x4, (1 : Int), (3 : Int))).bind fun x5 =>
                      bif !x5.snd then some ((0 : Int), (2 : Int))
                      else
                        bif decide ((3 : Int) < (↑x3.length : Int)) then some ((0 : Int), (2 : Int))
                        else
                          (w_r6ParseClock_0 ((1 : Int), x3, x5.fst, (0 : Int), decide (m < x5.fst), (60 : Int), (1 : Int))).bind fun x6 =>
                            Sum.elim (fun x7 => some x7)
                              (fun x7 =>
                                bif x7.snd.snd.snd then some ((0 : Int), (1 : Int))
                                else some (IntKind.i64.wrap (x7.fst * IntKind.i64.wrap (IntKind.i64.wrap (x7.snd.fst * (3600 : Int)) + x7.snd.snd.fst)), (0 : Int)))
                              x6
      else
        (F_r6parts (s, (58 : UInt8))).bind fun x1 =>
          (getI x1 (0 : Int)).bind fun x2 =>
            (F_r6number (x2, (1 : Int), (3 : Int))).bind fun x3 =>
              bif !x3.snd then some ((0 : Int), (2 : Int))
              else
                bif decide ((3 : Int) < (↑x1.length : Int)) then some ((0 : Int), (2 : Int))
                else
                  (w_r6ParseClock_0 ((1 : Int), x1, x3.fst, (0 : Int), decide (m < x3.fst), (60 : Int), (1 : Int))).bind fun x4 =>
                    Sum.elim (fun x5 => some x5)
                      (fun x5 =>
                        bif x5.snd.snd.snd then some ((0 : Int), (1 : Int))
                        else some (IntKind.i64.wrap (x5.fst * IntKind.i64.wrap (IntKind.i64.wrap (x5.snd.fst * (3600 : Int)) + x5.snd.snd.fst)), (0 : Int)))
                      x4) := by kernel_rfl


/-! ### horologe/horologeref16.Put -/
noncomputable abbrev ct_r6Put : List (FuncId × Bool × SpecT) := [(111, false, s_r2Raw), (76, false, s_r6Clock)]
theorem cs_r6Put : AllSound Tryd.prog ct_r6Put := ⟨so_r2Raw, so_r6Clock, trivial⟩
noncomputable def F_r6Put (x : ((Int × Int × Int × Int × Int))) : Option ((List UInt8)) := (evalF Tryd.prog (lookT ct_r6Put) (keepT []) (loopsT []) false false Tryd.f77 (codP [pRule]) 1 (codP [pS]) x).run
noncomputable abbrev s_r6Put : SpecT := specF (codP [pRule]) 1 (codP [pS]) F_r6Put
theorem so_r6Put : SoundT Tryd.prog 77 s_r6Put := soundG (P := Tryd.prog) mixed (t := ct_r6Put) cs_r6Put (f := 77) (fn := Tryd.f77) Tryd.func77 (by kernel_rfl) (by kernel_rfl) (by kernel_rfl) (ls := []) (by kernel_rfl) (kp := keepT []) (lps := loopsT []) (bump := false) (ice := false) (A := (codP [pRule])) (n := 1) (R := (codP [pS])) fun _ => lps_nil

theorem e_r6Put (r : Int × Int × Int × Int × Int) : F_r6Put r = (
  (F_r2Raw (r.snd.snd.snd.fst, (1 : Int))).bind fun x1 =>
    bif decide (r.fst = (1 : Int)) then
      bif decide ((1 : Nat) + x1.length ≤ (9223372036854775807 : Nat)) then
        bif decide (r.fst = (3 : Int)) then
          (F_r2Raw (r.snd.fst, (1 : Int))).bind fun x2 =>
            bif decide ((1 : Nat) + x2.length ≤ (9223372036854775807 : Nat)) then
              bif decide (([(77 : UInt8)] ++ x2).length + (1 : Nat) ≤ (9223372036854775807 : Nat)) then
                (F_r2Raw (r.snd.snd.fst, (1 : Int))).bind fun x3 =>
                  bif decide (([(77 : UInt8)] ++ x2 ++ [(46 : UInt8)]).length + x3.length ≤ (9223372036854775807 : Nat)) then
                    bif decide (([(77 : UInt8)] ++ x2 ++ [(46 : UInt8)] ++ x3).length + (1 : Nat) ≤ (9223372036854775807 : Nat)) then
                      bif decide (([(77 : UInt8)] ++ x2 ++ [(46 : UInt8)] ++ x3 ++ [(46 : UInt8)]).length + ([(74 : UInt8)] ++ x1).length ≤ (9223372036854775807 : Nat)) then
                        bif decide (r.snd.snd.snd.snd ≠ (7200 : Int)) then
                          (F_r6Clock r.snd.snd.snd.snd).bind fun x4 =>
                            bif decide ((1 : Nat) + x4.length ≤ (9223372036854775807 : Nat)) then
                              bif
                                  decide
                                    (([(77 : UInt8)] ++ x2 ++ [(46 : UInt8)] ++ x3 ++ [(46 : UInt8)] ++ ([(74 : UInt8)] ++ x1)).length + ([(47 : UInt8)] ++ x4).length ≤ (9223372036854775807 : Nat)) then
                                some ([(77 : UInt8)] ++ x2 ++ [(46 : UInt8)] ++ x3 ++ [(46 : UInt8)] ++ ([(74 : UInt8)] ++ x1) ++ ([(47 : UInt8)] ++ x4))
                              else none
                            else none
                        else some ([(77 : UInt8)] ++ x2 ++ [(46 : UInt8)] ++ x3 ++ [(46 : UInt8)] ++ ([(74 : UInt8)] ++ x1))
                      else none
                    else none
                  else none
              else none
            else none
        else
          bif decide (r.snd.snd.snd.snd ≠ (7200 : Int)) then
            (F_r6Clock r.snd.snd.snd.snd).bind fun x2 =>
              bif decide ((1 : Nat) + x2.length ≤ (9223372036854775807 : Nat)) then
                bif decide (([(74 : UInt8)] ++ x1).length + ([(47 : UInt8)] ++ x2).length ≤ (9223372036854775807 : Nat)) then some ([(74 : UInt8)] ++ x1 ++ ([(47 : UInt8)] ++ x2)) else none
              else none
          else some ([(74 : UInt8)] ++ x1)
      else none
    else
      bif decide (r.fst = (3 : Int)) then
        (F_r2Raw (r.snd.fst, (1 : Int))).bind fun x2 =>
          bif decide ((1 : Nat) + x2.length ≤ (9223372036854775807 : Nat)) then
            bif decide (([(77 : UInt8)] ++ x2).length + (1 : Nat) ≤ (9223372036854775807 : Nat)) then
              (F_r2Raw (r.snd.snd.fst, (1 : Int))).bind fun x3 =>
                bif decide (([(77 : UInt8)] ++ x2 ++ [(46 : UInt8)]).length + x3.length ≤ (9223372036854775807 : Nat)) then
                  bif decide (([(77 : UInt8)] ++ x2 ++ [(46 : UInt8)] ++ x3).length + (1 : Nat) ≤ (9223372036854775807 : Nat)) then
                    bif decide (([(77 : UInt8)] ++ x2 ++ [(46 : UInt8)] ++ x3 ++ [(46 : UInt8)]).length + x1.length ≤ (9223372036854775807 : Nat)) then
                      bif decide (r.snd.snd.snd.snd ≠ (7200 : Int)) then
                        (F_r6Clock r.snd.snd.snd.snd).bind fun x4 =>
                          bif decide ((1 : Nat) + x4.length ≤ (9223372036854775807 : Nat)) then
                            bif decide (([(77 : UInt8)] ++ x2 ++ [(46 : UInt8)] ++ x3 ++ [(46 : UInt8)] ++ x1).length + ([(47 : UInt8)] ++ x4).length ≤ (9223372036854775807 : Nat)) then
                              some ([(77 : UInt8)] ++ x2 ++ [(46 : UInt8)] ++ x3 ++ [(46 : UInt8)] ++ x1 ++ ([(47 : UInt8)] ++ x4))
                            else none
                          else none
                      else some ([(77 : UInt8)] ++ x2 ++ [(46 : UInt8)] ++ x3 ++ [(46 : UInt8)] ++ x1)
                    else none
                  else none
                else none
            else none
          else none
      else
        bif decide (r.snd.snd.snd.snd ≠ (7200 : Int)) then
          (F_r6Clock r.snd.snd.snd.snd).bind fun x2 =>
            bif decide ((1 : Nat) + x2.length ≤ (9223372036854775807 : Nat)) then
              bif decide (x1.length + ([(47 : UInt8)] ++ x2).length ≤ (9223372036854775807 : Nat)) then some (x1 ++ ([(47 : UInt8)] ++ x2)) else none
            else none
        else some x1) := by kernel_rfl


/-! ### horologe/horologeref16.Parse -/
noncomputable abbrev ct_r6Parse : List (FuncId × Bool × SpecT) := [(96, false, s_r6number), (95, false, s_r6parts), (49, false, s_r6ParseClock), (69, false, s_r6Check)]
theorem cs_r6Parse : AllSound Tryd.prog ct_r6Parse := ⟨so_r6number, so_r6parts, so_r6ParseClock, so_r6Check, trivial⟩
-- loop 0 (key 2) exit 0: [0, 2, 4]
-- loop 0 (key 2) exit 3: [0, 2, 4]
-- loop 1 (key 15) exit 0: [0, 2, 4, 6, 7, 8, 9]
-- loop 1 (key 15) exit 5: [0, 2, 4, 6, 7]
abbrev kp_r6Parse : Keep := keepT [(2, 0, [(0, none), (2, none), (4, none)]), (2, 3, [(0, none), (2, none), (4, none)]), (15, 0, [(0, none), (2, none), (4, none), (6, none), (7, none), (8, none), (9, none)]), (15, 5, [(0, none), (2, none), (4, none), (6, none), (7, none)])]
noncomputable abbrev b_r6Parse_0 : Code := loopAt Tryd.f50 0
noncomputable abbrev b_r6Parse_1 : Code := loopAt Tryd.f50 1
noncomputable def sp_r6Parse_0 (x : ((List UInt8) × (Int × Int × Int × Int × Int) × Int)) : Option (((List UInt8) × (Int × Int × Int × Int × Int) × Int) ⊕ ((List UInt8) × (Int × Int × Int × Int × Int) × Int)) := (stepL Tryd.prog (lookT ct_r6Parse) kp_r6Parse (loopsT []) 0 false b_r6Parse_0 (codP [pS, (.box cRule), pI]) (exO (.ext 0) (codP [pS, (.box cRule), pI])) x).run
noncomputable def w_r6Parse_0 : ((List UInt8) × (Int × Int × Int × Int × Int) × Int) → Option ((List UInt8) × (Int × Int × Int × Int × Int) × Int) := whileO sp_r6Parse_0
theorem ew_r6Parse_0 (x : ((List UInt8) × (Int × Int × Int × Int × Int) × Int)) : w_r6Parse_0 x = (sp_r6Parse_0 x).bind (Sum.elim w_r6Parse_0 some) := whileO_eq _ _
noncomputable abbrev l_r6Parse_0 : LT := ltF (codP [pS, (.box cRule), pI]) (exO (.ext 0) (codP [pS, (.box cRule), pI])) w_r6Parse_0
theorem lo_r6Parse_0 : LoopOk Tryd.prog Tryd.f50.ntmps kp_r6Parse 0 false b_r6Parse_0 l_r6Parse_0 := loopG mixed cs_r6Parse (lps := loopsT []) (by kernel_rfl) (ls := []) (by kernel_rfl) lps_nil
noncomputable def F_r6Parse (x : ((List UInt8))) : Option ((Int × Int × Int × Int × Int) × Int) := (evalF Tryd.prog (lookT ct_r6Parse) (kp_r6Parse) (loopsT [(2, l_r6Parse_0)]) false false Tryd.f50 (codP [pS]) 2 (codP [pRule, pI]) x).run
noncomputable abbrev s_r6Parse : SpecT := specF (codP [pS]) 2 (codP [pRule, pI]) F_r6Parse
theorem so_r6Parse : SoundT Tryd.prog 50 s_r6Parse := soundG (P := Tryd.prog) mixed (t := ct_r6Parse) cs_r6Parse (f := 50) (fn := Tryd.f50) Tryd.func50 (by kernel_rfl) (by kernel_rfl) (by kernel_rfl) (ls := [b_r6Parse_0, b_r6Parse_1]) (by kernel_rfl) (kp := kp_r6Parse) (lps := loopsT [(2, l_r6Parse_0)]) (bump := false) (ice := false) (A := (codP [pS])) (n := 2) (R := (codP [pRule, pI])) fun _ => (lps_cons l_r6Parse_0 (by kernel_rfl) lo_r6Parse_0 (lps_skip (by kernel_rfl) lps_nil))

theorem es_r6Parse_0 (s : List UInt8) (k m w d t i : Int) : sp_r6Parse_0 (s, (k, m, w, d, t), i) = (
  bif decide (i < (↑s.length : Int)) then
    (getI s i).bind fun x1 => bif decide (x1 ≠ (47 : UInt8)) then some (Sum.inl (s, (k, m, w, d, t), IntKind.i64.wrap (i + (1 : Int)))) else some (Sum.inr (s, (k, m, w, d, t), i))
  else some (Sum.inr (s, (k, m, w, d, t), i))) := by kernel_rfl

theorem e_r6Parse (s : List UInt8) : F_r6Parse s = (
  (w_r6Parse_0 (s, ((0 : Int), (0 : Int), (0 : Int), (0 : Int), (0 : Int)), (0 : Int))).bind fun x1 =>
    (subI x1.fst (0 : Int) x1.snd.snd).bind fun x2 =>
      bif decide ((0 : Int) < (↑x2.length : Int)) then
        (getI x2 (0 : Int)).bind fun x3 =>
          bif decide (x3 = (74 : UInt8)) then
            (subI x2 (1 : Int) (↑x2.length : Int)).bind fun x4 =>
              (F_r6number (x4, (1 : Int), (3 : Int))).bind fun x5 =>
                bif !x5.snd then some (((0 : Int), (0 : Int), (0 : Int), (0 : Int), (0 : Int)), (2 : Int))
                else
                  bif decide (x1.snd.snd < (↑(List.length x1.fst) : Int)) then
                    (subI x1.fst (IntKind.i64.wrap (x1.snd.snd + (1 : Int))) (↑(List.length x1.fst) : Int)).bind fun x6 =>
                      (F_r6ParseClock (x6, (167 : Int))).bind fun x7 =>
                        bif decide (x7.snd ≠ (0 : Int)) then some (((0 : Int), (0 : Int), (0 : Int), (0 : Int), (0 : Int)), x7.snd)
                        else
                          (F_r6Check ((1 : Int), (0 : Int), (0 : Int), x5.fst, x7.fst)).bind fun x8 =>
                            bif decide (x8 ≠ (0 : Int)) then some (((0 : Int), (0 : Int), (0 : Int), (0 : Int), (0 : Int)), x8) else some (((1 : Int), (0 : Int), (0 : Int), x5.fst, x7.fst), (0 : Int))
                  else
                    (F_r6Check ((1 : Int), (0 : Int), (0 : Int), x5.fst, (7200 : Int))).bind fun x6 =>
                      bif decide (x6 ≠ (0 : Int)) then some (((0 : Int), (0 : Int), (0 : Int), (0 : Int), (0 : Int)), x6) else some (((1 : Int), (0 : Int), (0 : Int), x5.fst, (7200 : Int)), (0 : Int))
          else
            bif decide ((0 : Int) < (↑x2.length : Int)) then
              (getI x2 (0 : Int)).bind fun x4 =>
                bif decide (x4 = (77 : UInt8)) then
                  (subI x2 (1 : Int) (↑x2.length : Int)).bind fun x5 =>
                    (F_r6parts (x5, (46 : UInt8))).bind fun x6 =>
                      bif decide ((↑x6.length : Int) = (3 : Int)) then
                        (getI x6 (0 : Int)).bind fun x7 =>
                          (F_r6number (x7, (1 : Int), (2 : Int))).bind fun x8 =>
                            bif x8.snd then
                              (getI x6 (1 : Int)).bind fun x9 =>
                                (F_r6number (x9, (1 : Int), (1 : Int))).bind fun x10 =>
                                  bif x10.snd then
                                    (getI x6 (2 : Int)).bind fun x11 =>
                                      (F_r6number (x11, (1 : Int), (1 : Int))).bind fun x12 =>
                                        bif !x12.snd then some (((0 : Int), (0 : Int), (0 : Int), (0 : Int), (0 : Int)), (2 : Int))
                                        else
                                          bif decide (x1.snd.snd < (↑(List.length x1.fst) : Int)) then
                                            (subI x1.fst (IntKind.i64.wrap (x1.snd.snd + (1 : Int))) (↑(List.length x1.fst) : Int)).bind fun x13 =>
                                              (F_r6ParseClock (x13, (167 : Int))).bind fun x14 =>
                                                bif decide (x14.snd ≠ (0 : Int)) then some (((0 : Int), (0 : Int), (0 : Int), (0 : Int), (0 : Int)), x14.snd)
                                                else
                                                  (F_r6Check ((3 : Int), x8.fst, x10.fst, x12.fst, x14.fst)).bind fun x15 =>
                                                    bif decide (x15 ≠ (0 : Int)) then some (((0 : Int), (0 : Int), (0 : Int), (0 : Int), (0 : Int)), x15)
                                                    else some (((3 : Int), x8.fst, x10.fst, x12.fst, x14.fst), (0 : Int))
                                          else
                                            (F_r6Check ((3 : Int), x8.fst, x10.fst, x12.fst, (7200 : Int))).bind fun x13 =>
                                              bif decide (x13 ≠ (0 : Int)) then some (((0 : Int), (0 : Int), (0 : Int), (0 : Int), (0 : Int)), x13)
                                              else some (((3 : Int), x8.fst, x10.fst, x12.fst, (7200 : Int)), (0 : Int))
                                  else
                                    bif !x10.snd then some (((0 : Int), (0 : Int), (0 : Int), (0 : Int), (0 : Int)), (2 : Int))
                                    else
                                      bif decide (x1.snd.snd < (↑(List.length x1.fst) : Int)) then
                                        (subI x1.fst (IntKind.i64.wrap (x1.snd.snd + (1 : Int))) (↑(List.length x1.fst) : Int)).bind fun x11 =>
                                          (F_r6ParseClock (x11, (167 : Int))).bind fun x12 =>
                                            bif decide (x12.snd ≠ (0 : Int)) then some (((0 : Int), (0 : Int), (0 : Int), (0 : Int), (0 : Int)), x12.snd)
                                            else
                                              (F_r6Check ((3 : Int), x8.fst, x10.fst, (0 : Int), x12.fst)).bind fun x13 =>
                                                bif decide (x13 ≠ (0 : Int)) then some (((0 : Int), (0 : Int), (0 : Int), (0 : Int), (0 : Int)), x13)
                                                else some (((3 : Int), x8.fst, x10.fst, (0 : Int), x12.fst), (0 : Int))
                                      else
                                        (F_r6Check ((3 : Int), x8.fst, x10.fst, (0 : Int), (7200 : Int))).bind fun x11 =>
                                          bif decide (x11 ≠ (0 : Int)) then some (((0 : Int), (0 : Int), (0 : Int), (0 : Int), (0 : Int)), x11)
                                          else some (((3 : Int), x8.fst, x10.fst, (0 : Int), (7200 : Int)), (0 : Int))
                            else
                              bif !x8.snd then some (((0 : Int), (0 : Int), (0 : Int), (0 : Int), (0 : Int)), (2 : Int))
                              else
                                bif decide (x1.snd.snd < (↑(List.length x1.fst) : Int)) then
                                  (subI x1.fst (IntKind.i64.wrap (x1.snd.snd + (1 : Int))) (↑(List.length x1.fst) : Int)).bind fun x9 =>
                                    (F_r6ParseClock (x9, (167 : Int))).bind fun x10 =>
                                      bif decide (x10.snd ≠ (0 : Int)) then some (((0 : Int), (0 : Int), (0 : Int), (0 : Int), (0 : Int)), x10.snd)
                                      else
                                        (F_r6Check ((3 : Int), x8.fst, (0 : Int), (0 : Int), x10.fst)).bind fun x11 =>
                                          bif decide (x11 ≠ (0 : Int)) then some (((0 : Int), (0 : Int), (0 : Int), (0 : Int), (0 : Int)), x11)
                                          else some (((3 : Int), x8.fst, (0 : Int), (0 : Int), x10.fst), (0 : Int))
                                else
                                  (F_r6Check ((3 : Int), x8.fst, (0 : Int), (0 : Int), (7200 : Int))).bind fun x9 =>
                                    bif decide (x9 ≠ (0 : Int)) then some (((0 : Int), (0 : Int), (0 : Int), (0 : Int), (0 : Int)), x9)
                                    else some (((3 : Int), x8.fst, (0 : Int), (0 : Int), (7200 : Int)), (0 : Int))
                      else
                        bif !decide ((↑x6.length : Int) = (3 : Int)) then some (((0 : Int), (0 : Int), (0 : Int), (0 : Int), (0 : Int)), (2 : Int))
                        else
                          bif decide (x1.snd.snd < (↑(List.length x1.fst) : Int)) then
                            (subI x1.fst (IntKind.i64.wrap (x1.snd.snd + (1 : Int))) (↑(List.length x1.fst) : Int)).bind fun x7 =>
                              (F_r6ParseClock (x7, (167 : Int))).bind fun x8 =>
                                bif decide (x8.snd ≠ (0 : Int)) then some (((0 : Int), (0 : Int), (0 : Int), (0 : Int), (0 : Int)), x8.snd)
                                else
                                  (F_r6Check ((3 : Int), (0 : Int), (0 : Int), (0 : Int), x8.fst)).bind fun x9 =>
                                    bif decide (x9 ≠ (0 : Int)) then some (((0 : Int), (0 : Int), (0 : Int), (0 : Int), (0 : Int)), x9)
                                    else some (((3 : Int), (0 : Int), (0 : Int), (0 : Int), x8.fst), (0 : Int))
                          else
                            (F_r6Check ((3 : Int), (0 : Int), (0 : Int), (0 : Int), (7200 : Int))).bind fun x7 =>
                              bif decide (x7 ≠ (0 : Int)) then some (((0 : Int), (0 : Int), (0 : Int), (0 : Int), (0 : Int)), x7)
                              else some (((3 : Int), (0 : Int), (0 : Int), (0 : Int), (7200 : Int)), (0 : Int))
                else
                  (F_r6number (x2, (1 : Int), (3 : Int))).bind fun x5 =>
                    bif !x5.snd then some (((0 : Int), (0 : Int), (0 : Int), (0 : Int), (0 : Int)), (2 : Int))
                    else
                      bif decide (x1.snd.snd < (↑(List.length x1.fst) : Int)) then
                        (subI x1.fst (IntKind.i64.wrap (x1.snd.snd + (1 : Int))) (↑(List.length x1.fst) : Int)).bind fun x6 =>
                          (F_r6ParseClock (x6, (167 : Int))).bind fun x7 =>
                            bif decide (x7.snd ≠ (0 : Int)) then some (((0 : Int), (0 : Int), (0 : Int), (0 : Int), (0 : Int)), x7.snd)
                            else
                              (F_r6Check ((2 : Int), (0 : Int), (0 : Int), x5.fst, x7.fst)).bind fun x8 =>
                                bif decide (x8 ≠ (0 : Int)) then some (((0 : Int), (0 : Int), (0 : Int), (0 : Int), (0 : Int)), x8)
                                else some (((2 : Int), (0 : Int), (0 : Int), x5.fst, x7.fst), (0 : Int))
                      else
                        (F_r6Check ((2 : Int), (0 : Int), (0 : Int), x5.fst, (7200 : Int))).bind fun x6 =>
                          bif decide (x6 ≠ (0 : Int)) then some (((0 : Int), (0 : Int), (0 : Int), (0 : Int), (0 : Int)), x6)
                          else some (((2 : Int), (0 : Int), (0 : Int), x5.fst, (7200 : Int)), (0 : Int))
            else
              (F_r6number (x2, (1 : Int), (3 : Int))).bind fun x4 =>
                bif !x4.snd then some (((0 : Int), (0 : Int), (0 : Int), (0 : Int), (0 : Int)), (2 : Int))
                else
                  bif decide (x1.snd.snd < (↑(List.length x1.fst) : Int)) then
                    (subI x1.fst (IntKind.i64.wrap (x1.snd.snd + (1 : Int))) (↑(List.length x1.fst) : Int)).bind fun x5 =>
                      (F_r6ParseClock (x5, (167 : Int))).bind fun x6 =>
                        bif decide (x6.snd ≠ (0 : Int)) then some (((0 : Int), (0 : Int), (0 : Int), (0 : Int), (0 : Int)), x6.snd)
                        else
                          (F_r6Check ((2 : Int), (0 : Int), (0 : Int), x4.fst, x6.fst)).bind fun x7 =>
                            bif decide (x7 ≠ (0 : Int)) then some (((0 : Int), (0 : Int), (0 : Int), (0 : Int), (0 : Int)), x7) else some (((2 : Int), (0 : Int), (0 : Int), x4.fst, x6.fst), (0 : Int))
                  else
                    (F_r6Check ((2 : Int), (0 : Int), (0 : Int), x4.fst, (7200 : Int))).bind fun x5 =>
                      bif decide (x5 ≠ (0 : Int)) then some (((0 : Int), (0 : Int), (0 : Int), (0 : Int), (0 : Int)), x5) else some (((2 : Int), (0 : Int), (0 : Int), x4.fst, (7200 : Int)), (0 : Int))
      else
        bif decide ((0 : Int) < (↑x2.length : Int)) then
          (getI x2 (0 : Int)).bind fun x3 =>
            bif decide (x3 = (77 : UInt8)) then
              (subI x2 (1 : Int) (↑x2.length : Int)).bind fun x4 =>
                (F_r6parts (x4, (46 : UInt8))).bind fun x5 =>
                  bif decide ((↑x5.length : Int) = (3 : Int)) then
                    (getI x5 (0 : Int)).bind fun x6 =>
                      (F_r6number (x6, (1 : Int), (2 : Int))).bind fun x7 =>
                        bif x7.snd then
                          (getI x5 (1 : Int)).bind fun x8 =>
                            (F_r6number (x8, (1 : Int), (1 : Int))).bind fun x9 =>
                              bif x9.snd then
                                (getI x5 (2 : Int)).bind fun x10 =>
                                  (F_r6number (x10, (1 : Int), (1 : Int))).bind fun x11 =>
                                    bif !x11.snd then some (((0 : Int), (0 : Int), (0 : Int), (0 : Int), (0 : Int)), (2 : Int))
                                    else
                                      bif decide (x1.snd.snd < (↑(List.length x1.fst) : Int)) then
                                        (subI x1.fst (IntKind.i64.wrap (x1.snd.snd + (1 : Int))) (↑(List.length x1.fst) : Int)).bind fun x12 =>
                                          (F_r6ParseClock (x12, (167 : Int))).bind fun x13 =>
                                            bif decide (x13.snd ≠ (0 : Int)) then some (((0 : Int), (0 : Int), (0 : Int), (0 : Int), (0 : Int)), x13.snd)
                                            else
                                              (F_r6Check ((3 : Int), x7.fst, x9.fst, x11.fst, x13.fst)).bind fun x14 =>
                                                bif decide (x14 ≠ (0 : Int)) then some (((0 : Int), (0 : Int), (0 : Int), (0 : Int), (0 : Int)), x14)
                                                else some (((3 : Int), x7.fst, x9.fst, x11.fst, x13.fst), (0 : Int))
                                      else
                                        (F_r6Check ((3 : Int), x7.fst, x9.fst, x11.fst, (7200 : Int))).bind fun x12 =>
                                          bif decide (x12 ≠ (0 : Int)) then some (((0 : Int), (0 : Int), (0 : Int), (0 : Int), (0 : Int)), x12)
                                          else some (((3 : Int), x7.fst, x9.fst, x11.fst, (7200 : Int)), (0 : Int))
                              else
                                bif !x9.snd then some (((0 : Int), (0 : Int), (0 : Int), (0 : Int), (0 : Int)), (2 : Int))
                                else
                                  bif decide (x1.snd.snd < (↑(List.length x1.fst) : Int)) then
                                    (subI x1.fst (IntKind.i64.wrap (x1.snd.snd + (1 : Int))) (↑(List.length x1.fst) : Int)).bind fun x10 =>
                                      (F_r6ParseClock (x10, (167 : Int))).bind fun x11 =>
                                        bif decide (x11.snd ≠ (0 : Int)) then some (((0 : Int), (0 : Int), (0 : Int), (0 : Int), (0 : Int)), x11.snd)
                                        else
                                          (F_r6Check ((3 : Int), x7.fst, x9.fst, (0 : Int), x11.fst)).bind fun x12 =>
                                            bif decide (x12 ≠ (0 : Int)) then some (((0 : Int), (0 : Int), (0 : Int), (0 : Int), (0 : Int)), x12)
                                            else some (((3 : Int), x7.fst, x9.fst, (0 : Int), x11.fst), (0 : Int))
                                  else
                                    (F_r6Check ((3 : Int), x7.fst, x9.fst, (0 : Int), (7200 : Int))).bind fun x10 =>
                                      bif decide (x10 ≠ (0 : Int)) then some (((0 : Int), (0 : Int), (0 : Int), (0 : Int), (0 : Int)), x10)
                                      else some (((3 : Int), x7.fst, x9.fst, (0 : Int), (7200 : Int)), (0 : Int))
                        else
                          bif !x7.snd then some (((0 : Int), (0 : Int), (0 : Int), (0 : Int), (0 : Int)), (2 : Int))
                          else
                            bif decide (x1.snd.snd < (↑(List.length x1.fst) : Int)) then
                              (subI x1.fst (IntKind.i64.wrap (x1.snd.snd + (1 : Int))) (↑(List.length x1.fst) : Int)).bind fun x8 =>
                                (F_r6ParseClock (x8, (167 : Int))).bind fun x9 =>
                                  bif decide (x9.snd ≠ (0 : Int)) then some (((0 : Int), (0 : Int), (0 : Int), (0 : Int), (0 : Int)), x9.snd)
                                  else
                                    (F_r6Check ((3 : Int), x7.fst, (0 : Int), (0 : Int), x9.fst)).bind fun x10 =>
                                      bif decide (x10 ≠ (0 : Int)) then some (((0 : Int), (0 : Int), (0 : Int), (0 : Int), (0 : Int)), x10)
                                      else some (((3 : Int), x7.fst, (0 : Int), (0 : Int), x9.fst), (0 : Int))
                            else
                              (F_r6Check ((3 : Int), x7.fst, (0 : Int), (0 : Int), (7200 : Int))).bind fun x8 =>
                                bif decide (x8 ≠ (0 : Int)) then some (((0 : Int), (0 : Int), (0 : Int), (0 : Int), (0 : Int)), x8)
                                else some (((3 : Int), x7.fst, (0 : Int), (0 : Int), (7200 : Int)), (0 : Int))
                  else
                    bif !decide ((↑x5.length : Int) = (3 : Int)) then some (((0 : Int), (0 : Int), (0 : Int), (0 : Int), (0 : Int)), (2 : Int))
                    else
                      bif decide (x1.snd.snd < (↑(List.length x1.fst) : Int)) then
                        (subI x1.fst (IntKind.i64.wrap (x1.snd.snd + (1 : Int))) (↑(List.length x1.fst) : Int)).bind fun x6 =>
                          (F_r6ParseClock (x6, (167 : Int))).bind fun x7 =>
                            bif decide (x7.snd ≠ (0 : Int)) then some (((0 : Int), (0 : Int), (0 : Int), (0 : Int), (0 : Int)), x7.snd)
                            else
                              (F_r6Check ((3 : Int), (0 : Int), (0 : Int), (0 : Int), x7.fst)).bind fun x8 =>
                                bif decide (x8 ≠ (0 : Int)) then some (((0 : Int), (0 : Int), (0 : Int), (0 : Int), (0 : Int)), x8)
                                else some (((3 : Int), (0 : Int), (0 : Int), (0 : Int), x7.fst), (0 : Int))
                      else
                        (F_r6Check ((3 : Int), (0 : Int), (0 : Int), (0 : Int), (7200 : Int))).bind fun x6 =>
                          bif decide (x6 ≠ (0 : Int)) then some (((0 : Int), (0 : Int), (0 : Int), (0 : Int), (0 : Int)), x6)
                          else some (((3 : Int), (0 : Int), (0 : Int), (0 : Int), (7200 : Int)), (0 : Int))
            else
              (F_r6number (x2, (1 : Int), (3 : Int))).bind fun x4 =>
                bif !x4.snd then some (((0 : Int), (0 : Int), (0 : Int), (0 : Int), (0 : Int)), (2 : Int))
                else
                  bif decide (x1.snd.snd < (↑(List.length x1.fst) : Int)) then
                    (subI x1.fst (IntKind.i64.wrap (x1.snd.snd + (1 : Int))) (↑(List.length x1.fst) : Int)).bind fun x5 =>
                      (F_r6ParseClock (x5, (167 : Int))).bind fun x6 =>
                        bif decide (x6.snd ≠ (0 : Int)) then some (((0 : Int), (0 : Int), (0 : Int), (0 : Int), (0 : Int)), x6.snd)
                        else
                          (F_r6Check ((2 : Int), (0 : Int), (0 : Int), x4.fst, x6.fst)).bind fun x7 =>
                            bif decide (x7 ≠ (0 : Int)) then some (((0 : Int), (0 : Int), (0 : Int), (0 : Int), (0 : Int)), x7) else some (((2 : Int), (0 : Int), (0 : Int), x4.fst, x6.fst), (0 : Int))
                  else
                    (F_r6Check ((2 : Int), (0 : Int), (0 : Int), x4.fst, (7200 : Int))).bind fun x5 =>
                      bif decide (x5 ≠ (0 : Int)) then some (((0 : Int), (0 : Int), (0 : Int), (0 : Int), (0 : Int)), x5) else some (((2 : Int), (0 : Int), (0 : Int), x4.fst, (7200 : Int)), (0 : Int))
        else
          (F_r6number (x2, (1 : Int), (3 : Int))).bind fun x3 =>
            bif !x3.snd then some (((0 : Int), (0 : Int), (0 : Int), (0 : Int), (0 : Int)), (2 : Int))
            else
              bif decide (x1.snd.snd < (↑(List.length x1.fst) : Int)) then
                (subI x1.fst (IntKind.i64.wrap (x1.snd.snd + (1 : Int))) (↑(List.length x1.fst) : Int)).bind fun x4 =>
                  (F_r6ParseClock (x4, (167 : Int))).bind fun x5 =>
                    bif decide (x5.snd ≠ (0 : Int)) then some (((0 : Int), (0 : Int), (0 : Int), (0 : Int), (0 : Int)), x5.snd)
                    else
                      (F_r6Check ((2 : Int), (0 : Int), (0 : Int), x3.fst, x5.fst)).bind fun x6 =>
                        bif decide (x6 ≠ (0 : Int)) then some (((0 : Int), (0 : Int), (0 : Int), (0 : Int), (0 : Int)), x6) else some (((2 : Int), (0 : Int), (0 : Int), x3.fst, x5.fst), (0 : Int))
              else
                (F_r6Check ((2 : Int), (0 : Int), (0 : Int), x3.fst, (7200 : Int))).bind fun x4 =>
                  bif decide (x4 ≠ (0 : Int)) then some (((0 : Int), (0 : Int), (0 : Int), (0 : Int), (0 : Int)), x4) else some (((2 : Int), (0 : Int), (0 : Int), x3.fst, (7200 : Int)), (0 : Int))) := by kernel_rfl


/-! ### horologe/horologeref17.letter -/
noncomputable abbrev ct_r7letter : List (FuncId × Bool × SpecT) := []
theorem cs_r7letter : AllSound Tryd.prog ct_r7letter := trivial
noncomputable def F_r7letter (x : (UInt8)) : Option (Bool) := (evalF Tryd.prog (lookT ct_r7letter) (keepT []) (loopsT []) false false Tryd.f79 (codP [pU]) 1 (codP [pB]) x).run
noncomputable abbrev s_r7letter : SpecT := specF (codP [pU]) 1 (codP [pB]) F_r7letter
theorem so_r7letter : SoundT Tryd.prog 79 s_r7letter := soundG (P := Tryd.prog) mixed (t := ct_r7letter) cs_r7letter (f := 79) (fn := Tryd.f79) Tryd.func79 (by kernel_rfl) (by kernel_rfl) (by kernel_rfl) (ls := []) (by kernel_rfl) (kp := keepT []) (lps := loopsT []) (bump := false) (ice := false) (A := (codP [pU])) (n := 1) (R := (codP [pB])) fun _ => lps_nil

theorem e_r7letter (b : UInt8) : F_r7letter b = (
  bif decide ((65 : UInt8) ≤ b) then bif decide (b ≤ (90 : UInt8)) then some true else bif decide ((97 : UInt8) ≤ b) then some (decide (b ≤ (122 : UInt8))) else some false
  else bif decide ((97 : UInt8) ≤ b) then some (decide (b ≤ (122 : UInt8))) else some false) := by kernel_rfl


/-! ### horologe/horologeref17.figure -/
noncomputable abbrev ct_r7figure : List (FuncId × Bool × SpecT) := []
theorem cs_r7figure : AllSound Tryd.prog ct_r7figure := trivial
noncomputable def F_r7figure (x : (UInt8)) : Option (Bool) := (evalF Tryd.prog (lookT ct_r7figure) (keepT []) (loopsT []) false false Tryd.f80 (codP [pU]) 1 (codP [pB]) x).run
noncomputable abbrev s_r7figure : SpecT := specF (codP [pU]) 1 (codP [pB]) F_r7figure
theorem so_r7figure : SoundT Tryd.prog 80 s_r7figure := soundG (P := Tryd.prog) mixed (t := ct_r7figure) cs_r7figure (f := 80) (fn := Tryd.f80) Tryd.func80 (by kernel_rfl) (by kernel_rfl) (by kernel_rfl) (ls := []) (by kernel_rfl) (kp := keepT []) (lps := loopsT []) (bump := false) (ice := false) (A := (codP [pU])) (n := 1) (R := (codP [pB])) fun _ => lps_nil

theorem e_r7figure (b : UInt8) : F_r7figure b = (
  bif decide ((48 : UInt8) ≤ b) then some (decide (b ≤ (57 : UInt8))) else some false) := by kernel_rfl


/-! ### horologe/horologeref17.Name -/
noncomputable abbrev ct_r7Name : List (FuncId × Bool × SpecT) := [(79, false, s_r7letter), (80, false, s_r7figure)]
theorem cs_r7Name : AllSound Tryd.prog ct_r7Name := ⟨so_r7letter, so_r7figure, trivial⟩
-- loop 0 (key 2) exit 0: [0, 3]
-- loop 0 (key 2) exit 2: [2]
-- loop 0 (key 2) exit 3: [0]
abbrev kp_r7Name : Keep := keepT [(2, 0, [(0, none), (3, none)]), (2, 2, [(2, none)]), (2, 3, [(0, none)])]
noncomputable abbrev b_r7Name_0 : Code := loopAt Tryd.f35 0
noncomputable def sp_r7Name_0 (x : ((List UInt8) × Int)) : Option (((List UInt8) × Int) ⊕ ((Bool) ⊕ ((List UInt8)))) := (stepL Tryd.prog (lookT ct_r7Name) kp_r7Name (loopsT []) 0 false b_r7Name_0 (codP [pS, pI]) (exS (exO .ret (codP [pB])) (exO (.ext 0) (codP [pS]))) x).run
noncomputable def w_r7Name_0 : ((List UInt8) × Int) → Option ((Bool) ⊕ ((List UInt8))) := whileO sp_r7Name_0
theorem ew_r7Name_0 (x : ((List UInt8) × Int)) : w_r7Name_0 x = (sp_r7Name_0 x).bind (Sum.elim w_r7Name_0 some) := whileO_eq _ _
noncomputable abbrev l_r7Name_0 : LT := ltF (codP [pS, pI]) (exS (exO .ret (codP [pB])) (exO (.ext 0) (codP [pS]))) w_r7Name_0
theorem lo_r7Name_0 : LoopOk Tryd.prog Tryd.f35.ntmps kp_r7Name 0 false b_r7Name_0 l_r7Name_0 := loopG mixed cs_r7Name (lps := loopsT []) (by kernel_rfl) (ls := []) (by kernel_rfl) lps_nil
noncomputable def F_r7Name (x : ((List UInt8))) : Option (Bool) := (evalF Tryd.prog (lookT ct_r7Name) (kp_r7Name) (loopsT [(2, l_r7Name_0)]) false false Tryd.f35 (codP [pS]) 1 (codP [pB]) x).run
noncomputable abbrev s_r7Name : SpecT := specF (codP [pS]) 1 (codP [pB]) F_r7Name
theorem so_r7Name : SoundT Tryd.prog 35 s_r7Name := soundG (P := Tryd.prog) mixed (t := ct_r7Name) cs_r7Name (f := 35) (fn := Tryd.f35) Tryd.func35 (by kernel_rfl) (by kernel_rfl) (by kernel_rfl) (ls := [b_r7Name_0]) (by kernel_rfl) (kp := kp_r7Name) (lps := loopsT [(2, l_r7Name_0)]) (bump := false) (ice := false) (A := (codP [pS])) (n := 1) (R := (codP [pB])) fun _ => (lps_cons l_r7Name_0 (by kernel_rfl) lo_r7Name_0 lps_nil)

theorem es_r7Name_0 (s : List UInt8) (i : Int) : sp_r7Name_0 (s, i) = (
  bif decide (i < (↑s.length : Int)) then
    (getI s i).bind fun x1 =>
      (F_r7letter x1).bind fun x2 =>
        bif !x2 then
          (getI s i).bind fun x3 =>
            (F_r7figure x3).bind fun x4 =>
              bif !x4 then
                (getI s i).bind fun x5 =>
                  bif decide (x5 ≠ (43 : UInt8)) then
                    (getI s i).bind fun x6 => bif decide (x6 ≠ (45 : UInt8)) then some (Sum.inr (Sum.inl false)) else some (Sum.inl (s, IntKind.i64.wrap (i + (1 : Int))))
                  else some (Sum.inl (s, IntKind.i64.wrap (i + (1 : Int))))
              else some (Sum.inl (s, IntKind.i64.wrap (i + (1 : Int))))
        else some (Sum.inl (s, IntKind.i64.wrap (i + (1 : Int))))
  else some (Sum.inr (Sum.inr s))) := by kernel_rfl

theorem e_r7Name (s : List UInt8) : F_r7Name s = (
  (w_r7Name_0 (s, (0 : Int))).bind fun x1 => Sum.elim (fun x2 => some x2) (fun x2 => bif decide ((3 : Int) ≤ (↑x2.length : Int)) then some (decide ((↑x2.length : Int) ≤ (16 : Int))) else some false) x1) := by kernel_rfl


/-! ### horologe/horologeref17.Check -/
noncomputable abbrev ct_r7Check : List (FuncId × Bool × SpecT) := [(35, false, s_r7Name), (69, false, s_r6Check)]
theorem cs_r7Check : AllSound Tryd.prog ct_r7Check := ⟨so_r7Name, so_r6Check, trivial⟩
noncomputable def F_r7Check (x : ((List UInt8 × List UInt8 × Int × Int × (Int × Int × Int × Int × Int) × (Int × Int × Int × Int × Int)))) : Option (Int) := (evalF Tryd.prog (lookT ct_r7Check) (keepT []) (loopsT []) false false Tryd.f30 (codP [pPlan]) 1 (codP [pI]) x).run
noncomputable abbrev s_r7Check : SpecT := specF (codP [pPlan]) 1 (codP [pI]) F_r7Check
theorem so_r7Check : SoundT Tryd.prog 30 s_r7Check := soundG (P := Tryd.prog) mixed (t := ct_r7Check) cs_r7Check (f := 30) (fn := Tryd.f30) Tryd.func30 (by kernel_rfl) (by kernel_rfl) (by kernel_rfl) (ls := []) (by kernel_rfl) (kp := keepT []) (lps := loopsT []) (bump := false) (ice := false) (A := (codP [pPlan])) (n := 1) (R := (codP [pI])) fun _ => lps_nil

theorem e_r7Check (p : List UInt8 × List UInt8 × Int × Int × (Int × Int × Int × Int × Int) × (Int × Int × Int × Int × Int)) : F_r7Check p = (
  (F_r7Name p.fst).bind fun x1 =>
    bif !x1 then some (2 : Int)
    else
      bif decide ((↑(List.length p.snd.fst) : Int) = (0 : Int)) then
        bif decide (p.snd.snd.snd.fst ≠ (0 : Int)) then some (2 : Int)
        else
          bif
              !(decide (p.snd.snd.snd.snd.fst.fst = (0 : Int)) &&
                  (decide (p.snd.snd.snd.snd.fst.snd.fst = (0 : Int)) &&
                    (decide (p.snd.snd.snd.snd.fst.snd.snd.fst = (0 : Int)) &&
                      (decide (p.snd.snd.snd.snd.fst.snd.snd.snd.fst = (0 : Int)) && (decide (p.snd.snd.snd.snd.fst.snd.snd.snd.snd = (0 : Int)) && true))))) then
            some (2 : Int)
          else
            bif
                !(decide (p.snd.snd.snd.snd.snd.fst = (0 : Int)) &&
                    (decide (p.snd.snd.snd.snd.snd.snd.fst = (0 : Int)) &&
                      (decide (p.snd.snd.snd.snd.snd.snd.snd.fst = (0 : Int)) &&
                        (decide (p.snd.snd.snd.snd.snd.snd.snd.snd.fst = (0 : Int)) && (decide (p.snd.snd.snd.snd.snd.snd.snd.snd.snd = (0 : Int)) && true))))) then
              some (2 : Int)
            else
              bif decide ((0 : Int) < (↑(List.length p.snd.fst) : Int)) then
                (F_r7Name p.snd.fst).bind fun x2 =>
                  bif !x2 then some (2 : Int)
                  else
                    bif decide (p.snd.snd.fst < (-89999 : Int)) then some (1 : Int)
                    else
                      bif decide ((89999 : Int) < p.snd.snd.fst) then some (1 : Int)
                      else
                        bif decide (p.snd.snd.snd.fst < (-89999 : Int)) then some (1 : Int)
                        else
                          bif decide ((89999 : Int) < p.snd.snd.snd.fst) then some (1 : Int)
                          else
                            bif decide ((↑(List.length p.snd.fst) : Int) = (0 : Int)) then some (0 : Int)
                            else (F_r6Check p.snd.snd.snd.snd.fst).bind fun x3 => bif decide (x3 ≠ (0 : Int)) then some x3 else (F_r6Check p.snd.snd.snd.snd.snd).bind fun x4 => some x4
              else
                bif decide (p.snd.snd.fst < (-89999 : Int)) then some (1 : Int)
                else
                  bif decide ((89999 : Int) < p.snd.snd.fst) then some (1 : Int)
                  else
                    bif decide (p.snd.snd.snd.fst < (-89999 : Int)) then some (1 : Int)
                    else
                      bif decide ((89999 : Int) < p.snd.snd.snd.fst) then some (1 : Int)
                      else
                        bif decide ((↑(List.length p.snd.fst) : Int) = (0 : Int)) then some (0 : Int)
                        else (F_r6Check p.snd.snd.snd.snd.fst).bind fun x2 => bif decide (x2 ≠ (0 : Int)) then some x2 else (F_r6Check p.snd.snd.snd.snd.snd).bind fun x3 => some x3
      else
        bif decide ((0 : Int) < (↑(List.length p.snd.fst) : Int)) then
          (F_r7Name p.snd.fst).bind fun x2 =>
            bif !x2 then some (2 : Int)
            else
              bif decide (p.snd.snd.fst < (-89999 : Int)) then some (1 : Int)
              else
                bif decide ((89999 : Int) < p.snd.snd.fst) then some (1 : Int)
                else
                  bif decide (p.snd.snd.snd.fst < (-89999 : Int)) then some (1 : Int)
                  else
                    bif decide ((89999 : Int) < p.snd.snd.snd.fst) then some (1 : Int)
                    else
                      bif decide ((↑(List.length p.snd.fst) : Int) = (0 : Int)) then some (0 : Int)
                      else (F_r6Check p.snd.snd.snd.snd.fst).bind fun x3 => bif decide (x3 ≠ (0 : Int)) then some x3 else (F_r6Check p.snd.snd.snd.snd.snd).bind fun x4 => some x4
        else
          bif decide (p.snd.snd.fst < (-89999 : Int)) then some (1 : Int)
          else
            bif decide ((89999 : Int) < p.snd.snd.fst) then some (1 : Int)
            else
              bif decide (p.snd.snd.snd.fst < (-89999 : Int)) then some (1 : Int)
              else
                bif decide ((89999 : Int) < p.snd.snd.snd.fst) then some (1 : Int)
                else
                  bif decide ((↑(List.length p.snd.fst) : Int) = (0 : Int)) then some (0 : Int)
                  else (F_r6Check p.snd.snd.snd.snd.fst).bind fun x2 => bif decide (x2 ≠ (0 : Int)) then some x2 else (F_r6Check p.snd.snd.snd.snd.snd).bind fun x3 => some x3) := by kernel_rfl


/-! ### horologe/horologeref17.quoted -/
noncomputable abbrev ct_r7quoted : List (FuncId × Bool × SpecT) := [(79, false, s_r7letter)]
theorem cs_r7quoted : AllSound Tryd.prog ct_r7quoted := ⟨so_r7letter, trivial⟩
-- loop 0 (key 2) exit 0: [0, 3]
-- loop 0 (key 2) exit 2: [2]
-- loop 0 (key 2) exit 3: [0]
abbrev kp_r7quoted : Keep := keepT [(2, 0, [(0, none), (3, none)]), (2, 2, [(2, none)]), (2, 3, [(0, none)])]
noncomputable abbrev b_r7quoted_0 : Code := loopAt Tryd.f75 0
noncomputable def sp_r7quoted_0 (x : ((List UInt8) × Int)) : Option (((List UInt8) × Int) ⊕ (((List UInt8)) ⊕ ((List UInt8)))) := (stepL Tryd.prog (lookT ct_r7quoted) kp_r7quoted (loopsT []) 0 false b_r7quoted_0 (codP [pS, pI]) (exS (exO .ret (codP [pS])) (exO (.ext 0) (codP [pS]))) x).run
noncomputable def w_r7quoted_0 : ((List UInt8) × Int) → Option (((List UInt8)) ⊕ ((List UInt8))) := whileO sp_r7quoted_0
theorem ew_r7quoted_0 (x : ((List UInt8) × Int)) : w_r7quoted_0 x = (sp_r7quoted_0 x).bind (Sum.elim w_r7quoted_0 some) := whileO_eq _ _
noncomputable abbrev l_r7quoted_0 : LT := ltF (codP [pS, pI]) (exS (exO .ret (codP [pS])) (exO (.ext 0) (codP [pS]))) w_r7quoted_0
theorem lo_r7quoted_0 : LoopOk Tryd.prog Tryd.f75.ntmps kp_r7quoted 0 false b_r7quoted_0 l_r7quoted_0 := loopG mixed cs_r7quoted (lps := loopsT []) (by kernel_rfl) (ls := []) (by kernel_rfl) lps_nil
noncomputable def F_r7quoted (x : ((List UInt8))) : Option ((List UInt8)) := (evalF Tryd.prog (lookT ct_r7quoted) (kp_r7quoted) (loopsT [(2, l_r7quoted_0)]) false false Tryd.f75 (codP [pS]) 1 (codP [pS]) x).run
noncomputable abbrev s_r7quoted : SpecT := specF (codP [pS]) 1 (codP [pS]) F_r7quoted
theorem so_r7quoted : SoundT Tryd.prog 75 s_r7quoted := soundG (P := Tryd.prog) mixed (t := ct_r7quoted) cs_r7quoted (f := 75) (fn := Tryd.f75) Tryd.func75 (by kernel_rfl) (by kernel_rfl) (by kernel_rfl) (ls := [b_r7quoted_0]) (by kernel_rfl) (kp := kp_r7quoted) (lps := loopsT [(2, l_r7quoted_0)]) (bump := false) (ice := false) (A := (codP [pS])) (n := 1) (R := (codP [pS])) fun _ => (lps_cons l_r7quoted_0 (by kernel_rfl) lo_r7quoted_0 lps_nil)

theorem es_r7quoted_0 (s : List UInt8) (i : Int) : sp_r7quoted_0 (s, i) = (
  bif decide (i < (↑s.length : Int)) then
    (getI s i).bind fun x1 =>
      (F_r7letter x1).bind fun x2 =>
        bif !x2 then
          bif decide ((1 : Nat) + s.length ≤ (9223372036854775807 : Nat)) then
            bif decide (([(60 : UInt8)] ++ s).length + (1 : Nat) ≤ (9223372036854775807 : Nat)) then some (Sum.inr (Sum.inl ([(60 : UInt8)] ++ s ++ [(62 : UInt8)]))) else none
          else none
        else some (Sum.inl (s, IntKind.i64.wrap (i + (1 : Int))))
  else some (Sum.inr (Sum.inr s))) := by kernel_rfl

theorem e_r7quoted (s : List UInt8) : F_r7quoted s = (
  (w_r7quoted_0 (s, (0 : Int))).bind fun x1 => Sum.elim (fun x2 => some x2) (fun x2 => some x2) x1) := by kernel_rfl


/-! ### horologe/horologeref17.Put -/
noncomputable abbrev ct_r7Put : List (FuncId × Bool × SpecT) := [(75, false, s_r7quoted), (76, false, s_r6Clock), (77, false, s_r6Put)]
theorem cs_r7Put : AllSound Tryd.prog ct_r7Put := ⟨so_r7quoted, so_r6Clock, so_r6Put, trivial⟩
noncomputable def F_r7Put (x : ((List UInt8 × List UInt8 × Int × Int × (Int × Int × Int × Int × Int) × (Int × Int × Int × Int × Int)))) : Option ((List UInt8)) := (evalF Tryd.prog (lookT ct_r7Put) (keepT []) (loopsT []) false false Tryd.f32 (codP [pPlan]) 1 (codP [pS]) x).run
noncomputable abbrev s_r7Put : SpecT := specF (codP [pPlan]) 1 (codP [pS]) F_r7Put
theorem so_r7Put : SoundT Tryd.prog 32 s_r7Put := soundG (P := Tryd.prog) mixed (t := ct_r7Put) cs_r7Put (f := 32) (fn := Tryd.f32) Tryd.func32 (by kernel_rfl) (by kernel_rfl) (by kernel_rfl) (ls := []) (by kernel_rfl) (kp := keepT []) (lps := loopsT []) (bump := false) (ice := false) (A := (codP [pPlan])) (n := 1) (R := (codP [pS])) fun _ => lps_nil

theorem e_r7Put (p : List UInt8 × List UInt8 × Int × Int × (Int × Int × Int × Int × Int) × (Int × Int × Int × Int × Int)) : F_r7Put p = (
  (F_r7quoted p.fst).bind fun x1 =>
    (F_r6Clock (IntKind.i64.wrap ((0 : Int) - p.snd.snd.fst))).bind fun x2 =>
      bif decide (x1.length + x2.length ≤ (9223372036854775807 : Nat)) then
        bif decide ((↑(List.length p.snd.fst) : Int) = (0 : Int)) then some (x1 ++ x2)
        else
          (F_r7quoted p.snd.fst).bind fun x3 =>
            bif decide ((x1 ++ x2).length + x3.length ≤ (9223372036854775807 : Nat)) then
              bif decide (IntKind.i64.wrap (p.snd.snd.snd.fst - p.snd.snd.fst) ≠ (3600 : Int)) then
                (F_r6Clock (IntKind.i64.wrap ((0 : Int) - p.snd.snd.snd.fst))).bind fun x4 =>
                  bif decide ((x1 ++ x2 ++ x3).length + x4.length ≤ (9223372036854775807 : Nat)) then
                    bif decide ((x1 ++ x2 ++ x3 ++ x4).length + (1 : Nat) ≤ (9223372036854775807 : Nat)) then
                      (F_r6Put p.snd.snd.snd.snd.fst).bind fun x5 =>
                        bif decide ((x1 ++ x2 ++ x3 ++ x4 ++ [(44 : UInt8)]).length + x5.length ≤ (9223372036854775807 : Nat)) then
                          bif decide ((x1 ++ x2 ++ x3 ++ x4 ++ [(44 : UInt8)] ++ x5).length + (1 : Nat) ≤ (9223372036854775807 : Nat)) then
                            (F_r6Put p.snd.snd.snd.snd.snd).bind fun x6 =>
                              bif decide ((x1 ++ x2 ++ x3 ++ x4 ++ [(44 : UInt8)] ++ x5 ++ [(44 : UInt8)]).length + x6.length ≤ (9223372036854775807 : Nat)) then
                                some (x1 ++ x2 ++ x3 ++ x4 ++ [(44 : UInt8)] ++ x5 ++ [(44 : UInt8)] ++ x6)
                              else none
                          else none
                        else none
                    else none
                  else none
              else
                bif decide ((x1 ++ x2 ++ x3).length + (1 : Nat) ≤ (9223372036854775807 : Nat)) then
                  (F_r6Put p.snd.snd.snd.snd.fst).bind fun x4 =>
                    bif decide ((x1 ++ x2 ++ x3 ++ [(44 : UInt8)]).length + x4.length ≤ (9223372036854775807 : Nat)) then
                      bif decide ((x1 ++ x2 ++ x3 ++ [(44 : UInt8)] ++ x4).length + (1 : Nat) ≤ (9223372036854775807 : Nat)) then
                        (F_r6Put p.snd.snd.snd.snd.snd).bind fun x5 =>
                          bif decide ((x1 ++ x2 ++ x3 ++ [(44 : UInt8)] ++ x4 ++ [(44 : UInt8)]).length + x5.length ≤ (9223372036854775807 : Nat)) then
                            some (x1 ++ x2 ++ x3 ++ [(44 : UInt8)] ++ x4 ++ [(44 : UInt8)] ++ x5)
                          else none
                      else none
                    else none
                else none
            else none
      else none) := by kernel_rfl


/-! ### horologe/horologeref17.name -/
noncomputable abbrev ct_r7name : List (FuncId × Bool × SpecT) := [(35, false, s_r7Name), (79, false, s_r7letter)]
theorem cs_r7name : AllSound Tryd.prog ct_r7name := ⟨so_r7Name, so_r7letter, trivial⟩
-- loop 0 (key 3) exit 0: [0, 1, 6]
-- loop 0 (key 3) exit 3: [0, 1, 6]
-- loop 1 (key 9) exit 0: [0, 1, 7]
-- loop 1 (key 9) exit 5: [0, 1, 7]
abbrev kp_r7name : Keep := keepT [(3, 0, [(0, none), (1, none), (6, none)]), (3, 3, [(0, none), (1, none), (6, none)]), (9, 0, [(0, none), (1, none), (7, none)]), (9, 5, [(0, none), (1, none), (7, none)])]
noncomputable abbrev b_r7name_0 : Code := loopAt Tryd.f47 0
noncomputable abbrev b_r7name_1 : Code := loopAt Tryd.f47 1
noncomputable def sp_r7name_1 (x : ((List UInt8) × Int × Int)) : Option (((List UInt8) × Int × Int) ⊕ ((List UInt8) × Int × Int)) := (stepL Tryd.prog (lookT ct_r7name) kp_r7name (loopsT []) 0 false b_r7name_1 (codP [pS, pI, pI]) (exO (.ext 2) (codP [pS, pI, pI])) x).run
noncomputable def w_r7name_1 : ((List UInt8) × Int × Int) → Option ((List UInt8) × Int × Int) := whileO sp_r7name_1
theorem ew_r7name_1 (x : ((List UInt8) × Int × Int)) : w_r7name_1 x = (sp_r7name_1 x).bind (Sum.elim w_r7name_1 some) := whileO_eq _ _
noncomputable abbrev l_r7name_1 : LT := ltF (codP [pS, pI, pI]) (exO (.ext 2) (codP [pS, pI, pI])) w_r7name_1
theorem lo_r7name_1 : LoopOk Tryd.prog Tryd.f47.ntmps kp_r7name 0 false b_r7name_1 l_r7name_1 := loopG mixed cs_r7name (lps := loopsT []) (by kernel_rfl) (ls := []) (by kernel_rfl) lps_nil
noncomputable def sp_r7name_0 (x : ((List UInt8) × Int × Int)) : Option (((List UInt8) × Int × Int) ⊕ ((List UInt8) × Int × Int)) := (stepL Tryd.prog (lookT ct_r7name) kp_r7name (loopsT []) 0 false b_r7name_0 (codP [pS, pI, pI]) (exO (.ext 0) (codP [pS, pI, pI])) x).run
noncomputable def w_r7name_0 : ((List UInt8) × Int × Int) → Option ((List UInt8) × Int × Int) := whileO sp_r7name_0
theorem ew_r7name_0 (x : ((List UInt8) × Int × Int)) : w_r7name_0 x = (sp_r7name_0 x).bind (Sum.elim w_r7name_0 some) := whileO_eq _ _
noncomputable abbrev l_r7name_0 : LT := ltF (codP [pS, pI, pI]) (exO (.ext 0) (codP [pS, pI, pI])) w_r7name_0
theorem lo_r7name_0 : LoopOk Tryd.prog Tryd.f47.ntmps kp_r7name 0 false b_r7name_0 l_r7name_0 := loopG mixed cs_r7name (lps := loopsT []) (by kernel_rfl) (ls := []) (by kernel_rfl) lps_nil
noncomputable def F_r7name (x : ((List UInt8) × Int)) : Option ((List UInt8) × Int) := (evalF Tryd.prog (lookT ct_r7name) (kp_r7name) (loopsT [(3, l_r7name_0), (9, l_r7name_1)]) false false Tryd.f47 (codP [pS, pI]) 2 (codP [pS, pI]) x).run
noncomputable abbrev s_r7name : SpecT := specF (codP [pS, pI]) 2 (codP [pS, pI]) F_r7name
theorem so_r7name : SoundT Tryd.prog 47 s_r7name := soundG (P := Tryd.prog) mixed (t := ct_r7name) cs_r7name (f := 47) (fn := Tryd.f47) Tryd.func47 (by kernel_rfl) (by kernel_rfl) (by kernel_rfl) (ls := [b_r7name_0, b_r7name_1]) (by kernel_rfl) (kp := kp_r7name) (lps := loopsT [(3, l_r7name_0), (9, l_r7name_1)]) (bump := false) (ice := false) (A := (codP [pS, pI])) (n := 2) (R := (codP [pS, pI])) fun _ => (lps_cons l_r7name_0 (by kernel_rfl) lo_r7name_0 (lps_cons l_r7name_1 (by kernel_rfl) lo_r7name_1 lps_nil))

theorem es_r7name_0 (s : List UInt8) (a e : Int) : sp_r7name_0 (s, a, e) = (
  bif decide (e < (↑s.length : Int)) then (getI s e).bind fun x1 => bif decide (x1 ≠ (62 : UInt8)) then some (Sum.inl (s, a, IntKind.i64.wrap (e + (1 : Int)))) else some (Sum.inr (s, a, e))
  else some (Sum.inr (s, a, e))) := by kernel_rfl

theorem es_r7name_1 (s : List UInt8) (a e : Int) : sp_r7name_1 (s, a, e) = (
  bif decide (e < (↑s.length : Int)) then (getI s e).bind fun x1 => (F_r7letter x1).bind fun x2 => bif x2 then some (Sum.inl (s, a, IntKind.i64.wrap (e + (1 : Int)))) else some (Sum.inr (s, a, e))
  else some (Sum.inr (s, a, e))) := by kernel_rfl

theorem e_r7name (s : List UInt8) (a : Int) : F_r7name (s, a) = (
  bif decide (a < (↑s.length : Int)) then
    (getI s a).bind fun x1 =>
      bif decide (x1 = (60 : UInt8)) then
        (w_r7name_0 (s, a, IntKind.i64.wrap (a + (1 : Int)))).bind fun x2 =>
          bif decide ((↑(List.length x2.fst) : Int) ≤ x2.snd.snd) then some ([], (-1 : Int))
          else
            (subI x2.fst (IntKind.i64.wrap (x2.snd.fst + (1 : Int))) x2.snd.snd).bind fun x3 =>
              (F_r7Name x3).bind fun x4 =>
                bif !x4 then some ([], (-1 : Int)) else (subI x2.fst (IntKind.i64.wrap (x2.snd.fst + (1 : Int))) x2.snd.snd).bind fun x5 => some (x5, IntKind.i64.wrap (x2.snd.snd + (1 : Int)))
      else
        (w_r7name_1 (s, a, a)).bind fun x2 =>
          (subI x2.fst x2.snd.fst x2.snd.snd).bind fun x3 => (F_r7Name x3).bind fun x4 => bif !x4 then some ([], (-1 : Int)) else (subI x2.fst x2.snd.fst x2.snd.snd).bind fun x5 => some (x5, x2.snd.snd)
  else
    (w_r7name_1 (s, a, a)).bind fun x1 =>
      (subI x1.fst x1.snd.fst x1.snd.snd).bind fun x2 => (F_r7Name x2).bind fun x3 => bif !x3 then some ([], (-1 : Int)) else (subI x1.fst x1.snd.fst x1.snd.snd).bind fun x4 => some (x4, x1.snd.snd)) := by kernel_rfl


/-! ### horologe/horologeref17.clock -/
noncomputable abbrev ct_r7clock : List (FuncId × Bool × SpecT) := [(80, false, s_r7figure)]
theorem cs_r7clock : AllSound Tryd.prog ct_r7clock := ⟨so_r7figure, trivial⟩
-- loop 0 (key 1) exit 0: [0, 1]
-- loop 0 (key 1) exit 3: [1]
abbrev kp_r7clock : Keep := keepT [(1, 0, [(0, none), (1, none)]), (1, 3, [(1, none)])]
noncomputable abbrev b_r7clock_0 : Code := loopAt Tryd.f48 0
noncomputable def sp_r7clock_0 (x : ((List UInt8) × Int)) : Option (((List UInt8) × Int) ⊕ (Int)) := (stepL Tryd.prog (lookT ct_r7clock) kp_r7clock (loopsT []) 0 false b_r7clock_0 (codP [pS, pI]) (exO (.ext 0) (codP [pI])) x).run
noncomputable def w_r7clock_0 : ((List UInt8) × Int) → Option (Int) := whileO sp_r7clock_0
theorem ew_r7clock_0 (x : ((List UInt8) × Int)) : w_r7clock_0 x = (sp_r7clock_0 x).bind (Sum.elim w_r7clock_0 some) := whileO_eq _ _
noncomputable abbrev l_r7clock_0 : LT := ltF (codP [pS, pI]) (exO (.ext 0) (codP [pI])) w_r7clock_0
theorem lo_r7clock_0 : LoopOk Tryd.prog Tryd.f48.ntmps kp_r7clock 0 false b_r7clock_0 l_r7clock_0 := loopG mixed cs_r7clock (lps := loopsT []) (by kernel_rfl) (ls := []) (by kernel_rfl) lps_nil
noncomputable def F_r7clock (x : ((List UInt8) × Int)) : Option (Int) := (evalF Tryd.prog (lookT ct_r7clock) (kp_r7clock) (loopsT [(1, l_r7clock_0)]) false false Tryd.f48 (codP [pS, pI]) 1 (codP [pI]) x).run
noncomputable abbrev s_r7clock : SpecT := specF (codP [pS, pI]) 1 (codP [pI]) F_r7clock
theorem so_r7clock : SoundT Tryd.prog 48 s_r7clock := soundG (P := Tryd.prog) mixed (t := ct_r7clock) cs_r7clock (f := 48) (fn := Tryd.f48) Tryd.func48 (by kernel_rfl) (by kernel_rfl) (by kernel_rfl) (ls := [b_r7clock_0]) (by kernel_rfl) (kp := kp_r7clock) (lps := loopsT [(1, l_r7clock_0)]) (bump := false) (ice := false) (A := (codP [pS, pI])) (n := 1) (R := (codP [pI])) fun _ => (lps_cons l_r7clock_0 (by kernel_rfl) lo_r7clock_0 lps_nil)

theorem es_r7clock_0 (s : List UInt8) (a : Int) : sp_r7clock_0 (s, a) = (
  bif decide (a < (↑s.length : Int)) then
    (getI s a).bind fun x1 =>
      (F_r7figure x1).bind fun x2 =>
        bif x2 then some (Sum.inl (s, IntKind.i64.wrap (a + (1 : Int))))
        else
          (getI s a).bind fun x3 =>
            bif decide (x3 = (43 : UInt8)) then some (Sum.inl (s, IntKind.i64.wrap (a + (1 : Int))))
            else
              (getI s a).bind fun x4 =>
                bif decide (x4 = (45 : UInt8)) then some (Sum.inl (s, IntKind.i64.wrap (a + (1 : Int))))
                else (getI s a).bind fun x5 => bif decide (x5 = (58 : UInt8)) then some (Sum.inl (s, IntKind.i64.wrap (a + (1 : Int)))) else some (Sum.inr a)
  else some (Sum.inr a)) := by kernel_rfl

theorem e_r7clock (s : List UInt8) (a : Int) : F_r7clock (s, a) = (
  (w_r7clock_0 (s, a)).bind fun x1 => some x1) := by kernel_rfl

end Go.Sm
/- The reference of plans; the law PosixParses. No condition. -/
set_option linter.unusedVariables false
namespace Go.Sm
open Go.Proofs
/-! ### horologe/horologeref17.Parse -/
noncomputable abbrev ct_r7Parse : List (FuncId × Bool × SpecT) := [(47, false, s_r7name), (48, false, s_r7clock), (49, false, s_r6ParseClock), (50, false, s_r6Parse)]
theorem cs_r7Parse : AllSound Tryd.prog ct_r7Parse := ⟨so_r7name, so_r7clock, so_r6ParseClock, so_r6Parse, trivial⟩
-- loop 0 (key 26) exit 0: [0, 2, 4, 6, 10]
-- loop 0 (key 26) exit 2: [2, 3]
-- loop 0 (key 26) exit 3: [0, 2, 4, 6]
-- loop 1 (key 32) exit 0: [0, 2, 4, 6, 7, 10]
-- loop 1 (key 32) exit 5: [0, 2, 4, 6, 7, 10]
abbrev kp_r7Parse : Keep := keepT [(26, 0, [(0, none), (2, none), (4, none), (6, none), (10, none)]), (26, 2, [(2, none), (3, none)]), (26, 3, [(0, none), (2, none), (4, none), (6, none)]), (32, 0, [(0, none), (2, none), (4, none), (6, none), (7, none), (10, none)]), (32, 5, [(0, none), (2, none), (4, none), (6, none), (7, none), (10, none)])]
noncomputable abbrev b_r7Parse_0 : Code := loopAt Tryd.f12 0
noncomputable abbrev b_r7Parse_1 : Code := loopAt Tryd.f12 1
noncomputable def sp_r7Parse_1 (x : ((List UInt8) × (List UInt8 × List UInt8 × Int × Int × (Int × Int × Int × Int × Int) × (Int × Int × Int × Int × Int)) × (List UInt8 × List UInt8 × Int × Int × (Int × Int × Int × Int × Int) × (Int × Int × Int × Int × Int)) × Int × Int × Int)) : Option (((List UInt8) × (List UInt8 × List UInt8 × Int × Int × (Int × Int × Int × Int × Int) × (Int × Int × Int × Int × Int)) × (List UInt8 × List UInt8 × Int × Int × (Int × Int × Int × Int × Int) × (Int × Int × Int × Int × Int)) × Int × Int × Int) ⊕ ((List UInt8) × (List UInt8 × List UInt8 × Int × Int × (Int × Int × Int × Int × Int) × (Int × Int × Int × Int × Int)) × (List UInt8 × List UInt8 × Int × Int × (Int × Int × Int × Int × Int) × (Int × Int × Int × Int × Int)) × Int × Int × Int)) := (stepL Tryd.prog (lookT ct_r7Parse) kp_r7Parse (loopsT []) 0 false b_r7Parse_1 (codP [pS, (.box cPlan), (.box cPlan), pI, pI, pI]) (exO (.ext 2) (codP [pS, (.box cPlan), (.box cPlan), pI, pI, pI])) x).run
noncomputable def w_r7Parse_1 : ((List UInt8) × (List UInt8 × List UInt8 × Int × Int × (Int × Int × Int × Int × Int) × (Int × Int × Int × Int × Int)) × (List UInt8 × List UInt8 × Int × Int × (Int × Int × Int × Int × Int) × (Int × Int × Int × Int × Int)) × Int × Int × Int) → Option ((List UInt8) × (List UInt8 × List UInt8 × Int × Int × (Int × Int × Int × Int × Int) × (Int × Int × Int × Int × Int)) × (List UInt8 × List UInt8 × Int × Int × (Int × Int × Int × Int × Int) × (Int × Int × Int × Int × Int)) × Int × Int × Int) := whileO sp_r7Parse_1
theorem ew_r7Parse_1 (x : ((List UInt8) × (List UInt8 × List UInt8 × Int × Int × (Int × Int × Int × Int × Int) × (Int × Int × Int × Int × Int)) × (List UInt8 × List UInt8 × Int × Int × (Int × Int × Int × Int × Int) × (Int × Int × Int × Int × Int)) × Int × Int × Int)) : w_r7Parse_1 x = (sp_r7Parse_1 x).bind (Sum.elim w_r7Parse_1 some) := whileO_eq _ _
noncomputable abbrev l_r7Parse_1 : LT := ltF (codP [pS, (.box cPlan), (.box cPlan), pI, pI, pI]) (exO (.ext 2) (codP [pS, (.box cPlan), (.box cPlan), pI, pI, pI])) w_r7Parse_1
theorem lo_r7Parse_1 : LoopOk Tryd.prog Tryd.f12.ntmps kp_r7Parse 0 false b_r7Parse_1 l_r7Parse_1 := loopG mixed cs_r7Parse (lps := loopsT []) (by kernel_rfl) (ls := []) (by kernel_rfl) lps_nil
noncomputable def sp_r7Parse_0 (x : ((List UInt8) × (List UInt8 × List UInt8 × Int × Int × (Int × Int × Int × Int × Int) × (Int × Int × Int × Int × Int)) × (List UInt8 × List UInt8 × Int × Int × (Int × Int × Int × Int × Int) × (Int × Int × Int × Int × Int)) × Int × Int)) : Option (((List UInt8) × (List UInt8 × List UInt8 × Int × Int × (Int × Int × Int × Int × Int) × (Int × Int × Int × Int × Int)) × (List UInt8 × List UInt8 × Int × Int × (Int × Int × Int × Int × Int) × (Int × Int × Int × Int × Int)) × Int × Int) ⊕ (((List UInt8 × List UInt8 × Int × Int × (Int × Int × Int × Int × Int) × (Int × Int × Int × Int × Int)) × Int) ⊕ ((List UInt8) × (List UInt8 × List UInt8 × Int × Int × (Int × Int × Int × Int × Int) × (Int × Int × Int × Int × Int)) × (List UInt8 × List UInt8 × Int × Int × (Int × Int × Int × Int × Int) × (Int × Int × Int × Int × Int)) × Int))) := (stepL Tryd.prog (lookT ct_r7Parse) kp_r7Parse (loopsT [(32, l_r7Parse_1)]) 0 false b_r7Parse_0 (codP [pS, (.box cPlan), (.box cPlan), pI, pI]) (exS (exO .ret (codP [(.box cPlan), pI])) (exO (.ext 0) (codP [pS, (.box cPlan), (.box cPlan), pI]))) x).run
noncomputable def w_r7Parse_0 : ((List UInt8) × (List UInt8 × List UInt8 × Int × Int × (Int × Int × Int × Int × Int) × (Int × Int × Int × Int × Int)) × (List UInt8 × List UInt8 × Int × Int × (Int × Int × Int × Int × Int) × (Int × Int × Int × Int × Int)) × Int × Int) → Option (((List UInt8 × List UInt8 × Int × Int × (Int × Int × Int × Int × Int) × (Int × Int × Int × Int × Int)) × Int) ⊕ ((List UInt8) × (List UInt8 × List UInt8 × Int × Int × (Int × Int × Int × Int × Int) × (Int × Int × Int × Int × Int)) × (List UInt8 × List UInt8 × Int × Int × (Int × Int × Int × Int × Int) × (Int × Int × Int × Int × Int)) × Int)) := whileO sp_r7Parse_0
theorem ew_r7Parse_0 (x : ((List UInt8) × (List UInt8 × List UInt8 × Int × Int × (Int × Int × Int × Int × Int) × (Int × Int × Int × Int × Int)) × (List UInt8 × List UInt8 × Int × Int × (Int × Int × Int × Int × Int) × (Int × Int × Int × Int × Int)) × Int × Int)) : w_r7Parse_0 x = (sp_r7Parse_0 x).bind (Sum.elim w_r7Parse_0 some) := whileO_eq _ _
noncomputable abbrev l_r7Parse_0 : LT := ltF (codP [pS, (.box cPlan), (.box cPlan), pI, pI]) (exS (exO .ret (codP [(.box cPlan), pI])) (exO (.ext 0) (codP [pS, (.box cPlan), (.box cPlan), pI]))) w_r7Parse_0
theorem lo_r7Parse_0 : LoopOk Tryd.prog Tryd.f12.ntmps kp_r7Parse 0 false b_r7Parse_0 l_r7Parse_0 := loopG mixed cs_r7Parse (lps := loopsT [(32, l_r7Parse_1)]) (by kernel_rfl) (ls := [b_r7Parse_1]) (by kernel_rfl) (lps_cons l_r7Parse_1 (by kernel_rfl) lo_r7Parse_1 lps_nil)
noncomputable def F_r7Parse (x : ((List UInt8))) : Option ((List UInt8 × List UInt8 × Int × Int × (Int × Int × Int × Int × Int) × (Int × Int × Int × Int × Int)) × Int) := (evalF Tryd.prog (lookT ct_r7Parse) (kp_r7Parse) (loopsT [(26, l_r7Parse_0), (32, l_r7Parse_1)]) false false Tryd.f12 (codP [pS]) 2 (codP [pPlan, pI]) x).run
noncomputable abbrev s_r7Parse : SpecT := specF (codP [pS]) 2 (codP [pPlan, pI]) F_r7Parse
theorem so_r7Parse : SoundT Tryd.prog 12 s_r7Parse := soundG (P := Tryd.prog) mixed (t := ct_r7Parse) cs_r7Parse (f := 12) (fn := Tryd.f12) Tryd.func12 (by kernel_rfl) (by kernel_rfl) (by kernel_rfl) (ls := [b_r7Parse_0, b_r7Parse_1]) (by kernel_rfl) (kp := kp_r7Parse) (lps := loopsT [(26, l_r7Parse_0), (32, l_r7Parse_1)]) (bump := false) (ice := false) (A := (codP [pS])) (n := 2) (R := (codP [pPlan, pI])) fun _ => (lps_cons l_r7Parse_0 (by kernel_rfl) lo_r7Parse_0 (lps_cons l_r7Parse_1 (by kernel_rfl) lo_r7Parse_1 lps_nil))

theorem es_r7Parse_1 (s : List UInt8) (p q : (List UInt8 × List UInt8 × Int × Int × (Int × Int × Int × Int × Int) × (Int × Int × Int × Int × Int))) (a e k : Int) : sp_r7Parse_1 (s, p, q, a, e, k) = (
  bif decide (e < (↑s.length : Int)) then
    (getI s e).bind fun x1 => bif decide (x1 ≠ (44 : UInt8)) then some (Sum.inl (s, p, q, a, IntKind.i64.wrap (e + (1 : Int)), k)) else some (Sum.inr (s, p, q, a, e, k))
  else some (Sum.inr (s, p, q, a, e, k))) := by kernel_rfl

theorem es_r7Parse_0 (s : List UInt8) (p q : (List UInt8 × List UInt8 × Int × Int × (Int × Int × Int × Int × Int) × (Int × Int × Int × Int × Int))) (a k : Int) : sp_r7Parse_0 (s, p, q, a, k) = (
  bif decide (k < (2 : Int)) then
    bif decide ((↑s.length : Int) ≤ a) then
      some (Sum.inr (Sum.inl (([], [], (0 : Int), (0 : Int), ((0 : Int), (0 : Int), (0 : Int), (0 : Int), (0 : Int)), (0 : Int), (0 : Int), (0 : Int), (0 : Int), (0 : Int)), (2 : Int))))
    else
      (getI s a).bind fun x1 =>
        bif decide (x1 ≠ (44 : UInt8)) then
          some (Sum.inr (Sum.inl (([], [], (0 : Int), (0 : Int), ((0 : Int), (0 : Int), (0 : Int), (0 : Int), (0 : Int)), (0 : Int), (0 : Int), (0 : Int), (0 : Int), (0 : Int)), (2 : Int))))
        else
          (w_r7Parse_1 (s, p, q, IntKind.i64.wrap (a + (1 : Int)), IntKind.i64.wrap (a + (1 : Int)), k)).bind fun x2 =>
            (subI x2.fst x2.snd.snd.snd.fst x2.snd.snd.snd.snd.fst).bind fun x3 =>
              (F_r6Parse x3).bind fun x4 =>
                bif decide (x4.snd ≠ (0 : Int)) then
                  some (Sum.inr (Sum.inl (([], [], (0 : Int), (0 : Int), ((0 : Int), (0 : Int), (0 : Int), (0 : Int), (0 : Int)), (0 : Int), (0 : Int), (0 : Int), (0 : Int), (0 : Int)), x4.snd)))
                else
                  bif decide (x2.snd.snd.snd.snd.snd = (0 : Int)) then
                    some
                      (Sum.inl
                        (x2.fst, x2.snd.fst, (x2.snd.snd.fst.fst, x2.snd.snd.fst.snd.fst, x2.snd.snd.fst.snd.snd.fst, x2.snd.snd.fst.snd.snd.snd.fst, x4.fst, x2.snd.snd.fst.snd.snd.snd.snd.snd),
                          x2.snd.snd.snd.snd.fst, IntKind.i64.wrap (x2.snd.snd.snd.snd.snd + (1 : Int))))
                  else
                    some
                      (Sum.inl
                        (x2.fst, x2.snd.fst, (x2.snd.snd.fst.fst, x2.snd.snd.fst.snd.fst, x2.snd.snd.fst.snd.snd.fst, x2.snd.snd.fst.snd.snd.snd.fst, x2.snd.snd.fst.snd.snd.snd.snd.fst, x4.fst),
                          x2.snd.snd.snd.snd.fst, IntKind.i64.wrap (x2.snd.snd.snd.snd.snd + (1 : Int))))
  else some (Sum.inr (Sum.inr (s, p, q, a)))) := by kernel_rfl

theorem e_r7Parse (s : List UInt8) : F_r7Parse s = (
  (F_r7name (s, (0 : Int))).bind fun x1 =>
    bif decide (x1.snd < (0 : Int)) then some (([], [], (0 : Int), (0 : Int), ((0 : Int), (0 : Int), (0 : Int), (0 : Int), (0 : Int)), (0 : Int), (0 : Int), (0 : Int), (0 : Int), (0 : Int)), (2 : Int))
    else
      (F_r7clock (s, x1.snd)).bind fun x2 =>
        (subI s x1.snd x2).bind fun x3 =>
          (F_r6ParseClock (x3, (24 : Int))).bind fun x4 =>
            bif decide (x4.snd ≠ (0 : Int)) then
              some (([], [], (0 : Int), (0 : Int), ((0 : Int), (0 : Int), (0 : Int), (0 : Int), (0 : Int)), (0 : Int), (0 : Int), (0 : Int), (0 : Int), (0 : Int)), x4.snd)
            else
              bif decide (x2 = (↑s.length : Int)) then
                some
                  ((x1.fst, [], IntKind.i64.wrap ((0 : Int) - x4.fst), (0 : Int), ((0 : Int), (0 : Int), (0 : Int), (0 : Int), (0 : Int)), (0 : Int), (0 : Int), (0 : Int), (0 : Int), (0 : Int)),
                    (0 : Int))
              else
                (F_r7name (s, x2)).bind fun x5 =>
                  bif decide (x5.snd < (0 : Int)) then
                    some (([], [], (0 : Int), (0 : Int), ((0 : Int), (0 : Int), (0 : Int), (0 : Int), (0 : Int)), (0 : Int), (0 : Int), (0 : Int), (0 : Int), (0 : Int)), (2 : Int))
                  else
                    bif decide (x5.snd < (↑s.length : Int)) then
                      (getI s x5.snd).bind fun x6 =>
                        bif decide (x6 ≠ (44 : UInt8)) then
                          (F_r7clock (s, x5.snd)).bind fun x7 =>
                            (subI s x5.snd x7).bind fun x8 =>
                              (F_r6ParseClock (x8, (24 : Int))).bind fun x9 =>
                                bif decide (x9.snd ≠ (0 : Int)) then
                                  some (([], [], (0 : Int), (0 : Int), ((0 : Int), (0 : Int), (0 : Int), (0 : Int), (0 : Int)), (0 : Int), (0 : Int), (0 : Int), (0 : Int), (0 : Int)), x9.snd)
                                else
                                  (w_r7Parse_0
                                        (s, ([], [], (0 : Int), (0 : Int), ((0 : Int), (0 : Int), (0 : Int), (0 : Int), (0 : Int)), (0 : Int), (0 : Int), (0 : Int), (0 : Int), (0 : Int)),
                                          (x1.fst, x5.fst, IntKind.i64.wrap ((0 : Int) - x4.fst), IntKind.i64.wrap ((0 : Int) - x9.fst), ((0 : Int), (0 : Int), (0 : Int), (0 : Int), (0 : Int)),
                                            (0 : Int), (0 : Int), (0 : Int), (0 : Int), (0 : Int)),
                                          x7, (0 : Int))).bind
                                    fun x10 =>
                                    Sum.elim (fun x11 => some x11)
                                      (fun x11 =>
                                        bif decide (x11.snd.snd.snd < (↑(List.length x11.fst) : Int)) then
                                          some (([], [], (0 : Int), (0 : Int), ((0 : Int), (0 : Int), (0 : Int), (0 : Int), (0 : Int)), (0 : Int), (0 : Int), (0 : Int), (0 : Int), (0 : Int)), (2 : Int))
                                        else
                                          bif decide ((89999 : Int) < x11.snd.snd.fst.snd.snd.snd.fst) then
                                            some
                                              (([], [], (0 : Int), (0 : Int), ((0 : Int), (0 : Int), (0 : Int), (0 : Int), (0 : Int)), (0 : Int), (0 : Int), (0 : Int), (0 : Int), (0 : Int)), (1 : Int))
                                          else some (x11.snd.snd.fst, (0 : Int)))
                                      x10
                        else
                          (w_r7Parse_0
                                (s, ([], [], (0 : Int), (0 : Int), ((0 : Int), (0 : Int), (0 : Int), (0 : Int), (0 : Int)), (0 : Int), (0 : Int), (0 : Int), (0 : Int), (0 : Int)),
                                  (x1.fst, x5.fst, IntKind.i64.wrap ((0 : Int) - x4.fst), IntKind.i64.wrap (IntKind.i64.wrap ((0 : Int) - x4.fst) + (3600 : Int)),
                                    ((0 : Int), (0 : Int), (0 : Int), (0 : Int), (0 : Int)), (0 : Int), (0 : Int), (0 : Int), (0 : Int), (0 : Int)),
                                  x5.snd, (0 : Int))).bind
                            fun x7 =>
                            Sum.elim (fun x8 => some x8)
                              (fun x8 =>
                                bif decide (x8.snd.snd.snd < (↑(List.length x8.fst) : Int)) then
                                  some (([], [], (0 : Int), (0 : Int), ((0 : Int), (0 : Int), (0 : Int), (0 : Int), (0 : Int)), (0 : Int), (0 : Int), (0 : Int), (0 : Int), (0 : Int)), (2 : Int))
                                else
                                  bif decide ((89999 : Int) < x8.snd.snd.fst.snd.snd.snd.fst) then
                                    some (([], [], (0 : Int), (0 : Int), ((0 : Int), (0 : Int), (0 : Int), (0 : Int), (0 : Int)), (0 : Int), (0 : Int), (0 : Int), (0 : Int), (0 : Int)), (1 : Int))
                                  else some (x8.snd.snd.fst, (0 : Int)))
                              x7
                    else
                      (w_r7Parse_0
                            (s, ([], [], (0 : Int), (0 : Int), ((0 : Int), (0 : Int), (0 : Int), (0 : Int), (0 : Int)), (0 : Int), (0 : Int), (0 : Int), (0 : Int), (0 : Int)),
                              (x1.fst, x5.fst, IntKind.i64.wrap ((0 : Int) - x4.fst), IntKind.i64.wrap (IntKind.i64.wrap ((0 : Int) - x4.fst) + (3600 : Int)),
                                ((0 : Int), (0 : Int), (0 : Int), (0 : Int), (0 : Int)), (0 : Int), (0 : Int), (0 : Int), (0 : Int), (0 : Int)),
                              x5.snd, (0 : Int))).bind
                        fun x6 =>
                        Sum.elim (fun x7 => some x7)
                          (fun x7 =>
                            bif decide (x7.snd.snd.snd < (↑(List.length x7.fst) : Int)) then
                              some (([], [], (0 : Int), (0 : Int), ((0 : Int), (0 : Int), (0 : Int), (0 : Int), (0 : Int)), (0 : Int), (0 : Int), (0 : Int), (0 : Int), (0 : Int)), (2 : Int))
                            else
                              bif decide ((89999 : Int) < x7.snd.snd.fst.snd.snd.snd.fst) then
                                some (([], [], (0 : Int), (0 : Int), ((0 : Int), (0 : Int), (0 : Int), (0 : Int), (0 : Int)), (0 : Int), (0 : Int), (0 : Int), (0 : Int), (0 : Int)), (1 : Int))
                              else some (x7.snd.snd.fst, (0 : Int)))
                          x6) := by kernel_rfl


/-! ### horologe/horologenum.Num -/
noncomputable abbrev ct_lawNum : List (FuncId × Bool × SpecT) := []
theorem cs_lawNum : AllSound Tryd.prog ct_lawNum := trivial
noncomputable def F_lawNum (x : (Int)) : Option (Int) := (evalF Tryd.prog (lookT ct_lawNum) (keepT []) (loopsT []) false false Tryd.f14 (codP [pE]) 1 (codP [pI]) x).run
noncomputable abbrev s_lawNum : SpecT := specF (codP [pE]) 1 (codP [pI]) F_lawNum
theorem so_lawNum : SoundT Tryd.prog 14 s_lawNum := soundG (P := Tryd.prog) mixed (t := ct_lawNum) cs_lawNum (f := 14) (fn := Tryd.f14) Tryd.func14 (by kernel_rfl) (by kernel_rfl) (by kernel_rfl) (ls := []) (by kernel_rfl) (kp := keepT []) (lps := loopsT []) (bump := false) (ice := false) (A := (codP [pE])) (n := 1) (R := (codP [pI])) fun _ => lps_nil

theorem e_lawNum (e : Int) : F_lawNum e = (
  bif decide (e = (0 : Int)) then some (0 : Int) else bif !decide (e = (0 : Int)) then bif decide (e ≠ (0 : Int)) then some e else some (-1 : Int) else some (-1 : Int)) := by kernel_rfl


/-! ### horologe/horologelaw16.Document -/
noncomputable abbrev ct_law16Document : List (FuncId × Bool × SpecT) := []
theorem cs_law16Document : AllSound Tryd.prog ct_law16Document := trivial
noncomputable def F_law16Document (x : ((Int × Int × Int × Int × Int))) : Option ((Int × Int × Int × Int × Int)) := (evalF Tryd.prog (lookT ct_law16Document) (keepT []) (loopsT []) false false Tryd.f51 (codP [pRule]) 1 (codP [pRule]) x).run
noncomputable abbrev s_law16Document : SpecT := specF (codP [pRule]) 1 (codP [pRule]) F_law16Document
theorem so_law16Document : SoundT Tryd.prog 51 s_law16Document := soundG (P := Tryd.prog) mixed (t := ct_law16Document) cs_law16Document (f := 51) (fn := Tryd.f51) Tryd.func51 (by kernel_rfl) (by kernel_rfl) (by kernel_rfl) (ls := []) (by kernel_rfl) (kp := keepT []) (lps := loopsT []) (bump := false) (ice := false) (A := (codP [pRule])) (n := 1) (R := (codP [pRule])) fun _ => lps_nil

theorem e_law16Document (r : Int × Int × Int × Int × Int) : F_law16Document r = (
  some r) := by kernel_rfl


/-! ### horologe/horologelaw17.Document -/
noncomputable abbrev ct_law17Document : List (FuncId × Bool × SpecT) := [(51, false, s_law16Document)]
theorem cs_law17Document : AllSound Tryd.prog ct_law17Document := ⟨so_law16Document, trivial⟩
noncomputable def F_law17Document (x : ((List UInt8 × List UInt8 × Int × Int × (Int × Int × Int × Int × Int) × (Int × Int × Int × Int × Int)))) : Option ((List UInt8 × List UInt8 × Int × Int × (Int × Int × Int × Int × Int) × (Int × Int × Int × Int × Int))) := (evalF Tryd.prog (lookT ct_law17Document) (keepT []) (loopsT []) false false Tryd.f13 (codP [pPlan]) 1 (codP [pPlan]) x).run
noncomputable abbrev s_law17Document : SpecT := specF (codP [pPlan]) 1 (codP [pPlan]) F_law17Document
theorem so_law17Document : SoundT Tryd.prog 13 s_law17Document := soundG (P := Tryd.prog) mixed (t := ct_law17Document) cs_law17Document (f := 13) (fn := Tryd.f13) Tryd.func13 (by kernel_rfl) (by kernel_rfl) (by kernel_rfl) (ls := []) (by kernel_rfl) (kp := keepT []) (lps := loopsT []) (bump := false) (ice := false) (A := (codP [pPlan])) (n := 1) (R := (codP [pPlan])) fun _ => lps_nil

theorem e_law17Document (p : List UInt8 × List UInt8 × Int × Int × (Int × Int × Int × Int × Int) × (Int × Int × Int × Int × Int)) : F_law17Document p = (
  (F_law16Document p.snd.snd.snd.snd.fst).bind fun x1 => (F_law16Document p.snd.snd.snd.snd.snd).bind fun x2 => some (p.fst, p.snd.fst, p.snd.snd.fst, p.snd.snd.snd.fst, x1, x2)) := by kernel_rfl


/-! ### horologe/horologelaw17.alive -/
noncomputable abbrev ct_law17alive : List (FuncId × Bool × SpecT) := [(11, false, s_pxParse)]
theorem cs_law17alive : AllSound Tryd.prog ct_law17alive := ⟨so_pxParse, trivial⟩
noncomputable def F_law17alive (x : Unit) : Option (Bool) := (evalF Tryd.prog (lookT ct_law17alive) (keepT []) (loopsT []) false false Tryd.f10 (codP []) 1 (codP [pB]) x).run
noncomputable abbrev s_law17alive : SpecT := specF (codP []) 1 (codP [pB]) F_law17alive
theorem so_law17alive : SoundT Tryd.prog 10 s_law17alive := soundG (P := Tryd.prog) mixed (t := ct_law17alive) cs_law17alive (f := 10) (fn := Tryd.f10) Tryd.func10 (by kernel_rfl) (by kernel_rfl) (by kernel_rfl) (ls := []) (by kernel_rfl) (kp := keepT []) (lps := loopsT []) (bump := false) (ice := false) (A := (codP [])) (n := 1) (R := (codP [pB])) fun _ => lps_nil

theorem e_law17alive  : F_law17alive () = (
  (F_pxParse
        [(69 : UInt8), (83 : UInt8), (84 : UInt8), (53 : UInt8), (69 : UInt8), (68 : UInt8), (84 : UInt8), (44 : UInt8), (77 : UInt8), (51 : UInt8), (46 : UInt8), (50 : UInt8), (46 : UInt8),
          (48 : UInt8), (44 : UInt8), (77 : UInt8), (49 : UInt8), (49 : UInt8), (46 : UInt8), (49 : UInt8), (46 : UInt8), (48 : UInt8)]).bind
    fun x1 =>
    bif decide (x1.snd = (0 : Int)) then
      bif decide (x1.fst.snd.snd.fst = (-18000 : Int)) then
        bif decide (x1.fst.snd.snd.snd.fst = (-14400 : Int)) then
          bif decide (x1.fst.snd.snd.snd.snd.fst.snd.fst = (3 : Int)) then some (decide (x1.fst.snd.snd.snd.snd.snd.snd.snd.fst = (1 : Int))) else some false
        else some false
      else some false
    else some false) := by kernel_rfl


/-! ### horologe/horologelaw17.PosixParses -/
noncomputable abbrev ct_lawPosixParses : List (FuncId × Bool × SpecT) := [(10, false, s_law17alive), (11, false, s_pxParse), (12, false, s_r7Parse), (13, false, s_law17Document), (14, false, s_lawNum)]
theorem cs_lawPosixParses : AllSound Tryd.prog ct_lawPosixParses := ⟨so_law17alive, so_pxParse, so_r7Parse, so_law17Document, so_lawNum, trivial⟩
noncomputable def F_lawPosixParses (x : ((List UInt8))) : Option (Bool) := (evalF Tryd.prog (lookT ct_lawPosixParses) (keepT []) (loopsT []) false false Tryd.f3 (codP [pS]) 1 (codP [pB]) x).run
noncomputable abbrev s_lawPosixParses : SpecT := specF (codP [pS]) 1 (codP [pB]) F_lawPosixParses
theorem so_lawPosixParses : SoundT Tryd.prog 3 s_lawPosixParses := soundG (P := Tryd.prog) mixed (t := ct_lawPosixParses) cs_lawPosixParses (f := 3) (fn := Tryd.f3) Tryd.func3 (by kernel_rfl) (by kernel_rfl) (by kernel_rfl) (ls := []) (by kernel_rfl) (kp := keepT []) (lps := loopsT []) (bump := false) (ice := false) (A := (codP [pS])) (n := 1) (R := (codP [pB])) fun _ => lps_nil

theorem e_lawPosixParses (s : List UInt8) : F_lawPosixParses s = (
  (F_law17alive ()).bind fun x1 =>
    bif !x1 then some false
    else
      bif decide ((200 : Int) < (↑s.length : Int)) then some true
      else
        (F_pxParse s).bind fun x2 =>
          (F_r7Parse s).bind fun x3 =>
            (F_law17Document x2.fst).bind fun x4 =>
              bif
                  decide (x4.fst = x3.fst.fst) &&
                    (decide (x4.snd.fst = x3.fst.snd.fst) &&
                      (decide (x4.snd.snd.fst = x3.fst.snd.snd.fst) &&
                        (decide (x4.snd.snd.snd.fst = x3.fst.snd.snd.snd.fst) &&
                          (decide (x4.snd.snd.snd.snd.fst.fst = x3.fst.snd.snd.snd.snd.fst.fst) &&
                              (decide (x4.snd.snd.snd.snd.fst.snd.fst = x3.fst.snd.snd.snd.snd.fst.snd.fst) &&
                                (decide (x4.snd.snd.snd.snd.fst.snd.snd.fst = x3.fst.snd.snd.snd.snd.fst.snd.snd.fst) &&
                                  (decide (x4.snd.snd.snd.snd.fst.snd.snd.snd.fst = x3.fst.snd.snd.snd.snd.fst.snd.snd.snd.fst) &&
                                    (decide (x4.snd.snd.snd.snd.fst.snd.snd.snd.snd = x3.fst.snd.snd.snd.snd.fst.snd.snd.snd.snd) && true)))) &&
                            (decide (x4.snd.snd.snd.snd.snd.fst = x3.fst.snd.snd.snd.snd.snd.fst) &&
                                (decide (x4.snd.snd.snd.snd.snd.snd.fst = x3.fst.snd.snd.snd.snd.snd.snd.fst) &&
                                  (decide (x4.snd.snd.snd.snd.snd.snd.snd.fst = x3.fst.snd.snd.snd.snd.snd.snd.snd.fst) &&
                                    (decide (x4.snd.snd.snd.snd.snd.snd.snd.snd.fst = x3.fst.snd.snd.snd.snd.snd.snd.snd.snd.fst) &&
                                      (decide (x4.snd.snd.snd.snd.snd.snd.snd.snd.snd = x3.fst.snd.snd.snd.snd.snd.snd.snd.snd.snd) && true)))) &&
                              true))))) then
                (F_lawNum x2.snd).bind fun x5 => some (decide (x5 = x3.snd))
              else some false) := by kernel_rfl

end Go.Sm
/- The law FooterBegins. No condition. -/
set_option linter.unusedVariables false
namespace Go.Sm
open Go.Proofs
/-! ### horologe/horologelaw18.alive -/
noncomputable abbrev ct_law18alive : List (FuncId × Bool × SpecT) := [(11, false, s_pxParse), (39, false, s_ftAt)]
theorem cs_law18alive : AllSound Tryd.prog ct_law18alive := ⟨so_pxParse, so_ftAt, trivial⟩
noncomputable def F_law18alive (x : Unit) : Option (Bool) := (evalF Tryd.prog (lookT ct_law18alive) (keepT []) (loopsT []) false false Tryd.f37 (codP []) 1 (codP [pB]) x).run
noncomputable abbrev s_law18alive : SpecT := specF (codP []) 1 (codP [pB]) F_law18alive
theorem so_law18alive : SoundT Tryd.prog 37 s_law18alive := soundG (P := Tryd.prog) mixed (t := ct_law18alive) cs_law18alive (f := 37) (fn := Tryd.f37) Tryd.func37 (by kernel_rfl) (by kernel_rfl) (by kernel_rfl) (ls := []) (by kernel_rfl) (kp := keepT []) (lps := loopsT []) (bump := false) (ice := false) (A := (codP [])) (n := 1) (R := (codP [pB])) fun _ => lps_nil

theorem e_law18alive  : F_law18alive () = (
  (F_pxParse
        [(69 : UInt8), (83 : UInt8), (84 : UInt8), (53 : UInt8), (69 : UInt8), (68 : UInt8), (84 : UInt8), (44 : UInt8), (77 : UInt8), (51 : UInt8), (46 : UInt8), (50 : UInt8), (46 : UInt8),
          (48 : UInt8), (44 : UInt8), (77 : UInt8), (49 : UInt8), (49 : UInt8), (46 : UInt8), (49 : UInt8), (46 : UInt8), (48 : UInt8)]).bind
    fun x1 =>
    (F_ftAt (x1.fst, (1710054000 : Int))).bind fun x2 =>
      (F_ftAt (x1.fst, (1710053999 : Int))).bind fun x3 =>
        bif decide (x1.snd = (0 : Int)) then
          bif decide (x2.snd = (0 : Int)) then
            bif decide (x3.snd = (0 : Int)) then
              bif decide (x2.fst.snd.snd = [(69 : UInt8), (68 : UInt8), (84 : UInt8)]) then
                bif decide (x3.fst.snd.snd = [(69 : UInt8), (83 : UInt8), (84 : UInt8)]) then some (decide (x2.fst.fst = (-14400 : Int))) else some false
              else some false
            else some false
          else some false
        else some false) := by kernel_rfl


/-! ### horologe/horologelaw17.Long -/
noncomputable abbrev ct_law17LongA : List (FuncId × Bool × SpecT) := []
theorem cs_law17LongA : AllSound Tryd.prog ct_law17LongA := trivial
noncomputable def F_law17LongA (x : ((List UInt8 × List UInt8 × Int × Int × (Int × Int × Int × Int × Int) × (Int × Int × Int × Int × Int)))) : Option (Bool) := (evalF Tryd.prog (lookT ct_law17LongA) (keepT []) (loopsT []) false false Tryd.f27 (codP [pPlan]) 1 (codP [pB]) x).run
noncomputable abbrev s_law17LongA : SpecT := specF (codP [pPlan]) 1 (codP [pB]) F_law17LongA
theorem so_law17LongA : SoundT Tryd.prog 27 s_law17LongA := soundG (P := Tryd.prog) mixed (t := ct_law17LongA) cs_law17LongA (f := 27) (fn := Tryd.f27) Tryd.func27 (by kernel_rfl) (by kernel_rfl) (by kernel_rfl) (ls := []) (by kernel_rfl) (kp := keepT []) (lps := loopsT []) (bump := false) (ice := false) (A := (codP [pPlan])) (n := 1) (R := (codP [pB])) fun _ => lps_nil

theorem e_law17LongA (p : List UInt8 × List UInt8 × Int × Int × (Int × Int × Int × Int × Int) × (Int × Int × Int × Int × Int)) : F_law17LongA p = (
  bif decide ((60 : Int) < (↑(List.length p.fst) : Int)) then some true else some (decide ((60 : Int) < (↑(List.length p.snd.fst) : Int)))) := by kernel_rfl


/-! ### horologe/horologelaw18.FooterBegins -/
noncomputable abbrev ct_lawFooterBegins : List (FuncId × Bool × SpecT) := [(37, false, s_law18alive), (27, false, s_law17LongA), (38, false, s_FtTurns), (39, false, s_ftAt)]
theorem cs_lawFooterBegins : AllSound Tryd.prog ct_lawFooterBegins := ⟨so_law18alive, so_law17LongA, so_FtTurns, so_ftAt, trivial⟩
-- loop 0 (key 15) exit 0: [1, 2, 6, 10, 12]
-- loop 0 (key 15) exit 2: [4]
-- loop 0 (key 15) exit 3: [2, 10]
abbrev kp_lawFooterBegins : Keep := keepT [(15, 0, [(1, none), (2, none), (6, none), (10, none), (12, none)]), (15, 2, [(4, none)]), (15, 3, [(2, none), (10, none)])]
noncomputable abbrev b_lawFooterBegins_0 : Code := loopAt Tryd.f8 0
noncomputable def sp_lawFooterBegins_0 (x : (Int × (List UInt8 × List UInt8 × Int × Int × (Int × Int × Int × Int × Int) × (Int × Int × Int × Int × Int)) × Int × (Int × Bool × List UInt8) × Int)) : Option ((Int × (List UInt8 × List UInt8 × Int × Int × (Int × Int × Int × Int × Int) × (Int × Int × Int × Int × Int)) × Int × (Int × Bool × List UInt8) × Int) ⊕ ((Bool) ⊕ ((List UInt8 × List UInt8 × Int × Int × (Int × Int × Int × Int × Int) × (Int × Int × Int × Int × Int)) × (Int × Bool × List UInt8)))) := (stepL Tryd.prog (lookT ct_lawFooterBegins) kp_lawFooterBegins (loopsT []) 0 false b_lawFooterBegins_0 (codP [pI, (.box cPlan), pI, (.box cTyp), pI]) (exS (exO .ret (codP [pB])) (exO (.ext 0) (codP [(.box cPlan), (.box cTyp)]))) x).run
noncomputable def w_lawFooterBegins_0 : (Int × (List UInt8 × List UInt8 × Int × Int × (Int × Int × Int × Int × Int) × (Int × Int × Int × Int × Int)) × Int × (Int × Bool × List UInt8) × Int) → Option ((Bool) ⊕ ((List UInt8 × List UInt8 × Int × Int × (Int × Int × Int × Int × Int) × (Int × Int × Int × Int × Int)) × (Int × Bool × List UInt8))) := whileO sp_lawFooterBegins_0
theorem ew_lawFooterBegins_0 (x : (Int × (List UInt8 × List UInt8 × Int × Int × (Int × Int × Int × Int × Int) × (Int × Int × Int × Int × Int)) × Int × (Int × Bool × List UInt8) × Int)) : w_lawFooterBegins_0 x = (sp_lawFooterBegins_0 x).bind (Sum.elim w_lawFooterBegins_0 some) := whileO_eq _ _
noncomputable abbrev l_lawFooterBegins_0 : LT := ltF (codP [pI, (.box cPlan), pI, (.box cTyp), pI]) (exS (exO .ret (codP [pB])) (exO (.ext 0) (codP [(.box cPlan), (.box cTyp)]))) w_lawFooterBegins_0
theorem lo_lawFooterBegins_0 : LoopOk Tryd.prog Tryd.f8.ntmps kp_lawFooterBegins 0 false b_lawFooterBegins_0 l_lawFooterBegins_0 := loopG mixed cs_lawFooterBegins (lps := loopsT []) (by kernel_rfl) (ls := []) (by kernel_rfl) lps_nil
noncomputable def F_lawFooterBegins (x : ((List UInt8 × List UInt8 × Int × Int × (Int × Int × Int × Int × Int) × (Int × Int × Int × Int × Int)) × Int)) : Option (Bool) := (evalF Tryd.prog (lookT ct_lawFooterBegins) (kp_lawFooterBegins) (loopsT [(15, l_lawFooterBegins_0)]) false false Tryd.f8 (codP [pPlan, pI]) 1 (codP [pB]) x).run
noncomputable abbrev s_lawFooterBegins : SpecT := specF (codP [pPlan, pI]) 1 (codP [pB]) F_lawFooterBegins
theorem so_lawFooterBegins : SoundT Tryd.prog 8 s_lawFooterBegins := soundG (P := Tryd.prog) mixed (t := ct_lawFooterBegins) cs_lawFooterBegins (f := 8) (fn := Tryd.f8) Tryd.func8 (by kernel_rfl) (by kernel_rfl) (by kernel_rfl) (ls := [b_lawFooterBegins_0]) (by kernel_rfl) (kp := kp_lawFooterBegins) (lps := loopsT [(15, l_lawFooterBegins_0)]) (bump := false) (ice := false) (A := (codP [pPlan, pI])) (n := 1) (R := (codP [pB])) fun _ => (lps_cons l_lawFooterBegins_0 (by kernel_rfl) lo_lawFooterBegins_0 lps_nil)

theorem es_lawFooterBegins_0 (y : Int) (p : List UInt8 × List UInt8 × Int × Int × (Int × Int × Int × Int × Int) × (Int × Int × Int × Int × Int)) (n : Int) (l : Int × Bool × List UInt8) (k : Int) : sp_lawFooterBegins_0 (y, p, n, l, k) = (
  bif decide (k ≤ IntKind.i64.wrap (y + (2 : Int))) then
    (F_FtTurns (p, k)).bind fun x1 =>
      bif decide (x1.snd.snd = (0 : Int)) then bif decide (x1.fst = n) then some (Sum.inr (Sum.inl l.snd.fst)) else some (Sum.inl (y, p, n, l, IntKind.i64.wrap (k + (1 : Int))))
      else some (Sum.inl (y, p, n, l, IntKind.i64.wrap (k + (1 : Int))))
  else some (Sum.inr (Sum.inr (p, l)))) := by kernel_rfl

theorem e_lawFooterBegins (p : List UInt8 × List UInt8 × Int × Int × (Int × Int × Int × Int × Int) × (Int × Int × Int × Int × Int)) (y : Int) : F_lawFooterBegins (p, y) = (
  (F_law18alive ()).bind fun x1 =>
    bif !x1 then some false
    else
      (F_law17LongA p).bind fun x2 =>
        bif x2 then some true
        else
          (F_FtTurns (p, y)).bind fun x3 =>
            bif decide (x3.snd.snd ≠ (0 : Int)) then bif decide (x3.fst = (0 : Int)) then some (decide (x3.snd.fst = (0 : Int))) else some false
            else
              (F_ftAt (p, x3.fst)).bind fun x4 =>
                bif decide (x4.snd = (0 : Int)) then
                  bif !x4.fst.snd.fst then some false
                  else
                    bif decide (x4.fst.fst ≠ p.snd.snd.snd.fst) then some false
                    else
                      bif decide (x4.fst.snd.snd ≠ p.snd.fst) then some false
                      else
                        (F_ftAt (p, x3.snd.fst)).bind fun x5 =>
                          bif decide (x5.snd ≠ (0 : Int)) then some true
                          else
                            bif x5.fst.snd.fst then
                              bif decide (x3.fst = x3.snd.fst) then some true
                              else
                                (w_lawFooterBegins_0 (y, p, x3.snd.fst, x5.fst, IntKind.i64.wrap (y - (2 : Int)))).bind fun x6 =>
                                  Sum.elim (fun x7 => some x7)
                                    (fun x7 => bif !x7.snd.snd.fst then bif decide (x7.snd.fst = x7.fst.snd.snd.fst) then some (decide (x7.snd.snd.snd = x7.fst.fst)) else some false else some false) x6
                            else
                              (w_lawFooterBegins_0 (y, p, x3.snd.fst, x5.fst, IntKind.i64.wrap (y - (2 : Int)))).bind fun x6 =>
                                Sum.elim (fun x7 => some x7)
                                  (fun x7 => bif !x7.snd.snd.fst then bif decide (x7.snd.fst = x7.fst.snd.snd.fst) then some (decide (x7.snd.snd.snd = x7.fst.fst)) else some false else some false) x6
                else
                  (F_ftAt (p, x3.snd.fst)).bind fun x5 =>
                    bif decide (x5.snd ≠ (0 : Int)) then some true
                    else
                      bif x5.fst.snd.fst then
                        bif decide (x3.fst = x3.snd.fst) then some true
                        else
                          (w_lawFooterBegins_0 (y, p, x3.snd.fst, x5.fst, IntKind.i64.wrap (y - (2 : Int)))).bind fun x6 =>
                            Sum.elim (fun x7 => some x7)
                              (fun x7 => bif !x7.snd.snd.fst then bif decide (x7.snd.fst = x7.fst.snd.snd.fst) then some (decide (x7.snd.snd.snd = x7.fst.fst)) else some false else some false) x6
                      else
                        (w_lawFooterBegins_0 (y, p, x3.snd.fst, x5.fst, IntKind.i64.wrap (y - (2 : Int)))).bind fun x6 =>
                          Sum.elim (fun x7 => some x7)
                            (fun x7 => bif !x7.snd.snd.fst then bif decide (x7.snd.fst = x7.fst.snd.snd.fst) then some (decide (x7.snd.snd.snd = x7.fst.fst)) else some false else some false) x6) := by kernel_rfl

end Go.Sm
/- A function that hands out an empty part of memory of its own, of any capacity: as an empty slice of one's own. No condition. -/
set_option linter.unusedVariables false
set_option linter.unusedSimpArgs false
namespace Go.Sm

def cutSpec (c : Cd) (F : Unit × Int → Option (List (τ c))) : SpecT := fun args H => match args, H with
  | [.nils, .int .i64 n], [] => .bnd (F ((), n)) fun l => .ite (decide (0 < l.length)) (.ret (.slc 0 0, [.arr false 0 c []])) .no
  | _, _ => .no
theorem cut_sound {P : Program} {f : FuncId} {c : Cd} {F : Unit × Int → Option (List (τ c))} (h : SoundT P f (specF (codP [.nl, pI]) 1 (codP [.cut c]) F)) : SoundT P f (cutSpec c F) := by
  intro args H r H' hr
  replace hr : (cutSpec c F args H).run = some (r, H') := hr
  unfold cutSpec at hr
  split at hr
  · rename_i n
    obtain ⟨l, hF, hr⟩ := run_bnd hr
    rcases run_ite hr with ⟨hl, hr⟩ | ⟨_, hr⟩
    · have hl := of_decide_eq_true hl
      obtain ⟨rfl, rfl⟩ := Prod.mk.inj (run_ret hr)
      have hS := h [.nils, .int .i64 n] [] (.sub 0 0 (sizeC c) 0 0) [.arr false 0 c l] (by
        show (specF (codP [.nl, pI]) 1 (codP [.cut c]) F [.nils, .int .i64 n] []).run = _
        unfold specF
        rw [show (codP [.nl, pI]).dec [.nils, .int .i64 n] [] = some ((), n) from rfl]
        dsimp only
        rw [hF]
        rfl)
      refine ⟨hS.there, fun M e w vs hr hc => (hS.calls M e w vs hr hc).mono fun en w' ⟨cv, M', e', he, hT, hv⟩ => ?_⟩
      have hr' := hT.hr
      have hN : e'.N = 1 := hr'.N
      have hb := hr'.blk 0 _ rfl
      obtain ⟨h1, h2, h3, h4⟩ := hb
      refine ⟨cv, M', { e' with cnt := fun b => if b = 0 then 0 else e'.cnt b }, he, ?_, ?_⟩
      · have hfoot : ∀ i, foot { e' with cnt := fun b => if b = 0 then 0 else e'.cnt b } [.arr false 0 c []] i ↔ foot e' [.arr false 0 c l] i := by
          intro i
          constructor
          · rintro ⟨b, x, hx, hi⟩
            cases b with
            | zero => obtain rfl := Option.some.inj hx; exact ⟨0, _, rfl, hi⟩
            | succ b => simp at hx
          · rintro ⟨b, x, hx, hi⟩
            cases b with
            | zero => obtain rfl := Option.some.inj hx; exact ⟨0, _, rfl, hi⟩
            | succ b => simp at hx
        have he0 : e.N = 0 := hr.N
        exact {
          mle := hT.mle
          rle := ⟨hT.rle.N, fun b hb => by omega, fun b hb => by omega, fun b hb => by omega, fun b hb => by omega⟩
          hr := {
            N := hr'.N
            mem := hr'.mem
            blk := fun b x hx => by
              cases b with
              | zero =>
                obtain rfl := Option.some.inj hx
                refine ⟨h1, rfl, h3, ?_⟩
                show match e'.g 0 with | none => _ | some (gg, cc) => _
                cases hg : e'.g 0 with
                | none => rfl
                | some p =>
                  obtain ⟨gg, cc⟩ := p
                  rw [hg] at h4
                  obtain ⟨_, arr, ty, fz, q1, q2, q3, q4, q5⟩ := h4
                  exact ⟨Nat.zero_le _, arr, ty, fz, q1, q2, q3, fun i j y z hy hz => by simp at hy, q5⟩
              | succ b => simp at hx
            inj := fun b b' x x' i hx hx' _ _ => by
              cases b with
              | zero =>
                cases b' with
                | zero => rfl
                | succ b' => simp at hx'
              | succ b => simp at hx
            glob := hr'.glob
            kind := fun b x hx => by
              cases b with
              | zero => obtain rfl := Option.some.inj hx; exact hr'.kind 0 (.arr false 0 c l) rfl
              | succ b => simp at hx }
          os := hT.os
          tape := hT.tape
          output := hT.output
          size := hT.size
          same := hT.same
          ids := fun i hi => hT.ids i ((hfoot i).1 hi)
          fresh := hT.fresh }
      · cases hv with
        | @sub _ _ _ _ _ _ a m cap hbN ha hvv hh =>
          obtain ⟨rfl, _, _, hgg⟩ := hh h1.symm
          refine .slc hbN ha hvv fun _ => ⟨rfl, ?_⟩
          show match e'.g 0 with | none => _ | some (gg, cc) => _
          cases hg : e'.g 0 with
          | none =>
            rw [hg] at h4
            have h4 : l = [] := h4
            subst h4
            simp at hl
          | some p =>
            obtain ⟨gg, cc⟩ := p
            rw [hg] at h4
            obtain ⟨q0, _⟩ := h4
            obtain ⟨k1, k2⟩ := hgg gg cc hg
            have := k2 (by omega)
            rw [Nat.zero_mul] at this
            exact ⟨this, by omega⟩
    · exact (run_no hr).elim
  · exact (run_no hr).elim
end Go.Sm
/- The turn behind a second; the law FooterSteps. No condition. -/
set_option linter.unusedVariables false
namespace Go.Sm
open Go.Proofs
/-! ### slices.Grow[[]int64,int64] -/
noncomputable abbrev ct_slGrow : List (FuncId × Bool × SpecT) := []
theorem cs_slGrow : AllSound Tryd.prog ct_slGrow := trivial
noncomputable def F_slGrow (x : (Unit × Int)) : Option ((List Int)) := (evalF Tryd.prog (lookT ct_slGrow) (keepT []) (loopsT []) false false Tryd.f118 (codP [.nl, pI]) 1 (codP [(.cut cI)]) x).run
noncomputable abbrev s_slGrow : SpecT := specF (codP [.nl, pI]) 1 (codP [(.cut cI)]) F_slGrow
theorem so_slGrow : SoundT Tryd.prog 118 s_slGrow := soundG (P := Tryd.prog) mixed (t := ct_slGrow) cs_slGrow (f := 118) (fn := Tryd.f118) Tryd.func118 (by kernel_rfl) (by kernel_rfl) (by kernel_rfl) (ls := []) (by kernel_rfl) (kp := keepT []) (lps := loopsT []) (bump := false) (ice := false) (A := (codP [.nl, pI])) (n := 1) (R := (codP [(.cut cI)])) fun _ => lps_nil

theorem e_slGrow (n : Int) : F_slGrow ((), n) = (
  bif decide (n < (0 : Int)) then none
  else
    bif decide ((0 : Int) < IntKind.i64.wrap (n - (0 : Int))) then
      bif decide ((0 : Int) < IntKind.i64.wrap (n - (0 : Int)) ∧ (8 : Int) * IntKind.i64.wrap (n - (0 : Int)) ≤ (140737488355328 : Int) ∧ IntKind.i64.wrap (n - (0 : Int)) ≤ (140737488355328 : Int)) then
        bif decide ((0 : Int) ≤ (0 : Int) ∧ (0 : Int) ≤ (0 : Int) ∧ (0 : Int) ≤ (↑(List.replicate (IntKind.i64.wrap (n - (0 : Int))).toNat (0 : Int)).length : Int)) then
          some (List.replicate (IntKind.i64.wrap (n - (0 : Int))).toNat (0 : Int))
        else none
      else none
    else none) := by kernel_rfl


noncomputable abbrev s_Grow0 : SpecT := cutSpec cI F_slGrow
theorem so_Grow0 : SoundT Tryd.prog 118 s_Grow0 := cut_sound so_slGrow

/-! ### slices.Concat[[]int64,int64] -/
noncomputable abbrev ct_slConcat : List (FuncId × Bool × SpecT) := [(118, false, s_Grow0)]
theorem cs_slConcat : AllSound Tryd.prog ct_slConcat := ⟨so_Grow0, trivial⟩
-- loop 0 (key 3) exit 0: [0, 3, 9, 10, 11]
-- loop 0 (key 3) exit 3: [0, 3]
-- loop 1 (key 11) exit 0: [6, 25, 26, 27]
-- loop 1 (key 11) exit 5: [6]
abbrev kp_slConcat : Keep := keepT [(3, 0, [(0, none), (3, none), (9, none), (10, none), (11, none)]), (3, 3, [(0, none), (3, none)]), (11, 0, [(6, some cI), (25, none), (26, none), (27, none)]), (11, 5, [(6, some cI)])]
noncomputable abbrev b_slConcat_0 : Code := loopAt Tryd.f85 0
noncomputable abbrev b_slConcat_1 : Code := loopAt Tryd.f85 1
noncomputable def sp_slConcat_1 (x : ((List Int) × (List (List Int)) × Int × Int)) : Option (((List Int) × (List (List Int)) × Int × Int) ⊕ ((List Int))) := (stepL Tryd.prog (lookT ct_slConcat) kp_slConcat (loopsT []) 0 false b_slConcat_1 (codP [(.own cI), (.pure (.lst (.lst cI))), pI, pI]) (exO (.ext 2) (codP [(.own cI)])) x).run
noncomputable def w_slConcat_1 : ((List Int) × (List (List Int)) × Int × Int) → Option ((List Int)) := whileO sp_slConcat_1
theorem ew_slConcat_1 (x : ((List Int) × (List (List Int)) × Int × Int)) : w_slConcat_1 x = (sp_slConcat_1 x).bind (Sum.elim w_slConcat_1 some) := whileO_eq _ _
noncomputable abbrev l_slConcat_1 : LT := ltF (codP [(.own cI), (.pure (.lst (.lst cI))), pI, pI]) (exO (.ext 2) (codP [(.own cI)])) w_slConcat_1
theorem lo_slConcat_1 : LoopOk Tryd.prog Tryd.f85.ntmps kp_slConcat 0 false b_slConcat_1 l_slConcat_1 := loopG mixed cs_slConcat (lps := loopsT []) (by kernel_rfl) (ls := []) (by kernel_rfl) lps_nil
noncomputable def sp_slConcat_0 (x : ((List (List Int)) × Int × (List (List Int)) × Int × Int)) : Option (((List (List Int)) × Int × (List (List Int)) × Int × Int) ⊕ ((List (List Int)) × Int)) := (stepL Tryd.prog (lookT ct_slConcat) kp_slConcat (loopsT []) 0 false b_slConcat_0 (codP [(.pure (.lst (.lst cI))), pI, (.pure (.lst (.lst cI))), pI, pI]) (exO (.ext 0) (codP [(.pure (.lst (.lst cI))), pI])) x).run
noncomputable def w_slConcat_0 : ((List (List Int)) × Int × (List (List Int)) × Int × Int) → Option ((List (List Int)) × Int) := whileO sp_slConcat_0
theorem ew_slConcat_0 (x : ((List (List Int)) × Int × (List (List Int)) × Int × Int)) : w_slConcat_0 x = (sp_slConcat_0 x).bind (Sum.elim w_slConcat_0 some) := whileO_eq _ _
noncomputable abbrev l_slConcat_0 : LT := ltF (codP [(.pure (.lst (.lst cI))), pI, (.pure (.lst (.lst cI))), pI, pI]) (exO (.ext 0) (codP [(.pure (.lst (.lst cI))), pI])) w_slConcat_0
theorem lo_slConcat_0 : LoopOk Tryd.prog Tryd.f85.ntmps kp_slConcat 0 false b_slConcat_0 l_slConcat_0 := loopG mixed cs_slConcat (lps := loopsT []) (by kernel_rfl) (ls := []) (by kernel_rfl) lps_nil
noncomputable def F_slConcat (x : ((List (List Int)))) : Option ((List Int)) := (evalF Tryd.prog (lookT ct_slConcat) (kp_slConcat) (loopsT [(3, l_slConcat_0), (11, l_slConcat_1)]) false true Tryd.f85 (codP [(.pure (.lst (.lst cI)))]) 1 (codP [pL]) x).run
noncomputable abbrev s_slConcat : SpecT := specF (codP [(.pure (.lst (.lst cI)))]) 1 (codP [pL]) F_slConcat
theorem so_slConcat : SoundT Tryd.prog 85 s_slConcat := soundG (P := Tryd.prog) mixed (t := ct_slConcat) cs_slConcat (f := 85) (fn := Tryd.f85) Tryd.func85 (by kernel_rfl) (by kernel_rfl) (by kernel_rfl) (ls := [b_slConcat_0, b_slConcat_1]) (by kernel_rfl) (kp := kp_slConcat) (lps := loopsT [(3, l_slConcat_0), (11, l_slConcat_1)]) (bump := false) (ice := true) (A := (codP [(.pure (.lst (.lst cI)))])) (n := 1) (R := (codP [pL])) fun _ => (lps_cons l_slConcat_0 (by kernel_rfl) lo_slConcat_0 (lps_cons l_slConcat_1 (by kernel_rfl) lo_slConcat_1 lps_nil))

theorem es_slConcat_0 (l : List (List Int)) (n : Int) (k : List (List Int)) (a b : Int) : sp_slConcat_0 (l, n, k, a, b) = (
  bif decide (b < a) then
    (getI k b).bind fun x1 =>
      bif decide (IntKind.i64.wrap (n + (↑x1.length : Int)) < (0 : Int)) then none else some (Sum.inl (l, IntKind.i64.wrap (n + (↑x1.length : Int)), k, a, IntKind.i64.wrap (b + (1 : Int))))
  else some (Sum.inr (l, n))) := by kernel_rfl

theorem es_slConcat_1 (o : List Int) (k : List (List Int)) (a b : Int) : sp_slConcat_1 (o, k, a, b) = (
  bif decide (b < a) then (getI k b).bind fun x1 => bif roomB o.length x1.length (8 : Nat) then some (Sum.inl (o ++ x1, k, a, IntKind.i64.wrap (b + (1 : Int)))) else none else some (Sum.inr o)) := by kernel_rfl

theorem e_slConcat (l : List (List Int)) : F_slConcat l = (
  (w_slConcat_0 (l, (0 : Int), l, (↑l.length : Int), (0 : Int))).bind fun x1 =>
    (F_slGrow ((), x1.snd)).bind fun x2 => bif decide ((0 : Nat) < x2.length) then (w_slConcat_1 ([], x1.fst, (↑(List.length x1.fst) : Int), (0 : Int))).bind fun x3 => some x3 else none) := by kernel_rfl


/-! ### horologe/footer.Next -/
noncomputable abbrev ct_ftNext : List (FuncId × Bool × SpecT) := [(28, false, s_pxCheck), (82, false, s_ftYear), (33, false, s_pxChanges), (84, false, s_ftAbout), (85, true, s_slConcat)]
theorem cs_ftNext : AllSound Tryd.prog ct_ftNext := ⟨so_pxCheck, so_ftYear, so_pxChanges, so_ftAbout, so_slConcat, trivial⟩
-- loop 0 (key 11) exit 0: [1, 4, 5, 44, 45, 46]
-- loop 0 (key 11) exit 3: [4, 5]
abbrev kp_ftNext : Keep := keepT [(11, 0, [(1, none), (4, none), (5, none), (44, none), (45, none), (46, none)]), (11, 3, [(4, none), (5, none)])]
noncomputable abbrev b_ftNext_0 : Code := loopAt Tryd.f40 0
noncomputable def sp_ftNext_0 (x : (Int × Int × Bool × (List Int) × Int × Int)) : Option ((Int × Int × Bool × (List Int) × Int × Int) ⊕ (Int × Bool)) := (stepL Tryd.prog (lookT ct_ftNext) kp_ftNext (loopsT []) 0 false b_ftNext_0 (codP [pI, pI, pB, pL, pI, pI]) (exO (.ext 0) (codP [pI, pB])) x).run
noncomputable def w_ftNext_0 : (Int × Int × Bool × (List Int) × Int × Int) → Option (Int × Bool) := whileO sp_ftNext_0
theorem ew_ftNext_0 (x : (Int × Int × Bool × (List Int) × Int × Int)) : w_ftNext_0 x = (sp_ftNext_0 x).bind (Sum.elim w_ftNext_0 some) := whileO_eq _ _
noncomputable abbrev l_ftNext_0 : LT := ltF (codP [pI, pI, pB, pL, pI, pI]) (exO (.ext 0) (codP [pI, pB])) w_ftNext_0
theorem lo_ftNext_0 : LoopOk Tryd.prog Tryd.f40.ntmps kp_ftNext 0 false b_ftNext_0 l_ftNext_0 := loopG mixed cs_ftNext (lps := loopsT []) (by kernel_rfl) (ls := []) (by kernel_rfl) lps_nil
noncomputable def F_ftNext (x : ((List UInt8 × List UInt8 × Int × Int × (Int × Int × Int × Int × Int) × (Int × Int × Int × Int × Int)) × Int)) : Option (Int × Bool × Int) := (evalF Tryd.prog (lookT ct_ftNext) (kp_ftNext) (loopsT [(11, l_ftNext_0)]) false false Tryd.f40 (codP [pPlan, pI]) 3 (codP [pI, pB, pE]) x).run
noncomputable abbrev s_ftNext : SpecT := specF (codP [pPlan, pI]) 3 (codP [pI, pB, pE]) F_ftNext
theorem so_ftNext : SoundT Tryd.prog 40 s_ftNext := soundG (P := Tryd.prog) mixed (t := ct_ftNext) cs_ftNext (f := 40) (fn := Tryd.f40) Tryd.func40 (by kernel_rfl) (by kernel_rfl) (by kernel_rfl) (ls := [b_ftNext_0]) (by kernel_rfl) (kp := kp_ftNext) (lps := loopsT [(11, l_ftNext_0)]) (bump := false) (ice := false) (A := (codP [pPlan, pI])) (n := 3) (R := (codP [pI, pB, pE])) fun _ => (lps_cons l_ftNext_0 (by kernel_rfl) lo_ftNext_0 lps_nil)

theorem es_ftNext_0 (t u : Int) (b : Bool) (l : List Int) (n i : Int) : sp_ftNext_0 (t, u, b, l, n, i) = (
  bif decide (i < n) then
    (getI l i).bind fun x1 =>
      bif decide (t < x1) then
        bif !b then some (Sum.inl (t, x1, true, l, n, IntKind.i64.wrap (i + (1 : Int))))
        else bif decide (x1 < u) then some (Sum.inl (t, x1, true, l, n, IntKind.i64.wrap (i + (1 : Int)))) else some (Sum.inl (t, u, b, l, n, IntKind.i64.wrap (i + (1 : Int))))
      else some (Sum.inl (t, u, b, l, n, IntKind.i64.wrap (i + (1 : Int))))
  else some (Sum.inr (u, b))) := by kernel_rfl

theorem e_ftNext (p : List UInt8 × List UInt8 × Int × Int × (Int × Int × Int × Int × Int) × (Int × Int × Int × Int × Int)) (t : Int) : F_ftNext (p, t) = (
  (F_pxCheck p).bind fun x1 =>
    bif decide (x1 ≠ (0 : Int)) then some ((0 : Int), false, x1)
    else
      (F_ftYear t).bind fun x2 =>
        bif decide (x2.snd ≠ (0 : Int)) then some ((0 : Int), false, x2.snd)
        else
          (F_pxChanges p).bind fun x3 =>
            bif !x3 then some ((0 : Int), false, x2.snd)
            else
              (F_ftAbout (p, x2.fst)).bind fun x4 =>
                bif decide (x4.snd.snd ≠ (0 : Int)) then some ((0 : Int), false, x4.snd.snd)
                else (F_slConcat [x4.fst, x4.snd.fst]).bind fun x5 => (w_ftNext_0 (t, (0 : Int), false, x5, (↑x5.length : Int), (0 : Int))).bind fun x6 => some (x6.fst, x6.snd, (0 : Int))) := by kernel_rfl


/-! ### horologe/horologelaw18.FooterSteps -/
noncomputable abbrev ct_lawFooterSteps : List (FuncId × Bool × SpecT) := [(37, false, s_law18alive), (27, false, s_law17LongA), (39, false, s_ftAt), (40, false, s_ftNext), (33, false, s_pxChanges)]
theorem cs_lawFooterSteps : AllSound Tryd.prog ct_lawFooterSteps := ⟨so_law18alive, so_law17LongA, so_ftAt, so_ftNext, so_pxChanges, trivial⟩
noncomputable def F_lawFooterSteps (x : ((List UInt8 × List UInt8 × Int × Int × (Int × Int × Int × Int × Int) × (Int × Int × Int × Int × Int)) × Int)) : Option (Bool) := (evalF Tryd.prog (lookT ct_lawFooterSteps) (keepT []) (loopsT []) false false Tryd.f9 (codP [pPlan, pI]) 1 (codP [pB]) x).run
noncomputable abbrev s_lawFooterSteps : SpecT := specF (codP [pPlan, pI]) 1 (codP [pB]) F_lawFooterSteps
theorem so_lawFooterSteps : SoundT Tryd.prog 9 s_lawFooterSteps := soundG (P := Tryd.prog) mixed (t := ct_lawFooterSteps) cs_lawFooterSteps (f := 9) (fn := Tryd.f9) Tryd.func9 (by kernel_rfl) (by kernel_rfl) (by kernel_rfl) (ls := []) (by kernel_rfl) (kp := keepT []) (lps := loopsT []) (bump := false) (ice := false) (A := (codP [pPlan, pI])) (n := 1) (R := (codP [pB])) fun _ => lps_nil

theorem e_lawFooterSteps (p : List UInt8 × List UInt8 × Int × Int × (Int × Int × Int × Int × Int) × (Int × Int × Int × Int × Int)) (t : Int) : F_lawFooterSteps (p, t) = (
  (F_law18alive ()).bind fun x1 =>
    bif !x1 then some false
    else
      (F_law17LongA p).bind fun x2 =>
        bif x2 then some true
        else
          bif decide ((1125899906842624 : Int) < t) then some true
          else
            bif decide (t < (-1125899906842624 : Int)) then some true
            else
              (F_ftAt (p, t)).bind fun x3 =>
                bif decide (x3.snd ≠ (0 : Int)) then some (decide (x3.fst.fst = (0 : Int)) && (x3.fst.snd.fst == false && (decide (x3.fst.snd.snd = []) && true)))
                else
                  (F_ftNext (p, t)).bind fun x4 =>
                    bif decide (x4.snd.snd ≠ (0 : Int)) then some false
                    else
                      (F_pxChanges p).bind fun x5 =>
                        bif !x4.snd.fst == x5 then some false
                        else
                          bif x4.snd.fst then
                            bif decide (x4.fst ≤ t) then some false
                            else
                              (F_ftAt (p, IntKind.i64.wrap (t + (1 : Int)))).bind fun x6 =>
                                bif decide (x6.snd = (0 : Int)) then
                                  bif !(decide (x3.fst.fst = x6.fst.fst) && (x3.fst.snd.fst == x6.fst.snd.fst && (decide (x3.fst.snd.snd = x6.fst.snd.snd) && true))) then
                                    bif !x4.snd.fst then some false
                                    else
                                      bif decide (x4.fst ≠ IntKind.i64.wrap (t + (1 : Int))) then some false
                                      else
                                        bif !x4.snd.fst then some true
                                        else
                                          (F_ftAt (p, IntKind.i64.wrap (x4.fst - (1 : Int)))).bind fun x7 =>
                                            bif decide (x7.snd ≠ (0 : Int)) then some true
                                            else some (decide (x7.fst.fst = x3.fst.fst) && (x7.fst.snd.fst == x3.fst.snd.fst && (decide (x7.fst.snd.snd = x3.fst.snd.snd) && true)))
                                  else
                                    bif !x4.snd.fst then some true
                                    else
                                      (F_ftAt (p, IntKind.i64.wrap (x4.fst - (1 : Int)))).bind fun x7 =>
                                        bif decide (x7.snd ≠ (0 : Int)) then some true
                                        else some (decide (x7.fst.fst = x3.fst.fst) && (x7.fst.snd.fst == x3.fst.snd.fst && (decide (x7.fst.snd.snd = x3.fst.snd.snd) && true)))
                                else
                                  bif !x4.snd.fst then some true
                                  else
                                    (F_ftAt (p, IntKind.i64.wrap (x4.fst - (1 : Int)))).bind fun x7 =>
                                      bif decide (x7.snd ≠ (0 : Int)) then some true
                                      else some (decide (x7.fst.fst = x3.fst.fst) && (x7.fst.snd.fst == x3.fst.snd.fst && (decide (x7.fst.snd.snd = x3.fst.snd.snd) && true)))
                          else
                            (F_ftAt (p, IntKind.i64.wrap (t + (1 : Int)))).bind fun x6 =>
                              bif decide (x6.snd = (0 : Int)) then
                                bif !(decide (x3.fst.fst = x6.fst.fst) && (x3.fst.snd.fst == x6.fst.snd.fst && (decide (x3.fst.snd.snd = x6.fst.snd.snd) && true))) then
                                  bif !x4.snd.fst then some false
                                  else
                                    bif decide (x4.fst ≠ IntKind.i64.wrap (t + (1 : Int))) then some false
                                    else
                                      bif !x4.snd.fst then some true
                                      else
                                        (F_ftAt (p, IntKind.i64.wrap (x4.fst - (1 : Int)))).bind fun x7 =>
                                          bif decide (x7.snd ≠ (0 : Int)) then some true
                                          else some (decide (x7.fst.fst = x3.fst.fst) && (x7.fst.snd.fst == x3.fst.snd.fst && (decide (x7.fst.snd.snd = x3.fst.snd.snd) && true)))
                                else
                                  bif !x4.snd.fst then some true
                                  else
                                    (F_ftAt (p, IntKind.i64.wrap (x4.fst - (1 : Int)))).bind fun x7 =>
                                      bif decide (x7.snd ≠ (0 : Int)) then some true
                                      else some (decide (x7.fst.fst = x3.fst.fst) && (x7.fst.snd.fst == x3.fst.snd.fst && (decide (x7.fst.snd.snd = x3.fst.snd.snd) && true)))
                              else
                                bif !x4.snd.fst then some true
                                else
                                  (F_ftAt (p, IntKind.i64.wrap (x4.fst - (1 : Int)))).bind fun x7 =>
                                    bif decide (x7.snd ≠ (0 : Int)) then some true
                                    else some (decide (x7.fst.fst = x3.fst.fst) && (x7.fst.snd.fst == x3.fst.snd.fst && (decide (x7.fst.snd.snd = x3.fst.snd.snd) && true)))) := by kernel_rfl

end Go.Sm
/- The references of days, rules' days and footers; the law FooterTells. No condition. -/
set_option linter.unusedVariables false
namespace Go.Sm
open Go.Proofs
















end Go.Sm
/- Zones: all parts but the plan; the first usual type; the zone of a plan. No condition. -/
set_option linter.unusedVariables false
namespace Go.Sm
open Go.Proofs
/-! ### (horologe/zone.Zone).ranged$1 -/
noncomputable abbrev ct_zStrange : List (FuncId × Bool × SpecT) := []
theorem cs_zStrange : AllSound Tryd.prog ct_zStrange := trivial
noncomputable def F_zStrange (x : (Int × (List Int × List Int × List (Int × Bool × List UInt8) × List (Int × Int) × Bool × (List UInt8 × List UInt8 × Int × Int × (Int × Int × Int × Int × Int) × (Int × Int × Int × Int × Int))))) : Option (Bool × (List Int × List Int × List (Int × Bool × List UInt8) × List (Int × Int) × Bool × (List UInt8 × List UInt8 × Int × Int × (Int × Int × Int × Int × Int) × (Int × Int × Int × Int × Int)))) := (evalF Tryd.prog (lookT ct_zStrange) (keepT []) (loopsT []) false false Tryd.f149 (codP [pI, (.boxw [.p cZone])]) 1 (codP [pB, (.memw [.p cZone])]) x).run
noncomputable abbrev s_zStrange : SpecT := specF (codP [pI, (.boxw [.p cZone])]) 1 (codP [pB, (.memw [.p cZone])]) F_zStrange
theorem so_zStrange : SoundT Tryd.prog 149 s_zStrange := soundG (P := Tryd.prog) mixed (t := ct_zStrange) cs_zStrange (f := 149) (fn := Tryd.f149) Tryd.func149 (by kernel_rfl) (by kernel_rfl) (by kernel_rfl) (ls := []) (by kernel_rfl) (kp := keepT []) (lps := loopsT []) (bump := false) (ice := false) (A := (codP [pI, (.boxw [.p cZone])])) (n := 1) (R := (codP [pB, (.memw [.p cZone])])) fun _ => lps_nil

theorem e_zStrange (k : Int) (z : List Int × List Int × List (Int × Bool × List UInt8) × List (Int × Int) × Bool × (List UInt8 × List UInt8 × Int × Int × (Int × Int × Int × Int × Int) × (Int × Int × Int × Int × Int))) : F_zStrange (k, z) = (
  bif decide (k < (0 : Int)) then some (true, z) else some (decide ((↑(List.length z.snd.snd.fst) : Int) ≤ k), z)) := by kernel_rfl

/-! ### (horologe/zone.Zone).ranged$2 -/
noncomputable abbrev ct_zFar : List (FuncId × Bool × SpecT) := []
theorem cs_zFar : AllSound Tryd.prog ct_zFar := trivial
noncomputable def F_zFar (x : ((Int × Bool × List UInt8))) : Option (Bool) := (evalF Tryd.prog (lookT ct_zFar) (keepT []) (loopsT []) false false Tryd.f150 (codP [pTyp]) 1 (codP [pB]) x).run
noncomputable abbrev s_zFar : SpecT := specF (codP [pTyp]) 1 (codP [pB]) F_zFar
theorem so_zFar : SoundT Tryd.prog 150 s_zFar := soundG (P := Tryd.prog) mixed (t := ct_zFar) cs_zFar (f := 150) (fn := Tryd.f150) Tryd.func150 (by kernel_rfl) (by kernel_rfl) (by kernel_rfl) (ls := []) (by kernel_rfl) (kp := keepT []) (lps := loopsT []) (bump := false) (ice := false) (A := (codP [pTyp])) (n := 1) (R := (codP [pB])) fun _ => lps_nil

theorem e_zFar (o : Int) (m : Bool) (s : List UInt8) : F_zFar (o, m, s) = (
  bif decide (o < (-89999 : Int)) then some true else some (decide ((89999 : Int) < o))) := by kernel_rfl

/-! ### (horologe/zone.Zone).ranged$3 -/
noncomputable abbrev ct_zEarly : List (FuncId × Bool × SpecT) := []
theorem cs_zEarly : AllSound Tryd.prog ct_zEarly := trivial
noncomputable def F_zEarly (x : ((Int × Int))) : Option (Bool) := (evalF Tryd.prog (lookT ct_zEarly) (keepT []) (loopsT []) false false Tryd.f151 (codP [pCor]) 1 (codP [pB]) x).run
noncomputable abbrev s_zEarly : SpecT := specF (codP [pCor]) 1 (codP [pB]) F_zEarly
theorem so_zEarly : SoundT Tryd.prog 151 s_zEarly := soundG (P := Tryd.prog) mixed (t := ct_zEarly) cs_zEarly (f := 151) (fn := Tryd.f151) Tryd.func151 (by kernel_rfl) (by kernel_rfl) (by kernel_rfl) (ls := []) (by kernel_rfl) (kp := keepT []) (lps := loopsT []) (bump := false) (ice := false) (A := (codP [pCor])) (n := 1) (R := (codP [pB])) fun _ => lps_nil

theorem e_zEarly (a t : Int) : F_zEarly (a, t) = (
  some (decide (a < (0 : Int)))) := by kernel_rfl

/-! ### (horologe/zone.Zone).named$1 -/
noncomputable abbrev ct_zUnnamed : List (FuncId × Bool × SpecT) := [(34, false, s_pxName)]
theorem cs_zUnnamed : AllSound Tryd.prog ct_zUnnamed := ⟨so_pxName, trivial⟩
noncomputable def F_zUnnamed (x : ((Int × Bool × List UInt8))) : Option (Bool) := (evalF Tryd.prog (lookT ct_zUnnamed) (keepT []) (loopsT []) false false Tryd.f155 (codP [pTyp]) 1 (codP [pB]) x).run
noncomputable abbrev s_zUnnamed : SpecT := specF (codP [pTyp]) 1 (codP [pB]) F_zUnnamed
theorem so_zUnnamed : SoundT Tryd.prog 155 s_zUnnamed := soundG (P := Tryd.prog) mixed (t := ct_zUnnamed) cs_zUnnamed (f := 155) (fn := Tryd.f155) Tryd.func155 (by kernel_rfl) (by kernel_rfl) (by kernel_rfl) (ls := []) (by kernel_rfl) (kp := keepT []) (lps := loopsT []) (bump := false) (ice := false) (A := (codP [pTyp])) (n := 1) (R := (codP [pB])) fun _ => lps_nil

theorem e_zUnnamed (o : Int) (m : Bool) (s : List UInt8) : F_zUnnamed (o, m, s) = (
  (F_pxName s).bind fun x1 => some !x1) := by kernel_rfl

/-! ### horologe/zone.First$1 -/
noncomputable abbrev ct_zUsual : List (FuncId × Bool × SpecT) := []
theorem cs_zUsual : AllSound Tryd.prog ct_zUsual := trivial
noncomputable def F_zUsual (x : ((Int × Bool × List UInt8))) : Option (Bool) := (evalF Tryd.prog (lookT ct_zUsual) (keepT []) (loopsT []) false false Tryd.f100 (codP [pTyp]) 1 (codP [pB]) x).run
noncomputable abbrev s_zUsual : SpecT := specF (codP [pTyp]) 1 (codP [pB]) F_zUsual
theorem so_zUsual : SoundT Tryd.prog 100 s_zUsual := soundG (P := Tryd.prog) mixed (t := ct_zUsual) cs_zUsual (f := 100) (fn := Tryd.f100) Tryd.func100 (by kernel_rfl) (by kernel_rfl) (by kernel_rfl) (ls := []) (by kernel_rfl) (kp := keepT []) (lps := loopsT []) (bump := false) (ice := false) (A := (codP [pTyp])) (n := 1) (R := (codP [pB])) fun _ => lps_nil

theorem e_zUsual (o : Int) (m : Bool) (s : List UInt8) : F_zUsual (o, m, s) = (
  some !m) := by kernel_rfl


/-! ### slices.IndexFunc[[]int,int] -/
noncomputable abbrev ct_ixStrange : List (FuncId × Bool × SpecT) := [(149, false, s_zStrange)]
theorem cs_ixStrange : AllSound Tryd.prog ct_ixStrange := ⟨so_zStrange, trivial⟩
-- loop 0 (key 2) exit 0: [0, 1, 7, 8]
-- loop 0 (key 2) exit 2: [4]
-- loop 0 (key 2) exit 3: []
abbrev kp_ixStrange : Keep := keepT [(2, 0, [(0, none), (1, none), (7, none), (8, none)]), (2, 2, [(4, none)]), (2, 3, [])]
noncomputable abbrev b_ixStrange_0 : Code := loopAt Tryd.f173 0
noncomputable def sp_ixStrange_0 (x : ((List Int) × (List Int × List Int × List (Int × Bool × List UInt8) × List (Int × Int) × Bool × (List UInt8 × List UInt8 × Int × Int × (Int × Int × Int × Int × Int) × (Int × Int × Int × Int × Int))) × Int × Int)) : Option (((List Int) × (List Int × List Int × List (Int × Bool × List UInt8) × List (Int × Int) × Bool × (List UInt8 × List UInt8 × Int × Int × (Int × Int × Int × Int × Int) × (Int × Int × Int × Int × Int))) × Int × Int) ⊕ ((Int × (List Int × List Int × List (Int × Bool × List UInt8) × List (Int × Int) × Bool × (List UInt8 × List UInt8 × Int × Int × (Int × Int × Int × Int × Int) × (Int × Int × Int × Int × Int)))) ⊕ ((List Int × List Int × List (Int × Bool × List UInt8) × List (Int × Int) × Bool × (List UInt8 × List UInt8 × Int × Int × (Int × Int × Int × Int × Int) × (Int × Int × Int × Int × Int)))))) := (stepL Tryd.prog (lookT ct_ixStrange) kp_ixStrange (loopsT []) 1 false b_ixStrange_0 (codP [pL, (.fnb 149 [.p cZone]), pI, pI]) (exS (exO .ret (codP [pI, (.memw [.p cZone])])) (exO (.ext 0) (codP [(.memw [.p cZone])]))) x).run
noncomputable def w_ixStrange_0 : ((List Int) × (List Int × List Int × List (Int × Bool × List UInt8) × List (Int × Int) × Bool × (List UInt8 × List UInt8 × Int × Int × (Int × Int × Int × Int × Int) × (Int × Int × Int × Int × Int))) × Int × Int) → Option ((Int × (List Int × List Int × List (Int × Bool × List UInt8) × List (Int × Int) × Bool × (List UInt8 × List UInt8 × Int × Int × (Int × Int × Int × Int × Int) × (Int × Int × Int × Int × Int)))) ⊕ ((List Int × List Int × List (Int × Bool × List UInt8) × List (Int × Int) × Bool × (List UInt8 × List UInt8 × Int × Int × (Int × Int × Int × Int × Int) × (Int × Int × Int × Int × Int))))) := whileO sp_ixStrange_0
theorem ew_ixStrange_0 (x : ((List Int) × (List Int × List Int × List (Int × Bool × List UInt8) × List (Int × Int) × Bool × (List UInt8 × List UInt8 × Int × Int × (Int × Int × Int × Int × Int) × (Int × Int × Int × Int × Int))) × Int × Int)) : w_ixStrange_0 x = (sp_ixStrange_0 x).bind (Sum.elim w_ixStrange_0 some) := whileO_eq _ _
noncomputable abbrev l_ixStrange_0 : LT := ltF (codP [pL, (.fnb 149 [.p cZone]), pI, pI]) (exS (exO .ret (codP [pI, (.memw [.p cZone])])) (exO (.ext 0) (codP [(.memw [.p cZone])]))) w_ixStrange_0
theorem lo_ixStrange_0 : LoopOk Tryd.prog Tryd.f173.ntmps kp_ixStrange 1 false b_ixStrange_0 l_ixStrange_0 := loopG mixed cs_ixStrange (lps := loopsT []) (by kernel_rfl) (ls := []) (by kernel_rfl) lps_nil
noncomputable def F_ixStrange (x : ((List Int) × (List Int × List Int × List (Int × Bool × List UInt8) × List (Int × Int) × Bool × (List UInt8 × List UInt8 × Int × Int × (Int × Int × Int × Int × Int) × (Int × Int × Int × Int × Int))))) : Option (Int × (List Int × List Int × List (Int × Bool × List UInt8) × List (Int × Int) × Bool × (List UInt8 × List UInt8 × Int × Int × (Int × Int × Int × Int × Int) × (Int × Int × Int × Int × Int)))) := (evalF Tryd.prog (lookT ct_ixStrange) (kp_ixStrange) (loopsT [(2, l_ixStrange_0)]) false false Tryd.f173 (codP [pL, (.fnb 149 [.p cZone])]) 1 (codP [pI, (.memw [.p cZone])]) x).run
noncomputable abbrev s_ixStrange : SpecT := specF (codP [pL, (.fnb 149 [.p cZone])]) 1 (codP [pI, (.memw [.p cZone])]) F_ixStrange
theorem so_ixStrange : SoundT Tryd.prog 173 s_ixStrange := soundG (P := Tryd.prog) mixed (t := ct_ixStrange) cs_ixStrange (f := 173) (fn := Tryd.f173) Tryd.func173 (by kernel_rfl) (by kernel_rfl) (by kernel_rfl) (ls := [b_ixStrange_0]) (by kernel_rfl) (kp := kp_ixStrange) (lps := loopsT [(2, l_ixStrange_0)]) (bump := false) (ice := false) (A := (codP [pL, (.fnb 149 [.p cZone])])) (n := 1) (R := (codP [pI, (.memw [.p cZone])])) fun _ => (lps_cons l_ixStrange_0 (by kernel_rfl) lo_ixStrange_0 lps_nil)

theorem es_ixStrange_0 (l : List Int) (z : List Int × List Int × List (Int × Bool × List UInt8) × List (Int × Int) × Bool × (List UInt8 × List UInt8 × Int × Int × (Int × Int × Int × Int × Int) × (Int × Int × Int × Int × Int))) (n i : Int) : sp_ixStrange_0 (l, z, n, i) = (
  bif decide (i < n) then
    (getI l i).bind fun x1 => (F_zStrange (x1, z)).bind fun x2 => bif x2.fst then some (Sum.inr (Sum.inl (i, x2.snd))) else some (Sum.inl (l, x2.snd, n, IntKind.i64.wrap (i + (1 : Int))))
  else some (Sum.inr (Sum.inr z))) := by kernel_rfl

theorem e_ixStrange (l : List Int) (z : List Int × List Int × List (Int × Bool × List UInt8) × List (Int × Int) × Bool × (List UInt8 × List UInt8 × Int × Int × (Int × Int × Int × Int × Int) × (Int × Int × Int × Int × Int))) : F_ixStrange (l, z) = (
  (w_ixStrange_0 (l, z, (↑l.length : Int), (0 : Int))).bind fun x1 => Sum.elim (fun x2 => some x2) (fun x2 => some ((-1 : Int), x2)) x1) := by kernel_rfl

/-! ### slices.ContainsFunc[[]int,int] -/
noncomputable abbrev ct_cnStrange : List (FuncId × Bool × SpecT) := [(173, false, s_ixStrange)]
theorem cs_cnStrange : AllSound Tryd.prog ct_cnStrange := ⟨so_ixStrange, trivial⟩
noncomputable def F_cnStrange (x : ((List Int) × (List Int × List Int × List (Int × Bool × List UInt8) × List (Int × Int) × Bool × (List UInt8 × List UInt8 × Int × Int × (Int × Int × Int × Int × Int) × (Int × Int × Int × Int × Int))))) : Option (Bool × (List Int × List Int × List (Int × Bool × List UInt8) × List (Int × Int) × Bool × (List UInt8 × List UInt8 × Int × Int × (Int × Int × Int × Int × Int) × (Int × Int × Int × Int × Int)))) := (evalF Tryd.prog (lookT ct_cnStrange) (keepT []) (loopsT []) false false Tryd.f152 (codP [pL, (.fnb 149 [.p cZone])]) 1 (codP [pB, (.memw [.p cZone])]) x).run
noncomputable abbrev s_cnStrange : SpecT := specF (codP [pL, (.fnb 149 [.p cZone])]) 1 (codP [pB, (.memw [.p cZone])]) F_cnStrange
theorem so_cnStrange : SoundT Tryd.prog 152 s_cnStrange := soundG (P := Tryd.prog) mixed (t := ct_cnStrange) cs_cnStrange (f := 152) (fn := Tryd.f152) Tryd.func152 (by kernel_rfl) (by kernel_rfl) (by kernel_rfl) (ls := []) (by kernel_rfl) (kp := keepT []) (lps := loopsT []) (bump := false) (ice := false) (A := (codP [pL, (.fnb 149 [.p cZone])])) (n := 1) (R := (codP [pB, (.memw [.p cZone])])) fun _ => lps_nil

theorem e_cnStrange (l : List Int) (z : List Int × List Int × List (Int × Bool × List UInt8) × List (Int × Int) × Bool × (List UInt8 × List UInt8 × Int × Int × (Int × Int × Int × Int × Int) × (Int × Int × Int × Int × Int))) : F_cnStrange (l, z) = (
  (F_ixStrange (l, z)).bind fun x1 => some (decide ((0 : Int) ≤ x1.fst), x1.snd)) := by kernel_rfl


/-! ### slices.IndexFunc[[]horologe/zone.Type,horologe/zone.Type] -/
noncomputable abbrev ct_ixFar : List (FuncId × Bool × SpecT) := [(150, false, s_zFar)]
theorem cs_ixFar : AllSound Tryd.prog ct_ixFar := ⟨so_zFar, trivial⟩
-- loop 0 (key 2) exit 0: [0, 1, 7, 8]
-- loop 0 (key 2) exit 2: [4]
-- loop 0 (key 2) exit 3: []
abbrev kp_ixFar : Keep := keepT [(2, 0, [(0, none), (1, none), (7, none), (8, none)]), (2, 2, [(4, none)]), (2, 3, [])]
noncomputable abbrev b_ixFar_0 : Code := loopAt Tryd.f99 0
noncomputable def sp_ixFar_0 (x : ((List (Int × Bool × List UInt8)) × Unit × Int × Int)) : Option (((List (Int × Bool × List UInt8)) × Unit × Int × Int) ⊕ ((Int) ⊕ Unit)) := (stepL Tryd.prog (lookT ct_ixFar) kp_ixFar (loopsT []) 0 false b_ixFar_0 (codP [(.pure (.lst cTyp)), (.fn0 150), pI, pI]) (exS (exO .ret (codP [pI])) (exO (.ext 0) (codP []))) x).run
noncomputable def w_ixFar_0 : ((List (Int × Bool × List UInt8)) × Unit × Int × Int) → Option ((Int) ⊕ Unit) := whileO sp_ixFar_0
theorem ew_ixFar_0 (x : ((List (Int × Bool × List UInt8)) × Unit × Int × Int)) : w_ixFar_0 x = (sp_ixFar_0 x).bind (Sum.elim w_ixFar_0 some) := whileO_eq _ _
noncomputable abbrev l_ixFar_0 : LT := ltF (codP [(.pure (.lst cTyp)), (.fn0 150), pI, pI]) (exS (exO .ret (codP [pI])) (exO (.ext 0) (codP []))) w_ixFar_0
theorem lo_ixFar_0 : LoopOk Tryd.prog Tryd.f99.ntmps kp_ixFar 0 false b_ixFar_0 l_ixFar_0 := loopG mixed cs_ixFar (lps := loopsT []) (by kernel_rfl) (ls := []) (by kernel_rfl) lps_nil
noncomputable def F_ixFar (x : ((List (Int × Bool × List UInt8)) × Unit)) : Option (Int) := (evalF Tryd.prog (lookT ct_ixFar) (kp_ixFar) (loopsT [(2, l_ixFar_0)]) false false Tryd.f99 (codP [(.pure (.lst cTyp)), (.fn0 150)]) 1 (codP [pI]) x).run
noncomputable abbrev s_ixFar : SpecT := specF (codP [(.pure (.lst cTyp)), (.fn0 150)]) 1 (codP [pI]) F_ixFar
theorem so_ixFar : SoundT Tryd.prog 99 s_ixFar := soundG (P := Tryd.prog) mixed (t := ct_ixFar) cs_ixFar (f := 99) (fn := Tryd.f99) Tryd.func99 (by kernel_rfl) (by kernel_rfl) (by kernel_rfl) (ls := [b_ixFar_0]) (by kernel_rfl) (kp := kp_ixFar) (lps := loopsT [(2, l_ixFar_0)]) (bump := false) (ice := false) (A := (codP [(.pure (.lst cTyp)), (.fn0 150)])) (n := 1) (R := (codP [pI])) fun _ => (lps_cons l_ixFar_0 (by kernel_rfl) lo_ixFar_0 lps_nil)

theorem es_ixFar_0 (l : List (Int × Bool × List UInt8)) (n i : Int) : sp_ixFar_0 (l, (), n, i) = (
  bif decide (i < n) then (getI l i).bind fun x1 => (F_zFar x1).bind fun x2 => bif x2 then some (Sum.inr (Sum.inl i)) else some (Sum.inl (l, (), n, IntKind.i64.wrap (i + (1 : Int))))
  else some (Sum.inr (Sum.inr ()))) := by kernel_rfl

theorem e_ixFar (l : List (Int × Bool × List UInt8)) : F_ixFar (l, ()) = (
  (w_ixFar_0 (l, (), (↑l.length : Int), (0 : Int))).bind fun x1 => Sum.elim (fun x2 => some x2) (fun x2 => some (-1 : Int)) x1) := by kernel_rfl

/-! ### slices.ContainsFunc[[]horologe/zone.Type,horologe/zone.Type] -/
noncomputable abbrev ct_cnFar : List (FuncId × Bool × SpecT) := [(99, false, s_ixFar)]
theorem cs_cnFar : AllSound Tryd.prog ct_cnFar := ⟨so_ixFar, trivial⟩
noncomputable def F_cnFar (x : ((List (Int × Bool × List UInt8)) × Unit)) : Option (Bool) := (evalF Tryd.prog (lookT ct_cnFar) (keepT []) (loopsT []) false false Tryd.f153 (codP [(.pure (.lst cTyp)), (.fn0 150)]) 1 (codP [pB]) x).run
noncomputable abbrev s_cnFar : SpecT := specF (codP [(.pure (.lst cTyp)), (.fn0 150)]) 1 (codP [pB]) F_cnFar
theorem so_cnFar : SoundT Tryd.prog 153 s_cnFar := soundG (P := Tryd.prog) mixed (t := ct_cnFar) cs_cnFar (f := 153) (fn := Tryd.f153) Tryd.func153 (by kernel_rfl) (by kernel_rfl) (by kernel_rfl) (ls := []) (by kernel_rfl) (kp := keepT []) (lps := loopsT []) (bump := false) (ice := false) (A := (codP [(.pure (.lst cTyp)), (.fn0 150)])) (n := 1) (R := (codP [pB])) fun _ => lps_nil

theorem e_cnFar (l : List (Int × Bool × List UInt8)) : F_cnFar (l, ()) = (
  (F_ixFar (l, ())).bind fun x1 => some (decide ((0 : Int) ≤ x1))) := by kernel_rfl


/-! ### slices.IndexFunc[[]horologe/zone.Correction,horologe/zone.Correction] -/
noncomputable abbrev ct_ixEarly : List (FuncId × Bool × SpecT) := [(151, false, s_zEarly)]
theorem cs_ixEarly : AllSound Tryd.prog ct_ixEarly := ⟨so_zEarly, trivial⟩
-- loop 0 (key 2) exit 0: [0, 1, 7, 8]
-- loop 0 (key 2) exit 2: [4]
-- loop 0 (key 2) exit 3: []
abbrev kp_ixEarly : Keep := keepT [(2, 0, [(0, none), (1, none), (7, none), (8, none)]), (2, 2, [(4, none)]), (2, 3, [])]
noncomputable abbrev b_ixEarly_0 : Code := loopAt Tryd.f174 0
noncomputable def sp_ixEarly_0 (x : ((List (Int × Int)) × Unit × Int × Int)) : Option (((List (Int × Int)) × Unit × Int × Int) ⊕ ((Int) ⊕ Unit)) := (stepL Tryd.prog (lookT ct_ixEarly) kp_ixEarly (loopsT []) 0 false b_ixEarly_0 (codP [(.pure (.lst cCor)), (.fn0 151), pI, pI]) (exS (exO .ret (codP [pI])) (exO (.ext 0) (codP []))) x).run
noncomputable def w_ixEarly_0 : ((List (Int × Int)) × Unit × Int × Int) → Option ((Int) ⊕ Unit) := whileO sp_ixEarly_0
theorem ew_ixEarly_0 (x : ((List (Int × Int)) × Unit × Int × Int)) : w_ixEarly_0 x = (sp_ixEarly_0 x).bind (Sum.elim w_ixEarly_0 some) := whileO_eq _ _
noncomputable abbrev l_ixEarly_0 : LT := ltF (codP [(.pure (.lst cCor)), (.fn0 151), pI, pI]) (exS (exO .ret (codP [pI])) (exO (.ext 0) (codP []))) w_ixEarly_0
theorem lo_ixEarly_0 : LoopOk Tryd.prog Tryd.f174.ntmps kp_ixEarly 0 false b_ixEarly_0 l_ixEarly_0 := loopG mixed cs_ixEarly (lps := loopsT []) (by kernel_rfl) (ls := []) (by kernel_rfl) lps_nil
noncomputable def F_ixEarly (x : ((List (Int × Int)) × Unit)) : Option (Int) := (evalF Tryd.prog (lookT ct_ixEarly) (kp_ixEarly) (loopsT [(2, l_ixEarly_0)]) false false Tryd.f174 (codP [(.pure (.lst cCor)), (.fn0 151)]) 1 (codP [pI]) x).run
noncomputable abbrev s_ixEarly : SpecT := specF (codP [(.pure (.lst cCor)), (.fn0 151)]) 1 (codP [pI]) F_ixEarly
theorem so_ixEarly : SoundT Tryd.prog 174 s_ixEarly := soundG (P := Tryd.prog) mixed (t := ct_ixEarly) cs_ixEarly (f := 174) (fn := Tryd.f174) Tryd.func174 (by kernel_rfl) (by kernel_rfl) (by kernel_rfl) (ls := [b_ixEarly_0]) (by kernel_rfl) (kp := kp_ixEarly) (lps := loopsT [(2, l_ixEarly_0)]) (bump := false) (ice := false) (A := (codP [(.pure (.lst cCor)), (.fn0 151)])) (n := 1) (R := (codP [pI])) fun _ => (lps_cons l_ixEarly_0 (by kernel_rfl) lo_ixEarly_0 lps_nil)

theorem es_ixEarly_0 (l : List (Int × Int)) (n i : Int) : sp_ixEarly_0 (l, (), n, i) = (
  bif decide (i < n) then (getI l i).bind fun x1 => (F_zEarly x1).bind fun x2 => bif x2 then some (Sum.inr (Sum.inl i)) else some (Sum.inl (l, (), n, IntKind.i64.wrap (i + (1 : Int))))
  else some (Sum.inr (Sum.inr ()))) := by kernel_rfl

theorem e_ixEarly (l : List (Int × Int)) : F_ixEarly (l, ()) = (
  (w_ixEarly_0 (l, (), (↑l.length : Int), (0 : Int))).bind fun x1 => Sum.elim (fun x2 => some x2) (fun x2 => some (-1 : Int)) x1) := by kernel_rfl

/-! ### slices.ContainsFunc[[]horologe/zone.Correction,horologe/zone.Correction] -/
noncomputable abbrev ct_cnEarly : List (FuncId × Bool × SpecT) := [(174, false, s_ixEarly)]
theorem cs_cnEarly : AllSound Tryd.prog ct_cnEarly := ⟨so_ixEarly, trivial⟩
noncomputable def F_cnEarly (x : ((List (Int × Int)) × Unit)) : Option (Bool) := (evalF Tryd.prog (lookT ct_cnEarly) (keepT []) (loopsT []) false false Tryd.f154 (codP [(.pure (.lst cCor)), (.fn0 151)]) 1 (codP [pB]) x).run
noncomputable abbrev s_cnEarly : SpecT := specF (codP [(.pure (.lst cCor)), (.fn0 151)]) 1 (codP [pB]) F_cnEarly
theorem so_cnEarly : SoundT Tryd.prog 154 s_cnEarly := soundG (P := Tryd.prog) mixed (t := ct_cnEarly) cs_cnEarly (f := 154) (fn := Tryd.f154) Tryd.func154 (by kernel_rfl) (by kernel_rfl) (by kernel_rfl) (ls := []) (by kernel_rfl) (kp := keepT []) (lps := loopsT []) (bump := false) (ice := false) (A := (codP [(.pure (.lst cCor)), (.fn0 151)])) (n := 1) (R := (codP [pB])) fun _ => lps_nil

theorem e_cnEarly (l : List (Int × Int)) : F_cnEarly (l, ()) = (
  (F_ixEarly (l, ())).bind fun x1 => some (decide ((0 : Int) ≤ x1))) := by kernel_rfl


/-! ### slices.IndexFunc[[]horologe/zone.Type,horologe/zone.Type] -/
noncomputable abbrev ct_ixUnnamed : List (FuncId × Bool × SpecT) := [(155, false, s_zUnnamed)]
theorem cs_ixUnnamed : AllSound Tryd.prog ct_ixUnnamed := ⟨so_zUnnamed, trivial⟩
-- loop 0 (key 2) exit 0: [0, 1, 7, 8]
-- loop 0 (key 2) exit 2: [4]
-- loop 0 (key 2) exit 3: []
abbrev kp_ixUnnamed : Keep := keepT [(2, 0, [(0, none), (1, none), (7, none), (8, none)]), (2, 2, [(4, none)]), (2, 3, [])]
noncomputable abbrev b_ixUnnamed_0 : Code := loopAt Tryd.f99 0
noncomputable def sp_ixUnnamed_0 (x : ((List (Int × Bool × List UInt8)) × Unit × Int × Int)) : Option (((List (Int × Bool × List UInt8)) × Unit × Int × Int) ⊕ ((Int) ⊕ Unit)) := (stepL Tryd.prog (lookT ct_ixUnnamed) kp_ixUnnamed (loopsT []) 0 false b_ixUnnamed_0 (codP [(.pure (.lst cTyp)), (.fn0 155), pI, pI]) (exS (exO .ret (codP [pI])) (exO (.ext 0) (codP []))) x).run
noncomputable def w_ixUnnamed_0 : ((List (Int × Bool × List UInt8)) × Unit × Int × Int) → Option ((Int) ⊕ Unit) := whileO sp_ixUnnamed_0
theorem ew_ixUnnamed_0 (x : ((List (Int × Bool × List UInt8)) × Unit × Int × Int)) : w_ixUnnamed_0 x = (sp_ixUnnamed_0 x).bind (Sum.elim w_ixUnnamed_0 some) := whileO_eq _ _
noncomputable abbrev l_ixUnnamed_0 : LT := ltF (codP [(.pure (.lst cTyp)), (.fn0 155), pI, pI]) (exS (exO .ret (codP [pI])) (exO (.ext 0) (codP []))) w_ixUnnamed_0
theorem lo_ixUnnamed_0 : LoopOk Tryd.prog Tryd.f99.ntmps kp_ixUnnamed 0 false b_ixUnnamed_0 l_ixUnnamed_0 := loopG mixed cs_ixUnnamed (lps := loopsT []) (by kernel_rfl) (ls := []) (by kernel_rfl) lps_nil
noncomputable def F_ixUnnamed (x : ((List (Int × Bool × List UInt8)) × Unit)) : Option (Int) := (evalF Tryd.prog (lookT ct_ixUnnamed) (kp_ixUnnamed) (loopsT [(2, l_ixUnnamed_0)]) false false Tryd.f99 (codP [(.pure (.lst cTyp)), (.fn0 155)]) 1 (codP [pI]) x).run
noncomputable abbrev s_ixUnnamed : SpecT := specF (codP [(.pure (.lst cTyp)), (.fn0 155)]) 1 (codP [pI]) F_ixUnnamed
theorem so_ixUnnamed : SoundT Tryd.prog 99 s_ixUnnamed := soundG (P := Tryd.prog) mixed (t := ct_ixUnnamed) cs_ixUnnamed (f := 99) (fn := Tryd.f99) Tryd.func99 (by kernel_rfl) (by kernel_rfl) (by kernel_rfl) (ls := [b_ixUnnamed_0]) (by kernel_rfl) (kp := kp_ixUnnamed) (lps := loopsT [(2, l_ixUnnamed_0)]) (bump := false) (ice := false) (A := (codP [(.pure (.lst cTyp)), (.fn0 155)])) (n := 1) (R := (codP [pI])) fun _ => (lps_cons l_ixUnnamed_0 (by kernel_rfl) lo_ixUnnamed_0 lps_nil)

theorem es_ixUnnamed_0 (l : List (Int × Bool × List UInt8)) (n i : Int) : sp_ixUnnamed_0 (l, (), n, i) = (
  bif decide (i < n) then (getI l i).bind fun x1 => (F_zUnnamed x1).bind fun x2 => bif x2 then some (Sum.inr (Sum.inl i)) else some (Sum.inl (l, (), n, IntKind.i64.wrap (i + (1 : Int))))
  else some (Sum.inr (Sum.inr ()))) := by kernel_rfl

theorem e_ixUnnamed (l : List (Int × Bool × List UInt8)) : F_ixUnnamed (l, ()) = (
  (w_ixUnnamed_0 (l, (), (↑l.length : Int), (0 : Int))).bind fun x1 => Sum.elim (fun x2 => some x2) (fun x2 => some (-1 : Int)) x1) := by kernel_rfl

/-! ### slices.ContainsFunc[[]horologe/zone.Type,horologe/zone.Type] -/
noncomputable abbrev ct_cnUnnamed : List (FuncId × Bool × SpecT) := [(99, false, s_ixUnnamed)]
theorem cs_cnUnnamed : AllSound Tryd.prog ct_cnUnnamed := ⟨so_ixUnnamed, trivial⟩
noncomputable def F_cnUnnamed (x : ((List (Int × Bool × List UInt8)) × Unit)) : Option (Bool) := (evalF Tryd.prog (lookT ct_cnUnnamed) (keepT []) (loopsT []) false false Tryd.f153 (codP [(.pure (.lst cTyp)), (.fn0 155)]) 1 (codP [pB]) x).run
noncomputable abbrev s_cnUnnamed : SpecT := specF (codP [(.pure (.lst cTyp)), (.fn0 155)]) 1 (codP [pB]) F_cnUnnamed
theorem so_cnUnnamed : SoundT Tryd.prog 153 s_cnUnnamed := soundG (P := Tryd.prog) mixed (t := ct_cnUnnamed) cs_cnUnnamed (f := 153) (fn := Tryd.f153) Tryd.func153 (by kernel_rfl) (by kernel_rfl) (by kernel_rfl) (ls := []) (by kernel_rfl) (kp := keepT []) (lps := loopsT []) (bump := false) (ice := false) (A := (codP [(.pure (.lst cTyp)), (.fn0 155)])) (n := 1) (R := (codP [pB])) fun _ => lps_nil

theorem e_cnUnnamed (l : List (Int × Bool × List UInt8)) : F_cnUnnamed (l, ()) = (
  (F_ixUnnamed (l, ())).bind fun x1 => some (decide ((0 : Int) ≤ x1))) := by kernel_rfl


/-! ### slices.IndexFunc[[]horologe/zone.Type,horologe/zone.Type] -/
noncomputable abbrev ct_ixUsual : List (FuncId × Bool × SpecT) := [(100, false, s_zUsual)]
theorem cs_ixUsual : AllSound Tryd.prog ct_ixUsual := ⟨so_zUsual, trivial⟩
-- loop 0 (key 2) exit 0: [0, 1, 7, 8]
-- loop 0 (key 2) exit 2: [4]
-- loop 0 (key 2) exit 3: []
abbrev kp_ixUsual : Keep := keepT [(2, 0, [(0, none), (1, none), (7, none), (8, none)]), (2, 2, [(4, none)]), (2, 3, [])]
noncomputable abbrev b_ixUsual_0 : Code := loopAt Tryd.f99 0
noncomputable def sp_ixUsual_0 (x : ((List (Int × Bool × List UInt8)) × Unit × Int × Int)) : Option (((List (Int × Bool × List UInt8)) × Unit × Int × Int) ⊕ ((Int) ⊕ Unit)) := (stepL Tryd.prog (lookT ct_ixUsual) kp_ixUsual (loopsT []) 0 false b_ixUsual_0 (codP [(.pure (.lst cTyp)), (.fn0 100), pI, pI]) (exS (exO .ret (codP [pI])) (exO (.ext 0) (codP []))) x).run
noncomputable def w_ixUsual_0 : ((List (Int × Bool × List UInt8)) × Unit × Int × Int) → Option ((Int) ⊕ Unit) := whileO sp_ixUsual_0
theorem ew_ixUsual_0 (x : ((List (Int × Bool × List UInt8)) × Unit × Int × Int)) : w_ixUsual_0 x = (sp_ixUsual_0 x).bind (Sum.elim w_ixUsual_0 some) := whileO_eq _ _
noncomputable abbrev l_ixUsual_0 : LT := ltF (codP [(.pure (.lst cTyp)), (.fn0 100), pI, pI]) (exS (exO .ret (codP [pI])) (exO (.ext 0) (codP []))) w_ixUsual_0
theorem lo_ixUsual_0 : LoopOk Tryd.prog Tryd.f99.ntmps kp_ixUsual 0 false b_ixUsual_0 l_ixUsual_0 := loopG mixed cs_ixUsual (lps := loopsT []) (by kernel_rfl) (ls := []) (by kernel_rfl) lps_nil
noncomputable def F_ixUsual (x : ((List (Int × Bool × List UInt8)) × Unit)) : Option (Int) := (evalF Tryd.prog (lookT ct_ixUsual) (kp_ixUsual) (loopsT [(2, l_ixUsual_0)]) false false Tryd.f99 (codP [(.pure (.lst cTyp)), (.fn0 100)]) 1 (codP [pI]) x).run
noncomputable abbrev s_ixUsual : SpecT := specF (codP [(.pure (.lst cTyp)), (.fn0 100)]) 1 (codP [pI]) F_ixUsual
theorem so_ixUsual : SoundT Tryd.prog 99 s_ixUsual := soundG (P := Tryd.prog) mixed (t := ct_ixUsual) cs_ixUsual (f := 99) (fn := Tryd.f99) Tryd.func99 (by kernel_rfl) (by kernel_rfl) (by kernel_rfl) (ls := [b_ixUsual_0]) (by kernel_rfl) (kp := kp_ixUsual) (lps := loopsT [(2, l_ixUsual_0)]) (bump := false) (ice := false) (A := (codP [(.pure (.lst cTyp)), (.fn0 100)])) (n := 1) (R := (codP [pI])) fun _ => (lps_cons l_ixUsual_0 (by kernel_rfl) lo_ixUsual_0 lps_nil)

theorem es_ixUsual_0 (l : List (Int × Bool × List UInt8)) (n i : Int) : sp_ixUsual_0 (l, (), n, i) = (
  bif decide (i < n) then (getI l i).bind fun x1 => (F_zUsual x1).bind fun x2 => bif x2 then some (Sum.inr (Sum.inl i)) else some (Sum.inl (l, (), n, IntKind.i64.wrap (i + (1 : Int))))
  else some (Sum.inr (Sum.inr ()))) := by kernel_rfl

theorem e_ixUsual (l : List (Int × Bool × List UInt8)) : F_ixUsual (l, ()) = (
  (w_ixUsual_0 (l, (), (↑l.length : Int), (0 : Int))).bind fun x1 => Sum.elim (fun x2 => some x2) (fun x2 => some (-1 : Int)) x1) := by kernel_rfl


/-! ### slices.Index[[]string,string] -/
noncomputable abbrev ct_ixStr : List (FuncId × Bool × SpecT) := []
theorem cs_ixStr : AllSound Tryd.prog ct_ixStr := trivial
-- loop 0 (key 2) exit 0: [0, 1, 7, 8]
-- loop 0 (key 2) exit 2: [4]
-- loop 0 (key 2) exit 3: []
abbrev kp_ixStr : Keep := keepT [(2, 0, [(0, none), (1, none), (7, none), (8, none)]), (2, 2, [(4, none)]), (2, 3, [])]
noncomputable abbrev b_ixStr_0 : Code := loopAt Tryd.f184 0
noncomputable def sp_ixStr_0 (x : ((List (List UInt8)) × (List UInt8) × Int × Int)) : Option (((List (List UInt8)) × (List UInt8) × Int × Int) ⊕ ((Int) ⊕ Unit)) := (stepL Tryd.prog (lookT ct_ixStr) kp_ixStr (loopsT []) 0 false b_ixStr_0 (codP [(.pure (.lst .str)), pS, pI, pI]) (exS (exO .ret (codP [pI])) (exO (.ext 0) (codP []))) x).run
noncomputable def w_ixStr_0 : ((List (List UInt8)) × (List UInt8) × Int × Int) → Option ((Int) ⊕ Unit) := whileO sp_ixStr_0
theorem ew_ixStr_0 (x : ((List (List UInt8)) × (List UInt8) × Int × Int)) : w_ixStr_0 x = (sp_ixStr_0 x).bind (Sum.elim w_ixStr_0 some) := whileO_eq _ _
noncomputable abbrev l_ixStr_0 : LT := ltF (codP [(.pure (.lst .str)), pS, pI, pI]) (exS (exO .ret (codP [pI])) (exO (.ext 0) (codP []))) w_ixStr_0
theorem lo_ixStr_0 : LoopOk Tryd.prog Tryd.f184.ntmps kp_ixStr 0 false b_ixStr_0 l_ixStr_0 := loopG mixed cs_ixStr (lps := loopsT []) (by kernel_rfl) (ls := []) (by kernel_rfl) lps_nil
noncomputable def F_ixStr (x : ((List (List UInt8)) × (List UInt8))) : Option (Int) := (evalF Tryd.prog (lookT ct_ixStr) (kp_ixStr) (loopsT [(2, l_ixStr_0)]) false false Tryd.f184 (codP [(.pure (.lst .str)), pS]) 1 (codP [pI]) x).run
noncomputable abbrev s_ixStr : SpecT := specF (codP [(.pure (.lst .str)), pS]) 1 (codP [pI]) F_ixStr
theorem so_ixStr : SoundT Tryd.prog 184 s_ixStr := soundG (P := Tryd.prog) mixed (t := ct_ixStr) cs_ixStr (f := 184) (fn := Tryd.f184) Tryd.func184 (by kernel_rfl) (by kernel_rfl) (by kernel_rfl) (ls := [b_ixStr_0]) (by kernel_rfl) (kp := kp_ixStr) (lps := loopsT [(2, l_ixStr_0)]) (bump := false) (ice := false) (A := (codP [(.pure (.lst .str)), pS])) (n := 1) (R := (codP [pI])) fun _ => (lps_cons l_ixStr_0 (by kernel_rfl) lo_ixStr_0 lps_nil)

theorem es_ixStr_0 (l : List (List UInt8)) (s : List UInt8) (n i : Int) : sp_ixStr_0 (l, s, n, i) = (
  bif decide (i < n) then (getI l i).bind fun x1 => bif decide (s = x1) then some (Sum.inr (Sum.inl i)) else some (Sum.inl (l, s, n, IntKind.i64.wrap (i + (1 : Int)))) else some (Sum.inr (Sum.inr ()))) := by kernel_rfl

theorem e_ixStr (l : List (List UInt8)) (s : List UInt8) : F_ixStr (l, s) = (
  (w_ixStr_0 (l, s, (↑l.length : Int), (0 : Int))).bind fun x1 => Sum.elim (fun x2 => some x2) (fun x2 => some (-1 : Int)) x1) := by kernel_rfl

/-! ### slices.Contains[[]string,string] -/
noncomputable abbrev ct_cnStr : List (FuncId × Bool × SpecT) := [(184, false, s_ixStr)]
theorem cs_cnStr : AllSound Tryd.prog ct_cnStr := ⟨so_ixStr, trivial⟩
noncomputable def F_cnStr (x : ((List (List UInt8)) × (List UInt8))) : Option (Bool) := (evalF Tryd.prog (lookT ct_cnStr) (keepT []) (loopsT []) false false Tryd.f175 (codP [(.pure (.lst .str)), pS]) 1 (codP [pB]) x).run
noncomputable abbrev s_cnStr : SpecT := specF (codP [(.pure (.lst .str)), pS]) 1 (codP [pB]) F_cnStr
theorem so_cnStr : SoundT Tryd.prog 175 s_cnStr := soundG (P := Tryd.prog) mixed (t := ct_cnStr) cs_cnStr (f := 175) (fn := Tryd.f175) Tryd.func175 (by kernel_rfl) (by kernel_rfl) (by kernel_rfl) (ls := []) (by kernel_rfl) (kp := keepT []) (lps := loopsT []) (bump := false) (ice := false) (A := (codP [(.pure (.lst .str)), pS])) (n := 1) (R := (codP [pB])) fun _ => lps_nil

theorem e_cnStr (l : List (List UInt8)) (s : List UInt8) : F_cnStr (l, s) = (
  (F_ixStr (l, s)).bind fun x1 => some (decide ((0 : Int) ≤ x1))) := by kernel_rfl


/-! ### (horologe/zone.Zone).long -/
noncomputable abbrev ct_zLong : List (FuncId × Bool × SpecT) := []
theorem cs_zLong : AllSound Tryd.prog ct_zLong := trivial
noncomputable def F_zLong (x : ((List Int × List Int × List (Int × Bool × List UInt8) × List (Int × Int) × Bool × (List UInt8 × List UInt8 × Int × Int × (Int × Int × Int × Int × Int) × (Int × Int × Int × Int × Int))))) : Option (Bool) := (evalF Tryd.prog (lookT ct_zLong) (keepT []) (loopsT []) false false Tryd.f126 (codP [pZone]) 1 (codP [pB]) x).run
noncomputable abbrev s_zLong : SpecT := specF (codP [pZone]) 1 (codP [pB]) F_zLong
theorem so_zLong : SoundT Tryd.prog 126 s_zLong := soundG (P := Tryd.prog) mixed (t := ct_zLong) cs_zLong (f := 126) (fn := Tryd.f126) Tryd.func126 (by kernel_rfl) (by kernel_rfl) (by kernel_rfl) (ls := []) (by kernel_rfl) (kp := keepT []) (lps := loopsT []) (bump := false) (ice := false) (A := (codP [pZone])) (n := 1) (R := (codP [pB])) fun _ => lps_nil

theorem e_zLong (z : List Int × List Int × List (Int × Bool × List UInt8) × List (Int × Int) × Bool × (List UInt8 × List UInt8 × Int × Int × (Int × Int × Int × Int × Int) × (Int × Int × Int × Int × Int))) : F_zLong z = (
  bif decide ((256 : Int) < (↑(List.length z.snd.snd.fst) : Int)) then some true
  else bif decide ((2000 : Int) < (↑(List.length z.fst) : Int)) then some true else some (decide ((100 : Int) < (↑(List.length z.snd.snd.snd.fst) : Int)))) := by kernel_rfl

/-! ### (horologe/zone.Zone).ranged -/
noncomputable abbrev ct_zRanged : List (FuncId × Bool × SpecT) := [(152, false, s_cnStrange), (153, false, s_cnFar), (154, false, s_cnEarly)]
theorem cs_zRanged : AllSound Tryd.prog ct_zRanged := ⟨so_cnStrange, so_cnFar, so_cnEarly, trivial⟩
noncomputable def F_zRanged (x : ((List Int × List Int × List (Int × Bool × List UInt8) × List (Int × Int) × Bool × (List UInt8 × List UInt8 × Int × Int × (Int × Int × Int × Int × Int) × (Int × Int × Int × Int × Int))))) : Option (Bool) := (evalF Tryd.prog (lookT ct_zRanged) (keepT []) (loopsT []) false false Tryd.f127 (codP [pZone]) 1 (codP [pB]) x).run
noncomputable abbrev s_zRanged : SpecT := specF (codP [pZone]) 1 (codP [pB]) F_zRanged
theorem so_zRanged : SoundT Tryd.prog 127 s_zRanged := soundG (P := Tryd.prog) mixed (t := ct_zRanged) cs_zRanged (f := 127) (fn := Tryd.f127) Tryd.func127 (by kernel_rfl) (by kernel_rfl) (by kernel_rfl) (ls := []) (by kernel_rfl) (kp := keepT []) (lps := loopsT []) (bump := false) (ice := false) (A := (codP [pZone])) (n := 1) (R := (codP [pB])) fun _ => lps_nil

theorem e_zRanged (z : List Int × List Int × List (Int × Bool × List UInt8) × List (Int × Int) × Bool × (List UInt8 × List UInt8 × Int × Int × (Int × Int × Int × Int × Int) × (Int × Int × Int × Int × Int))) : F_zRanged z = (
  (F_cnStrange (z.snd.fst, z)).bind fun x1 =>
    bif !x1.fst then (F_cnFar (x1.snd.snd.snd.fst, ())).bind fun x2 => bif !x2 then (F_cnEarly (x1.snd.snd.snd.snd.fst, ())).bind fun x3 => some !x3 else some false else some false) := by kernel_rfl

/-! ### (horologe/zone.Zone).named -/
noncomputable abbrev ct_zNamed : List (FuncId × Bool × SpecT) := [(153, false, s_cnUnnamed)]
theorem cs_zNamed : AllSound Tryd.prog ct_zNamed := ⟨so_cnUnnamed, trivial⟩
noncomputable def F_zNamed (x : ((List Int × List Int × List (Int × Bool × List UInt8) × List (Int × Int) × Bool × (List UInt8 × List UInt8 × Int × Int × (Int × Int × Int × Int × Int) × (Int × Int × Int × Int × Int))))) : Option (Bool) := (evalF Tryd.prog (lookT ct_zNamed) (keepT []) (loopsT []) false false Tryd.f128 (codP [pZone]) 1 (codP [pB]) x).run
noncomputable abbrev s_zNamed : SpecT := specF (codP [pZone]) 1 (codP [pB]) F_zNamed
theorem so_zNamed : SoundT Tryd.prog 128 s_zNamed := soundG (P := Tryd.prog) mixed (t := ct_zNamed) cs_zNamed (f := 128) (fn := Tryd.f128) Tryd.func128 (by kernel_rfl) (by kernel_rfl) (by kernel_rfl) (ls := []) (by kernel_rfl) (kp := keepT []) (lps := loopsT []) (bump := false) (ice := false) (A := (codP [pZone])) (n := 1) (R := (codP [pB])) fun _ => lps_nil

theorem e_zNamed (z : List Int × List Int × List (Int × Bool × List UInt8) × List (Int × Int) × Bool × (List UInt8 × List UInt8 × Int × Int × (Int × Int × Int × Int × Int) × (Int × Int × Int × Int × Int))) : F_zNamed z = (
  (F_cnUnnamed (z.snd.snd.fst, ())).bind fun x1 => some !x1) := by kernel_rfl


/-! ### horologe/zone.Names -/
noncomputable abbrev ct_zNames : List (FuncId × Bool × SpecT) := [(175, true, s_cnStr)]
theorem cs_zNames : AllSound Tryd.prog ct_zNames := ⟨so_cnStr, trivial⟩
-- loop 0 (key 3) exit 0: [3, 7, 8, 9]
-- loop 0 (key 3) exit 3: [3]
abbrev kp_zNames : Keep := keepT [(3, 0, [(3, some .str), (7, none), (8, none), (9, none)]), (3, 3, [(3, some .str)])]
noncomputable abbrev b_zNames_0 : Code := loopAt Tryd.f156 0
noncomputable def sp_zNames_0 (x : ((List (List UInt8)) × (List (Int × Bool × List UInt8)) × Int × Int)) : Option (((List (List UInt8)) × (List (Int × Bool × List UInt8)) × Int × Int) ⊕ ((List (List UInt8)))) := (stepL Tryd.prog (lookT ct_zNames) kp_zNames (loopsT []) 0 false b_zNames_0 (codP [(.own .str), (.pure (.lst cTyp)), pI, pI]) (exO (.ext 0) (codP [(.own .str)])) x).run
noncomputable def w_zNames_0 : ((List (List UInt8)) × (List (Int × Bool × List UInt8)) × Int × Int) → Option ((List (List UInt8))) := whileO sp_zNames_0
theorem ew_zNames_0 (x : ((List (List UInt8)) × (List (Int × Bool × List UInt8)) × Int × Int)) : w_zNames_0 x = (sp_zNames_0 x).bind (Sum.elim w_zNames_0 some) := whileO_eq _ _
noncomputable abbrev l_zNames_0 : LT := ltF (codP [(.own .str), (.pure (.lst cTyp)), pI, pI]) (exO (.ext 0) (codP [(.own .str)])) w_zNames_0
theorem lo_zNames_0 : LoopOk Tryd.prog Tryd.f156.ntmps kp_zNames 0 false b_zNames_0 l_zNames_0 := loopG mixed cs_zNames (lps := loopsT []) (by kernel_rfl) (ls := []) (by kernel_rfl) lps_nil
noncomputable def F_zNames (x : ((List Int × List Int × List (Int × Bool × List UInt8) × List (Int × Int) × Bool × (List UInt8 × List UInt8 × Int × Int × (Int × Int × Int × Int × Int) × (Int × Int × Int × Int × Int))))) : Option ((List (List UInt8))) := (evalF Tryd.prog (lookT ct_zNames) (kp_zNames) (loopsT [(3, l_zNames_0)]) false true Tryd.f156 (codP [pZone]) 1 (codP [(.pure (.lst .str))]) x).run
noncomputable abbrev s_zNames : SpecT := specF (codP [pZone]) 1 (codP [(.pure (.lst .str))]) F_zNames
theorem so_zNames : SoundT Tryd.prog 156 s_zNames := soundG (P := Tryd.prog) mixed (t := ct_zNames) cs_zNames (f := 156) (fn := Tryd.f156) Tryd.func156 (by kernel_rfl) (by kernel_rfl) (by kernel_rfl) (ls := [b_zNames_0]) (by kernel_rfl) (kp := kp_zNames) (lps := loopsT [(3, l_zNames_0)]) (bump := false) (ice := true) (A := (codP [pZone])) (n := 1) (R := (codP [(.pure (.lst .str))])) fun _ => (lps_cons l_zNames_0 (by kernel_rfl) lo_zNames_0 lps_nil)

theorem es_zNames_0 (o : List (List UInt8)) (l : List (Int × Bool × List UInt8)) (n i : Int) : sp_zNames_0 (o, l, n, i) = (
  bif decide (i < n) then
    (getI l i).bind fun x1 =>
      (F_cnStr (o, x1.snd.snd)).bind fun x2 =>
        bif !x2 then bif roomB o.length [x1.snd.snd].length (16 : Nat) then some (Sum.inl (o ++ [x1.snd.snd], l, n, IntKind.i64.wrap (i + (1 : Int)))) else none
        else some (Sum.inl (o, l, n, IntKind.i64.wrap (i + (1 : Int))))
  else some (Sum.inr o)) := by kernel_rfl

theorem e_zNames (z : List Int × List Int × List (Int × Bool × List UInt8) × List (Int × Int) × Bool × (List UInt8 × List UInt8 × Int × Int × (Int × Int × Int × Int × Int) × (Int × Int × Int × Int × Int))) : F_zNames z = (
  (w_zNames_0 ([], z.snd.snd.fst, (↑(List.length z.snd.snd.fst) : Int), (0 : Int))).bind fun x1 => some x1) := by kernel_rfl


/-! ### (horologe/zone.Zone).wide -/
noncomputable abbrev ct_zWide : List (FuncId × Bool × SpecT) := [(156, false, s_zNames)]
theorem cs_zWide : AllSound Tryd.prog ct_zWide := ⟨so_zNames, trivial⟩
-- loop 0 (key 3) exit 0: [3, 7, 8, 9]
-- loop 0 (key 3) exit 3: [3]
abbrev kp_zWide : Keep := keepT [(3, 0, [(3, none), (7, none), (8, none), (9, none)]), (3, 3, [(3, none)])]
noncomputable abbrev b_zWide_0 : Code := loopAt Tryd.f129 0
noncomputable def sp_zWide_0 (x : (Int × (List (List UInt8)) × Int × Int)) : Option ((Int × (List (List UInt8)) × Int × Int) ⊕ (Int)) := (stepL Tryd.prog (lookT ct_zWide) kp_zWide (loopsT []) 0 false b_zWide_0 (codP [pI, (.pure (.lst .str)), pI, pI]) (exO (.ext 0) (codP [pI])) x).run
noncomputable def w_zWide_0 : (Int × (List (List UInt8)) × Int × Int) → Option (Int) := whileO sp_zWide_0
theorem ew_zWide_0 (x : (Int × (List (List UInt8)) × Int × Int)) : w_zWide_0 x = (sp_zWide_0 x).bind (Sum.elim w_zWide_0 some) := whileO_eq _ _
noncomputable abbrev l_zWide_0 : LT := ltF (codP [pI, (.pure (.lst .str)), pI, pI]) (exO (.ext 0) (codP [pI])) w_zWide_0
theorem lo_zWide_0 : LoopOk Tryd.prog Tryd.f129.ntmps kp_zWide 0 false b_zWide_0 l_zWide_0 := loopG mixed cs_zWide (lps := loopsT []) (by kernel_rfl) (ls := []) (by kernel_rfl) lps_nil
noncomputable def F_zWide (x : ((List Int × List Int × List (Int × Bool × List UInt8) × List (Int × Int) × Bool × (List UInt8 × List UInt8 × Int × Int × (Int × Int × Int × Int × Int) × (Int × Int × Int × Int × Int))))) : Option (Int) := (evalF Tryd.prog (lookT ct_zWide) (kp_zWide) (loopsT [(3, l_zWide_0)]) false false Tryd.f129 (codP [pZone]) 1 (codP [pI]) x).run
noncomputable abbrev s_zWide : SpecT := specF (codP [pZone]) 1 (codP [pI]) F_zWide
theorem so_zWide : SoundT Tryd.prog 129 s_zWide := soundG (P := Tryd.prog) mixed (t := ct_zWide) cs_zWide (f := 129) (fn := Tryd.f129) Tryd.func129 (by kernel_rfl) (by kernel_rfl) (by kernel_rfl) (ls := [b_zWide_0]) (by kernel_rfl) (kp := kp_zWide) (lps := loopsT [(3, l_zWide_0)]) (bump := false) (ice := false) (A := (codP [pZone])) (n := 1) (R := (codP [pI])) fun _ => (lps_cons l_zWide_0 (by kernel_rfl) lo_zWide_0 lps_nil)

theorem es_zWide_0 (w : Int) (l : List (List UInt8)) (n i : Int) : sp_zWide_0 (w, l, n, i) = (
  bif decide (i < n) then (getI l i).bind fun x1 => some (Sum.inl (IntKind.i64.wrap (w + IntKind.i64.wrap ((↑x1.length : Int) + (1 : Int))), l, n, IntKind.i64.wrap (i + (1 : Int))))
  else some (Sum.inr w)) := by kernel_rfl

theorem e_zWide (z : List Int × List Int × List (Int × Bool × List UInt8) × List (Int × Int) × Bool × (List UInt8 × List UInt8 × Int × Int × (Int × Int × Int × Int × Int) × (Int × Int × Int × Int × Int))) : F_zWide z = (
  (F_zNames z).bind fun x1 => (w_zWide_0 ((0 : Int), x1, (↑x1.length : Int), (0 : Int))).bind fun x2 => some x2) := by kernel_rfl


/-! ### horologe/zone.one -/
noncomputable abbrev ct_zOne : List (FuncId × Bool × SpecT) := []
theorem cs_zOne : AllSound Tryd.prog ct_zOne := trivial
noncomputable def F_zOne (x : (Int)) : Option (Bool) := (evalF Tryd.prog (lookT ct_zOne) (keepT []) (loopsT []) false false Tryd.f157 (codP [pI]) 1 (codP [pB]) x).run
noncomputable abbrev s_zOne : SpecT := specF (codP [pI]) 1 (codP [pB]) F_zOne
theorem so_zOne : SoundT Tryd.prog 157 s_zOne := soundG (P := Tryd.prog) mixed (t := ct_zOne) cs_zOne (f := 157) (fn := Tryd.f157) Tryd.func157 (by kernel_rfl) (by kernel_rfl) (by kernel_rfl) (ls := []) (by kernel_rfl) (kp := keepT []) (lps := loopsT []) (bump := false) (ice := false) (A := (codP [pI])) (n := 1) (R := (codP [pB])) fun _ => lps_nil

theorem e_zOne (n : Int) : F_zOne n = (
  bif decide (n = (1 : Int)) then some true else some (decide (n = (-1 : Int)))) := by kernel_rfl


/-! ### (horologe/zone.Zone).ordered -/
noncomputable abbrev ct_zOrdered : List (FuncId × Bool × SpecT) := [(157, false, s_zOne)]
theorem cs_zOrdered : AllSound Tryd.prog ct_zOrdered := ⟨so_zOne, trivial⟩
-- loop 0 (key 2) exit 0: [1, 3]
-- loop 0 (key 2) exit 2: [2]
-- loop 0 (key 2) exit 3: [1]
-- loop 1 (key 8) exit 0: [4, 27, 28, 29]
-- loop 1 (key 8) exit 2: [2]
-- loop 1 (key 8) exit 5: []
abbrev kp_zOrdered : Keep := keepT [(2, 0, [(1, none), (3, none)]), (2, 2, [(2, none)]), (2, 3, [(1, none)]), (8, 0, [(4, none), (27, none), (28, none), (29, none)]), (8, 2, [(2, none)]), (8, 5, [])]
noncomputable abbrev b_zOrdered_0 : Code := loopAt Tryd.f130 0
noncomputable abbrev b_zOrdered_1 : Code := loopAt Tryd.f130 1
noncomputable def sp_zOrdered_1 (x : ((Int × Int) × (List (Int × Int)) × Int × Int)) : Option (((Int × Int) × (List (Int × Int)) × Int × Int) ⊕ ((Bool) ⊕ Unit)) := (stepL Tryd.prog (lookT ct_zOrdered) kp_zOrdered (loopsT []) 0 false b_zOrdered_1 (codP [(.box cCor), (.pure (.lst cCor)), pI, pI]) (exS (exO .ret (codP [pB])) (exO (.ext 2) (codP []))) x).run
noncomputable def w_zOrdered_1 : ((Int × Int) × (List (Int × Int)) × Int × Int) → Option ((Bool) ⊕ Unit) := whileO sp_zOrdered_1
theorem ew_zOrdered_1 (x : ((Int × Int) × (List (Int × Int)) × Int × Int)) : w_zOrdered_1 x = (sp_zOrdered_1 x).bind (Sum.elim w_zOrdered_1 some) := whileO_eq _ _
noncomputable abbrev l_zOrdered_1 : LT := ltF (codP [(.box cCor), (.pure (.lst cCor)), pI, pI]) (exS (exO .ret (codP [pB])) (exO (.ext 2) (codP []))) w_zOrdered_1
theorem lo_zOrdered_1 : LoopOk Tryd.prog Tryd.f130.ntmps kp_zOrdered 0 false b_zOrdered_1 l_zOrdered_1 := loopG mixed cs_zOrdered (lps := loopsT []) (by kernel_rfl) (ls := []) (by kernel_rfl) lps_nil
noncomputable def sp_zOrdered_0 (x : ((List Int × List Int × List (Int × Bool × List UInt8) × List (Int × Int) × Bool × (List UInt8 × List UInt8 × Int × Int × (Int × Int × Int × Int × Int) × (Int × Int × Int × Int × Int))) × Int)) : Option (((List Int × List Int × List (Int × Bool × List UInt8) × List (Int × Int) × Bool × (List UInt8 × List UInt8 × Int × Int × (Int × Int × Int × Int × Int) × (Int × Int × Int × Int × Int))) × Int) ⊕ ((Bool) ⊕ ((List Int × List Int × List (Int × Bool × List UInt8) × List (Int × Int) × Bool × (List UInt8 × List UInt8 × Int × Int × (Int × Int × Int × Int × Int) × (Int × Int × Int × Int × Int)))))) := (stepL Tryd.prog (lookT ct_zOrdered) kp_zOrdered (loopsT []) 0 false b_zOrdered_0 (codP [(.boxw [.p cZone]), pI]) (exS (exO .ret (codP [pB])) (exO (.ext 0) (codP [(.boxw [.p cZone])]))) x).run
noncomputable def w_zOrdered_0 : ((List Int × List Int × List (Int × Bool × List UInt8) × List (Int × Int) × Bool × (List UInt8 × List UInt8 × Int × Int × (Int × Int × Int × Int × Int) × (Int × Int × Int × Int × Int))) × Int) → Option ((Bool) ⊕ ((List Int × List Int × List (Int × Bool × List UInt8) × List (Int × Int) × Bool × (List UInt8 × List UInt8 × Int × Int × (Int × Int × Int × Int × Int) × (Int × Int × Int × Int × Int))))) := whileO sp_zOrdered_0
theorem ew_zOrdered_0 (x : ((List Int × List Int × List (Int × Bool × List UInt8) × List (Int × Int) × Bool × (List UInt8 × List UInt8 × Int × Int × (Int × Int × Int × Int × Int) × (Int × Int × Int × Int × Int))) × Int)) : w_zOrdered_0 x = (sp_zOrdered_0 x).bind (Sum.elim w_zOrdered_0 some) := whileO_eq _ _
noncomputable abbrev l_zOrdered_0 : LT := ltF (codP [(.boxw [.p cZone]), pI]) (exS (exO .ret (codP [pB])) (exO (.ext 0) (codP [(.boxw [.p cZone])]))) w_zOrdered_0
theorem lo_zOrdered_0 : LoopOk Tryd.prog Tryd.f130.ntmps kp_zOrdered 0 false b_zOrdered_0 l_zOrdered_0 := loopG mixed cs_zOrdered (lps := loopsT []) (by kernel_rfl) (ls := []) (by kernel_rfl) lps_nil
noncomputable def F_zOrdered (x : ((List Int × List Int × List (Int × Bool × List UInt8) × List (Int × Int) × Bool × (List UInt8 × List UInt8 × Int × Int × (Int × Int × Int × Int × Int) × (Int × Int × Int × Int × Int))))) : Option (Bool) := (evalF Tryd.prog (lookT ct_zOrdered) (kp_zOrdered) (loopsT [(2, l_zOrdered_0), (8, l_zOrdered_1)]) false false Tryd.f130 (codP [pZone]) 1 (codP [pB]) x).run
noncomputable abbrev s_zOrdered : SpecT := specF (codP [pZone]) 1 (codP [pB]) F_zOrdered
theorem so_zOrdered : SoundT Tryd.prog 130 s_zOrdered := soundG (P := Tryd.prog) mixed (t := ct_zOrdered) cs_zOrdered (f := 130) (fn := Tryd.f130) Tryd.func130 (by kernel_rfl) (by kernel_rfl) (by kernel_rfl) (ls := [b_zOrdered_0, b_zOrdered_1]) (by kernel_rfl) (kp := kp_zOrdered) (lps := loopsT [(2, l_zOrdered_0), (8, l_zOrdered_1)]) (bump := false) (ice := false) (A := (codP [pZone])) (n := 1) (R := (codP [pB])) fun _ => (lps_cons l_zOrdered_0 (by kernel_rfl) lo_zOrdered_0 (lps_cons l_zOrdered_1 (by kernel_rfl) lo_zOrdered_1 lps_nil))

theorem es_zOrdered_0 (z : List Int × List Int × List (Int × Bool × List UInt8) × List (Int × Int) × Bool × (List UInt8 × List UInt8 × Int × Int × (Int × Int × Int × Int × Int) × (Int × Int × Int × Int × Int))) (i : Int) : sp_zOrdered_0 (z, i) = (
  bif decide (i < (↑(List.length z.fst) : Int)) then
    (getI z.fst i).bind fun x1 =>
      (getI z.fst (IntKind.i64.wrap (i - (1 : Int)))).bind fun x2 => bif decide (x1 ≤ x2) then some (Sum.inr (Sum.inl false)) else some (Sum.inl (z, IntKind.i64.wrap (i + (1 : Int))))
  else some (Sum.inr (Sum.inr z))) := by kernel_rfl

theorem es_zOrdered_1 (a t : Int) (l : List (Int × Int)) (n i : Int) : sp_zOrdered_1 ((a, t), l, n, i) = (
  bif decide (i < n) then
    (getI l i).bind fun x1 =>
      bif decide ((0 : Int) < i) then
        bif decide (x1.fst ≤ a) then some (Sum.inr (Sum.inl false))
        else
          bif decide (x1.snd < (-100 : Int)) then some (Sum.inr (Sum.inl false))
          else
            bif decide ((100 : Int) < x1.snd) then some (Sum.inr (Sum.inl false))
            else (F_zOne (IntKind.i64.wrap (x1.snd - t))).bind fun x2 => bif !x2 then some (Sum.inr (Sum.inl false)) else some (Sum.inl (x1, l, n, IntKind.i64.wrap (i + (1 : Int))))
      else
        bif decide (x1.snd < (-100 : Int)) then some (Sum.inr (Sum.inl false))
        else
          bif decide ((100 : Int) < x1.snd) then some (Sum.inr (Sum.inl false))
          else (F_zOne (IntKind.i64.wrap (x1.snd - t))).bind fun x2 => bif !x2 then some (Sum.inr (Sum.inl false)) else some (Sum.inl (x1, l, n, IntKind.i64.wrap (i + (1 : Int))))
  else some (Sum.inr (Sum.inr ()))) := by kernel_rfl

theorem e_zOrdered (z : List Int × List Int × List (Int × Bool × List UInt8) × List (Int × Int) × Bool × (List UInt8 × List UInt8 × Int × Int × (Int × Int × Int × Int × Int) × (Int × Int × Int × Int × Int))) : F_zOrdered z = (
  (w_zOrdered_0 (z, (1 : Int))).bind fun x1 =>
    Sum.elim (fun x2 => some x2)
      (fun x2 => (w_zOrdered_1 (((0 : Int), (0 : Int)), x2.snd.snd.snd.fst, (↑(List.length x2.snd.snd.snd.fst) : Int), (0 : Int))).bind fun x3 => Sum.elim (fun x4 => some x4) (fun x4 => some true) x3)
      x1) := by kernel_rfl


/-! ### (horologe/zone.Zone).parts -/
noncomputable abbrev ct_zParts : List (FuncId × Bool × SpecT) := [(126, false, s_zLong), (127, false, s_zRanged), (128, false, s_zNamed), (129, false, s_zWide), (130, false, s_zOrdered)]
theorem cs_zParts : AllSound Tryd.prog ct_zParts := ⟨so_zLong, so_zRanged, so_zNamed, so_zWide, so_zOrdered, trivial⟩
noncomputable def F_zParts (x : ((List Int × List Int × List (Int × Bool × List UInt8) × List (Int × Int) × Bool × (List UInt8 × List UInt8 × Int × Int × (Int × Int × Int × Int × Int) × (Int × Int × Int × Int × Int))))) : Option (Int) := (evalF Tryd.prog (lookT ct_zParts) (keepT []) (loopsT []) false false Tryd.f97 (codP [pZone]) 1 (codP [pE]) x).run
noncomputable abbrev s_zParts : SpecT := specF (codP [pZone]) 1 (codP [pE]) F_zParts
theorem so_zParts : SoundT Tryd.prog 97 s_zParts := soundG (P := Tryd.prog) mixed (t := ct_zParts) cs_zParts (f := 97) (fn := Tryd.f97) Tryd.func97 (by kernel_rfl) (by kernel_rfl) (by kernel_rfl) (ls := []) (by kernel_rfl) (kp := keepT []) (lps := loopsT []) (bump := false) (ice := false) (A := (codP [pZone])) (n := 1) (R := (codP [pE])) fun _ => lps_nil

theorem e_zParts (z : List Int × List Int × List (Int × Bool × List UInt8) × List (Int × Int) × Bool × (List UInt8 × List UInt8 × Int × Int × (Int × Int × Int × Int × Int) × (Int × Int × Int × Int × Int))) : F_zParts z = (
  bif decide ((↑(List.length z.snd.snd.fst) : Int) = (0 : Int)) then some (8 : Int)
  else
    (F_zLong z).bind fun x1 =>
      bif x1 then some (3 : Int)
      else
        bif decide ((↑(List.length z.snd.fst) : Int) ≠ (↑(List.length z.fst) : Int)) then some (2 : Int)
        else
          (F_zRanged z).bind fun x2 =>
            bif !x2 then some (1 : Int)
            else
              (F_zNamed z).bind fun x3 =>
                bif !x3 then some (2 : Int)
                else (F_zWide z).bind fun x4 => bif decide ((256 : Int) < x4) then some (3 : Int) else (F_zOrdered z).bind fun x5 => bif !x5 then some (6 : Int) else some (0 : Int)) := by kernel_rfl

/-! ### horologe/zone.First -/
noncomputable abbrev ct_zFirst : List (FuncId × Bool × SpecT) := [(99, false, s_ixUsual)]
theorem cs_zFirst : AllSound Tryd.prog ct_zFirst := ⟨so_ixUsual, trivial⟩
noncomputable def F_zFirst (x : ((List Int × List Int × List (Int × Bool × List UInt8) × List (Int × Int) × Bool × (List UInt8 × List UInt8 × Int × Int × (Int × Int × Int × Int × Int) × (Int × Int × Int × Int × Int))))) : Option ((Int × Bool × List UInt8) × Int) := (evalF Tryd.prog (lookT ct_zFirst) (keepT []) (loopsT []) false false Tryd.f63 (codP [pZone]) 2 (codP [pTyp, pE]) x).run
noncomputable abbrev s_zFirst : SpecT := specF (codP [pZone]) 2 (codP [pTyp, pE]) F_zFirst
theorem so_zFirst : SoundT Tryd.prog 63 s_zFirst := soundG (P := Tryd.prog) mixed (t := ct_zFirst) cs_zFirst (f := 63) (fn := Tryd.f63) Tryd.func63 (by kernel_rfl) (by kernel_rfl) (by kernel_rfl) (ls := []) (by kernel_rfl) (kp := keepT []) (lps := loopsT []) (bump := false) (ice := false) (A := (codP [pZone])) (n := 2) (R := (codP [pTyp, pE])) fun _ => lps_nil

theorem e_zFirst (z : List Int × List Int × List (Int × Bool × List UInt8) × List (Int × Int) × Bool × (List UInt8 × List UInt8 × Int × Int × (Int × Int × Int × Int × Int) × (Int × Int × Int × Int × Int))) : F_zFirst z = (
  bif decide ((↑(List.length z.snd.snd.fst) : Int) = (0 : Int)) then some (((0 : Int), false, []), (8 : Int))
  else (F_ixUsual (z.snd.snd.fst, ())).bind fun x1 => (getI z.snd.snd.fst (max x1 (0 : Int))).bind fun x2 => some (x2, (0 : Int))) := by kernel_rfl

/-! ### horologe/zone.Of -/
noncomputable abbrev ct_zOf : List (FuncId × Bool × SpecT) := [(28, false, s_pxCheck)]
theorem cs_zOf : AllSound Tryd.prog ct_zOf := ⟨so_pxCheck, trivial⟩
noncomputable def F_zOf (x : ((List UInt8 × List UInt8 × Int × Int × (Int × Int × Int × Int × Int) × (Int × Int × Int × Int × Int)))) : Option ((List Int × List Int × List (Int × Bool × List UInt8) × List (Int × Int) × Bool × (List UInt8 × List UInt8 × Int × Int × (Int × Int × Int × Int × Int) × (Int × Int × Int × Int × Int))) × Int) := (evalF Tryd.prog (lookT ct_zOf) (keepT []) (loopsT []) false true Tryd.f52 (codP [pPlan]) 2 (codP [pZone, pE]) x).run
noncomputable abbrev s_zOf : SpecT := specF (codP [pPlan]) 2 (codP [pZone, pE]) F_zOf
theorem so_zOf : SoundT Tryd.prog 52 s_zOf := soundG (P := Tryd.prog) mixed (t := ct_zOf) cs_zOf (f := 52) (fn := Tryd.f52) Tryd.func52 (by kernel_rfl) (by kernel_rfl) (by kernel_rfl) (ls := []) (by kernel_rfl) (kp := keepT []) (lps := loopsT []) (bump := false) (ice := true) (A := (codP [pPlan])) (n := 2) (R := (codP [pZone, pE])) fun _ => lps_nil

theorem e_zOf (p : List UInt8 × List UInt8 × Int × Int × (Int × Int × Int × Int × Int) × (Int × Int × Int × Int × Int)) : F_zOf p = (
  (F_pxCheck p).bind fun x1 =>
    bif decide (x1 ≠ (0 : Int)) then
      some (([], [], [], [], false, [], [], (0 : Int), (0 : Int), ((0 : Int), (0 : Int), (0 : Int), (0 : Int), (0 : Int)), (0 : Int), (0 : Int), (0 : Int), (0 : Int), (0 : Int)), x1)
    else some (([], [], [(p.snd.snd.fst, false, p.fst)], [], true, p), (0 : Int))) := by kernel_rfl


end Go.Sm
/- Plain Lean: texts that are read from the left (figures, scan). No program in sight but by its equations. -/
set_option linter.unusedVariables false
set_option linter.unusedSimpArgs false
namespace Go.Sm
open Go.Proofs

theorem wrap_i64 {x : Int} (h1 : -9223372036854775808 ≤ x) (h2 : x ≤ 9223372036854775807) : IntKind.i64.wrap x = x := by
  simp [IntKind.wrap, IntKind.bits, IntKind.signed]
  omega
theorem wrap_u64 {x : Int} (h1 : 0 ≤ x) (h2 : x ≤ 18446744073709551615) : IntKind.u64.wrap x = x := by
  simp [IntKind.wrap, IntKind.bits, IntKind.signed]
  omega
theorem getI_nat {α : Type} (l : List α) (i : Nat) : getI l (i : Int) = l[i]? := by
  unfold getI
  simp
theorem subI_nat {α : Type} (l : List α) {a b : Nat} (h : a ≤ b) (h2 : b ≤ l.length) : subI l (a : Int) (b : Int) = some ((l.take b).drop a) := by
  unfold subI
  rw [decide_eq_true (by omega)]
  simp
theorem cond_dec {α : Type} (p : Prop) [Decidable p] (a b : α) : (bif decide p then a else b) = if p then a else b := by
  by_cases h : p <;> simp [h]
abbrev small (s : List UInt8) : Prop := s.length ≤ 1000000000000

/-! ### figures -/
def isFig (b : UInt8) : Bool := decide (48 ≤ b) && decide (b ≤ 57)
theorem figIs (b : UInt8) : F_figIs b = some (isFig b) := by
  rw [e_figIs]
  unfold isFig
  cases decide (48 ≤ b) <;> rfl
theorem figRun_loop (s : List UInt8) (m : Int) (hs : small s) : ∀ (k n : Nat), (s.take m.toNat).length - n = k → n ≤ (s.take m.toNat).length →
    w_figRun_0 (s, m, (n : Int)) = some (((n + (((s.take m.toNat).drop n).takeWhile isFig).length : Nat) : Int)) := by
  intro k
  induction k with
  | zero =>
    intro n hk hn
    rw [ew_figRun_0, es_figRun_0, cond_dec, if_neg (by simp at hk hn; omega), List.drop_eq_nil_of_le (by omega)]
    rfl
  | succ k ih =>
    intro n hk hn
    have hlt : n < (s.take m.toNat).length := by omega
    have hlt2 : n < s.length := by simp at hlt; omega
    have hlt3 : n < m.toNat := by simp at hlt; omega
    rw [ew_figRun_0, es_figRun_0, cond_dec, if_pos (by simp at hlt; omega), getI_nat, List.getElem?_eq_getElem hlt2]
    simp only [Option.bind_some, figIs]
    rw [List.drop_eq_getElem_cons hlt, List.takeWhile_cons]
    have hg : (s.take m.toNat)[n] = s[n] := by simp
    rw [hg]
    unfold small at hs
    cases isFig s[n] with
    | true =>
      have hw : IntKind.i64.wrap ((n : Int) + 1) = ((n + 1 : Nat) : Int) := by rw [wrap_i64 (by omega) (by omega)]; simp
      rw [hw]
      have := ih (n + 1) (by omega) (by omega)
      simp only [cond_true, Option.bind_some, Sum.elim_inl, this, if_true, List.length_cons]
      congr 2
      omega
    | false => simp
/-- How many figures stand ahead. -/
def figs (m : Int) (s : List UInt8) : Nat := ((s.take m.toNat).takeWhile isFig).length
theorem figRun (s : List UInt8) (m : Int) (hs : small s) : F_figRun (s, m) = some (figs m s : Int) := by
  have h := figRun_loop s m hs _ 0 rfl (by omega)
  rw [Nat.zero_add, List.drop_zero, Int.natCast_zero] at h
  rw [e_figRun, h]
  rfl
def dig (b : UInt8) : Nat := b.toNat - 48
def decFrom (n : Nat) (s : List UInt8) : Nat := s.foldl (fun n b => n * 10 + dig b) n
theorem decFrom_cons (n : Nat) (b : UInt8) (s : List UInt8) : decFrom n (b :: s) = decFrom (n * 10 + dig b) s := by
  unfold decFrom
  rw [List.foldl_cons]
theorem decFrom_le (s : List UInt8) : ∀ n : Nat, n ≤ decFrom n s := by
  induction s with
  | nil => intro n; exact Nat.le_refl n
  | cons b s ih =>
    intro n
    have h := ih (n * 10 + dig b)
    rw [← decFrom_cons] at h
    omega
theorem isFig_iff {b : UInt8} : isFig b = true ↔ 48 ≤ b.toNat ∧ b.toNat ≤ 57 := by
  unfold isFig
  rw [Bool.and_eq_true, decide_eq_true_eq, decide_eq_true_eq, UInt8.le_iff_toNat_le, UInt8.le_iff_toNat_le]
  rfl
theorem figVal_loop (s : List UInt8) (hs : small s) (hf : s.all isFig = true) (lim : Nat) (hl : 9 ≤ lim) (hl2 : lim ≤ 18446744073709551615) : ∀ (k i n : Nat), s.length - i = k → i ≤ s.length → n ≤ lim →
    w_figValue_0 (s, (lim : Int), (n : Int), (s.length : Int), (i : Int)) = some (if decFrom n (s.drop i) ≤ lim then .inr ((decFrom n (s.drop i) : Nat) : Int) else .inl (0, 5)) := by
  intro k
  unfold small at hs
  induction k with
  | zero =>
    intro i n hk hi hn
    rw [ew_figValue_0, es_figValue_0, cond_dec, if_neg (by omega), List.drop_eq_nil_of_le (by omega)]
    simp [decFrom, hn]
  | succ k ih =>
    intro i n hk hi hn
    have hlt : i < s.length := by omega
    rw [ew_figValue_0, es_figValue_0, cond_dec, if_pos (by omega), getI_nat, List.getElem?_eq_getElem hlt, List.drop_eq_getElem_cons hlt, decFrom_cons]
    have hfi := isFig_iff.1 (List.all_eq_true.1 hf _ (List.getElem_mem hlt))
    generalize s[i] = b at hfi
    have hd : (b - (48 : UInt8)).toNat = dig b := by
      unfold dig
      rw [UInt8.toNat_sub_of_le _ _ (by rw [UInt8.le_iff_toNat_le]; exact hfi.1)]
      rfl
    have hdb : dig b ≤ 9 := by unfold dig; omega
    simp only [Option.bind_some, hd]
    rw [wrap_u64 (x := (lim : Int) - (dig b : Int)) (by omega) (by omega)]
    have hq : ((lim : Int) - (dig b : Int)).tdiv 10 = (((lim - dig b) / 10 : Nat) : Int) := by
      rw [show ((lim : Int) - (dig b : Int)) = ((lim - dig b : Nat) : Int) by omega]
      rfl
    rw [hq, wrap_u64 (by omega) (by omega), cond_dec]
    by_cases hc : n * 10 + dig b ≤ lim
    · rw [if_neg (by omega), wrap_u64 (x := (n : Int) * 10) (by omega) (by omega), wrap_u64 (by omega) (by omega), wrap_i64 (by omega) (by omega)]
      have := ih (i + 1) (n * 10 + dig b) (by omega) (by omega) hc
      simp only [Option.bind_some, Sum.elim_inl]
      rw [show ((n : Int) * 10 + (dig b : Int)) = ((n * 10 + dig b : Nat) : Int) by omega, show ((i : Int) + 1) = ((i + 1 : Nat) : Int) by omega, this]
    · have := decFrom_le (s.drop (i + 1)) (n * 10 + dig b)
      rw [if_pos (by omega), if_neg (by omega)]
      rfl
theorem figVal (s : List UInt8) (hs : small s) (hf : s.all isFig = true) (lim : Nat) (hl : 9 ≤ lim) (hl2 : lim ≤ 18446744073709551615) :
    F_figValue (s, (lim : Int)) = some (if decFrom 0 s ≤ lim then (((decFrom 0 s : Nat) : Int), 0) else (0, 5)) := by
  have h := figVal_loop s hs hf lim hl hl2 _ 0 0 rfl (by omega) (by omega)
  rw [List.drop_zero, Int.natCast_zero] at h
  rw [e_figValue, h]
  by_cases hc : decFrom 0 s ≤ lim
  · simp [hc]
  · simp [hc]
end Go.Sm
/- Plain Lean: the scanner as its rest and its error. -/
set_option linter.unusedVariables false
set_option linter.unusedSimpArgs false
namespace Go.Sm
open Go.Proofs

theorem indexByte_eq (l : List UInt8) (c : UInt8) : Lib.indexByte l c = if l.contains c then ((l.takeWhile (· != c)).length : Int) else -1 := by
  induction l with
  | nil => rfl
  | cons b l ih =>
    rw [Lib.indexByte, ih]
    by_cases hb : b = c
    · subst hb; simp
    · have h1 : (b == c) = false := by simpa using hb
      have h2 : (c == b) = false := by simpa using fun h => hb h.symm
      rw [h1, List.contains_cons, h2, Bool.false_or]
      cases hc : l.contains c with
      | true =>
        have h3 : ((((l.takeWhile (· != c)).length : Nat) : Int) == -1) = false := by simp
        simp only [Bool.false_eq_true, if_false, if_true, h3]
        rw [List.takeWhile_cons, show (b != c) = true by simpa using hb]
        simp
      | false => simp
theorem decFrom_lt (s : List UInt8) (hf : s.all isFig = true) : ∀ n : Nat, decFrom n s + 1 ≤ (n + 1) * 10 ^ s.length := by
  induction s with
  | nil => intro n; simp [decFrom]
  | cons b s ih =>
    intro n
    rw [List.all_cons, Bool.and_eq_true] at hf
    have h1 := isFig_iff.1 hf.1
    have h2 := ih hf.2 (n * 10 + dig b)
    rw [decFrom_cons, List.length_cons, Nat.pow_succ, Nat.mul_comm (10 ^ s.length) 10, ← Nat.mul_assoc]
    have hd : dig b ≤ 9 := by unfold dig; omega
    exact Nat.le_trans h2 (Nat.mul_le_mul_right _ (by omega))
theorem figs_le (m : Int) (s : List UInt8) : figs m s ≤ s.length ∧ figs m s ≤ m.toNat := by
  unfold figs
  have h := (List.takeWhile_prefix (p := isFig) (l := s.take m.toNat)).length_le
  simp at h
  omega
theorem figs_take (m : Int) (s : List UInt8) : s.take (figs m s) = (s.take m.toNat).takeWhile isFig := by
  have h : (s.take m.toNat).takeWhile isFig <+: s := (List.takeWhile_prefix _).trans (List.take_prefix _ _)
  exact (List.prefix_iff_eq_take.1 h).symm
theorem takeWhile_all (p : UInt8 → Bool) : ∀ s : List UInt8, (s.takeWhile p).all p = true
  | [] => rfl
  | b :: s => by
    rw [List.takeWhile_cons]
    cases hb : p b with
    | true => simp [hb, takeWhile_all p s]
    | false => simp
/-- What some figures say. -/
def figNum (m : Int) (s : List UInt8) : Nat := decFrom 0 (s.take (figs m s))
theorem figNum_lt (m : Int) (s : List UInt8) (k : Nat) (hk : m.toNat ≤ k) : figNum m s < 10 ^ k := by
  have h := decFrom_lt (s.take (figs m s)) (by rw [figs_take]; exact takeWhile_all _ _) 0
  have h2 := figs_le m s
  have h3 : 10 ^ (s.take (figs m s)).length ≤ 10 ^ k := Nat.pow_le_pow_right (by omega) (by simp; omega)
  unfold figNum
  omega
theorem FigTake (s : List UInt8) (l m : Nat) (hs : small s) (h1 : 1 ≤ l) (h2 : l ≤ m) (h3 : m ≤ 18) :
    F_FigTake (s, (l : Int), (m : Int)) = some (if figs m s < l then (0, 0, 2) else (((figNum m s : Nat) : Int), ((figs m s : Nat) : Int), 0)) := by
  have hle := figs_le m s
  have hv := figVal (s.take (figs m s)) (by unfold small at hs ⊢; simp; omega) (by rw [figs_take]; exact takeWhile_all _ _) 9223372036854775807 (by omega) (by omega)
  have hlt := figNum_lt m s 18 (by simpa using h3)
  have hd : decFrom 0 (s.take (figs m s)) ≤ 9223372036854775807 := by unfold figNum at hlt; omega
  rw [if_pos hd] at hv
  rw [e_FigTake, e_figTake]
  simp only [cond_dec]
  rw [if_neg (by omega), if_neg (by omega), if_neg (by omega), figRun s m hs]
  simp only [Option.bind_some]
  have hsub := subI_nat s (a := 0) (b := figs m s) (by omega) hle.1
  rw [List.drop_zero, Int.natCast_zero] at hsub
  by_cases hc : figs m s < l
  · rw [if_pos (show ((figs (m : Int) s : Nat) : Int) < (l : Int) by omega), if_pos hc]; rfl
  · rw [if_neg (show ¬ ((figs (m : Int) s : Nat) : Int) < (l : Int) by omega), if_neg hc, hsub]
    simp only [Option.bind_some]
    rw [show ((9223372036854775807 : Nat) : Int) = 9223372036854775807 from rfl] at hv
    rw [hv]
    simp only [Option.bind_some]
    rw [if_neg (by simp)]
    simp only [Option.bind_some]
    rw [wrap_i64 (by omega) (by omega)]
    rfl

/-! ### A scanner: its text, what is left of it, its error -/
def sc (t r : List UInt8) (e : Int) : List UInt8 × Int × Int := (t, ((t.length - r.length : Nat) : Int), e)
/-- What can be read. -/
def rd (r : List UInt8) (e : Int) : List UInt8 := if e = 0 then r else []
theorem scRest {t r : List UInt8} {e : Int} (h : r <:+ t) : F_scRest (sc t r e, ()) = some (sc t r e, rd r e) := by
  unfold sc rd
  rw [e_scRest, cond_dec, subI_nat _ (by omega) (Nat.le_refl _), List.take_length, ← List.suffix_iff_eq_drop.1 h]
  by_cases he : e = 0 <;> simp [he]
theorem scGoing {t r : List UInt8} {e : Int} : F_scGoing (sc t r e, ()) = some (sc t r e, decide (e = 0)) := e_scGoing _ _ _
theorem scErr {t r : List UInt8} {e : Int} : F_scErr (sc t r e, ()) = some (sc t r e, e) := e_scErr _ _ _
theorem scLeft {t r : List UInt8} {e : Int} (h : r <:+ t) : F_scLeft (sc t r e, ()) = some (sc t r e, ((rd r e).length : Int)) := by
  unfold sc
  rw [e_scLeft]
  have := scRest (e := e) h
  unfold sc at this
  rw [this]
  rfl
theorem scPeek {t r : List UInt8} {e : Int} (h : r <:+ t) : F_scPeek (sc t r e, ()) = some (sc t r e, match rd r e with | [] => (0, false) | b :: _ => (b, true)) := by
  have := scRest (e := e) h
  unfold sc at this ⊢
  rw [e_scPeek, this]
  cases rd r e with
  | nil => rfl
  | cons b l => rfl
theorem clone (s : List UInt8) (hs : small s) : F_Clone s = some s := by
  rw [e_Clone, cond_dec, if_pos (by unfold small at hs; omega)]
theorem scTake1 {t r : List UInt8} {e : Int} (h : r <:+ t) (ht : small t) {k : Nat} (hk : k ≤ (rd r e).length) : F_scTake1 (sc t r e, (), (k : Int)) = some (sc t (r.drop k) e, (rd r e).take k) := by
  have hr := scRest (e := e) h
  have hl := h.length_le
  have hlr : (rd r e).length ≤ r.length := by unfold rd; split <;> simp
  have hsub := subI_nat (rd r e) (a := 0) (b := k) (by omega) hk
  rw [List.drop_zero, Int.natCast_zero] at hsub
  unfold small at ht
  have hc := clone ((rd r e).take k) (by unfold small; simp; omega)
  unfold sc at hr ⊢
  rw [e_scTake1, hr]
  simp only [Option.bind_some, hsub, hc, cond_dec]
  by_cases hk0 : k = 0
  · subst hk0
    simp
  · rw [if_pos (by omega), wrap_i64 (by omega) (by omega)]
    simp only [List.length_drop, Option.some.injEq, Prod.mk.injEq, true_and, and_true]
    omega
/-- Is a byte taken? -/
def tkB (b : UInt8) (r : List UInt8) (e : Int) : Bool := decide ((rd r e).head? = some b)
def tk (b : UInt8) (r : List UInt8) (e : Int) : List UInt8 := if tkB b r e then r.drop 1 else r
theorem scTake {t r : List UInt8} {e : Int} (h : r <:+ t) (ht : small t) (b : UInt8) : F_scTake (sc t r e, (), b) = some (sc t (tk b r e) e, tkB b r e) := by
  have hp := scPeek (e := e) h
  have h1 := fun hk => scTake1 (e := e) h ht (k := 1) hk
  rw [Int.natCast_one] at h1
  unfold tk tkB
  have he : F_scTake (sc t r e, (), b) = (F_scPeek (sc t r e, ())).bind fun x1 => bif !x1.snd.snd then some (x1.fst, false) else bif decide (x1.snd.fst ≠ b) then some (x1.fst, false) else (F_scTake1 (x1.fst, (), (1 : Int))).bind fun x2 => some (x2.fst, true) := e_scTake _ _ _ _
  rw [he, hp]
  cases hq : rd r e with
  | nil => simp
  | cons c l =>
    simp only [Option.bind_some, Bool.not_true, cond_false, cond_dec, List.head?_cons, Option.some.injEq]
    by_cases hcb : c = b
    · rw [if_neg (by simpa using hcb), h1 (by rw [hq]; simp)]
      simp [hcb]
    · rw [if_pos hcb]
      simp [hcb]
theorem scFail {t r : List UInt8} {e : Int} (x : Int) : F_scFail (sc t r e, (), x) = some (sc t r (if e = 0 then x else e), ()) := by
  have he : F_scFail (sc t r e, (), x) = (F_scGoing (sc t r e, ())).bind fun x1 => bif x1.snd then some ((x1.fst.fst, x1.fst.snd.fst, x), ()) else some (x1.fst, ()) := e_scFail _ _ _ _
  rw [he, scGoing]
  simp only [Option.bind_some, cond_dec]
  by_cases h : e = 0
  · rw [if_pos h, if_pos h]; rfl
  · rw [if_neg h, if_neg h]
theorem scEnd {t r : List UInt8} {e : Int} (h : r <:+ t) : F_scEnd (sc t r e, ()) = some (sc t r e, if e ≠ 0 then e else if r = [] then 0 else 2) := by
  have he : F_scEnd (sc t r e, ()) = (F_scErr (sc t r e, ())).bind fun x1 => bif decide (x1.snd ≠ (0 : Int)) then some x1 else (F_scLeft (x1.fst, ())).bind fun x2 => bif decide ((0 : Int) < x2.snd) then some (x2.fst, (2 : Int)) else some (x2.fst, (0 : Int)) := e_scEnd _ _ _
  rw [he, scErr]
  simp only [Option.bind_some, cond_dec]
  by_cases h0 : e = 0
  · subst h0
    rw [if_neg (by simp), scLeft h]
    simp only [Option.bind_some, rd, if_true]
    cases r with
    | nil => simp
    | cons b l => simp
  · rw [if_pos h0, if_pos h0]
end Go.Sm
/- Plain Lean: the scanner's longer reads. -/
set_option linter.unusedVariables false
set_option linter.unusedSimpArgs false
namespace Go.Sm
open Go.Proofs

theorem scRun_loop (t : List UInt8) (a e : Int) (o r : List UInt8) (hs : small r) : ∀ (k n : Nat), r.length - n = k → n ≤ r.length →
    w_scRun_0 ((t, a, e), (), o, r, (n : Int)) = some ((t, a, e), (), ((n + ((r.drop n).takeWhile fun c => o.contains c).length : Nat) : Int)) := by
  intro k
  unfold small at hs
  induction k with
  | zero =>
    intro n hk hn
    rw [ew_scRun_0, es_scRun_0, cond_dec, if_neg (by omega), List.drop_eq_nil_of_le (by omega)]
    rfl
  | succ k ih =>
    intro n hk hn
    have hlt : n < r.length := by omega
    rw [ew_scRun_0, es_scRun_0, cond_dec, if_pos (by omega), getI_nat, List.getElem?_eq_getElem hlt, List.drop_eq_getElem_cons hlt, List.takeWhile_cons]
    simp only [Option.bind_some, cond_dec, indexByte_eq]
    cases hc : o.contains r[n] with
    | true =>
      rw [if_pos rfl, if_pos (by omega), wrap_i64 (by omega) (by omega)]
      have := ih (n + 1) (by omega) (by omega)
      simp only [Option.bind_some, Sum.elim_inl, if_true, List.length_cons]
      rw [show ((n : Int) + 1) = ((n + 1 : Nat) : Int) by omega, this]
      simp only [Option.some.injEq, Prod.mk.injEq, true_and]
      omega
    | false =>
      simp only [Bool.false_eq_true, if_false]
      rw [if_neg (by omega)]
      rfl
theorem takeWhile_self (p : UInt8 → Bool) : ∀ l : List UInt8, (∀ x ∈ l, p x = true) → l.takeWhile p = l
  | [], _ => rfl
  | b :: l, h => by
    rw [List.takeWhile_cons, h b (by simp), if_pos rfl, takeWhile_self p l fun x hx => h x (by simp [hx])]
/-- A reader's run: what it takes, what is left. -/
def runP (o : List UInt8) : UInt8 → Bool := fun c => o.contains c
theorem take_takeWhile (p : UInt8 → Bool) (l : List UInt8) : l.take (l.takeWhile p).length = l.takeWhile p :=
  (List.prefix_iff_eq_take.1 (List.takeWhile_prefix p)).symm
theorem drop_takeWhile (p : UInt8 → Bool) : ∀ l : List UInt8, l.drop (l.takeWhile p).length = l.dropWhile p
  | [] => rfl
  | b :: l => by
    rw [List.takeWhile_cons, List.dropWhile_cons]
    cases p b with
    | true => simpa using drop_takeWhile p l
    | false => rfl
def wl (p : UInt8 → Bool) (r : List UInt8) (e : Int) : List UInt8 := if e = 0 then r.dropWhile p else r
theorem rd_zero {r : List UInt8} : rd r 0 = r := rfl
theorem rd_ne {r : List UInt8} {e : Int} (h : e ≠ 0) : rd r e = [] := if_neg h
theorem scTakeN {t r : List UInt8} {e : Int} (h : r <:+ t) (ht : small t) (p : UInt8 → Bool) : F_scTake1 (sc t r e, (), (((rd r e).takeWhile p).length : Int)) = some (sc t (wl p r e) e, (rd r e).takeWhile p) := by
  have hle : ((rd r e).takeWhile p).length ≤ (rd r e).length := (List.takeWhile_prefix p).length_le
  rw [scTake1 h ht hle, take_takeWhile]
  unfold wl
  by_cases he : e = 0
  · subst he
    rw [if_pos rfl, rd_zero, drop_takeWhile]
  · rw [if_neg he, rd_ne he]
    rfl
theorem small_rd {t r : List UInt8} {e : Int} (h : r <:+ t) (ht : small t) : small (rd r e) := by
  have := h.length_le
  unfold small rd at *
  split
  · omega
  · simp
theorem scRun {t r : List UInt8} {e : Int} (h : r <:+ t) (ht : small t) (o : List UInt8) : F_scRun (sc t r e, (), o) = some (sc t (wl (runP o) r e) e, (rd r e).takeWhile (runP o)) := by
  have he : F_scRun (sc t r e, (), o) = (F_scRest (sc t r e, ())).bind fun x1 => (w_scRun_0 (x1.fst, (), o, x1.snd, (0 : Int))).bind fun x2 => (F_scTake1 (x2.fst, (), x2.snd.snd)).bind fun x3 => some x3 := e_scRun _ _ _ _
  have hl : w_scRun_0 (sc t r e, (), o, rd r e, ((0 : Nat) : Int)) = some (sc t r e, (), _) := scRun_loop t _ e o (rd r e) (small_rd h ht) _ 0 rfl (by omega)
  rw [Nat.zero_add, List.drop_zero, Int.natCast_zero] at hl
  rw [he, scRest h]
  simp only [Option.bind_some]
  rw [hl]
  simp only [Option.bind_some]
  exact congrArg (fun o => Option.bind o some) (scTakeN h ht (runP o))
theorem scUntil {t r : List UInt8} {e : Int} (h : r <:+ t) (ht : small t) (b : UInt8) : F_scUntil (sc t r e, (), b) = some (sc t (wl (· != b) r e) e, (rd r e).takeWhile (· != b)) := by
  have he : F_scUntil (sc t r e, (), b) = (F_scRest (sc t r e, ())).bind fun x1 =>
    bif decide (Lib.indexByte x1.snd b < (0 : Int)) then (F_scTake1 (x1.fst, (), (↑(List.length x1.snd) : Int))).bind fun x2 => some x2
    else (F_scTake1 (x1.fst, (), Lib.indexByte x1.snd b)).bind fun x2 => some x2 := e_scUntil _ _ _ _
  have hn := scTakeN (e := e) h ht (· != b)
  rw [he, scRest h]
  simp only [Option.bind_some, cond_dec, indexByte_eq]
  cases hc : (rd r e).contains b with
  | true =>
    rw [if_pos rfl, if_neg (by omega), hn]
    rfl
  | false =>
    have hall : (rd r e).takeWhile (· != b) = rd r e := by
      refine takeWhile_self _ _ fun x hx => ?_
      have : ¬ b ∈ rd r e := by simpa using hc
      simp only [bne_iff_ne, ne_eq]
      rintro rfl
      exact this hx
    rw [hall] at hn
    simp only [Bool.false_eq_true, if_false]
    rw [if_pos (by omega), hn, hall]
    rfl
/-- Are the figures there? -/
def fgB (l m : Nat) (r : List UInt8) (e : Int) : Bool := decide (e = 0) && !decide (figs m r < l)
def fgE (l m : Nat) (r : List UInt8) (e : Int) : Int := if e = 0 ∧ figs m r < l then 2 else e
def fgR (l m : Nat) (r : List UInt8) (e : Int) : List UInt8 := if fgB l m r e then r.drop (figs m r) else r
def fgV (l m : Nat) (r : List UInt8) (e : Int) : Int := if fgB l m r e then (figNum m r : Int) else 0
theorem scFigures {t r : List UInt8} {e : Int} (h : r <:+ t) (ht : small t) (l m : Nat) (h1 : 1 ≤ l) (h2 : l ≤ m) (h3 : m ≤ 18) :
    F_scFigures (sc t r e, (), (l : Int), (m : Int)) = some (sc t (fgR l m r e) (fgE l m r e), fgV l m r e) := by
  have he : F_scFigures (sc t r e, (), (l : Int), (m : Int)) = (F_scGoing (sc t r e, ())).bind fun x1 =>
    bif !x1.snd then some (x1.fst, (0 : Int))
    else
      (F_scRest (x1.fst, ())).bind fun x2 =>
        (F_FigTake (x2.snd, (l : Int), (m : Int))).bind fun x3 =>
          bif decide (x3.snd.snd ≠ (0 : Int)) then some ((x2.fst.fst, x2.fst.snd.fst, x3.snd.snd), (0 : Int)) else (F_scTake1 (x2.fst, (), x3.snd.fst)).bind fun x4 => some (x4.fst, x3.fst) := e_scFigures _ _ _ _ _
  rw [he, scGoing]
  simp only [Option.bind_some]
  by_cases h0 : e = 0
  · subst h0
    have hsm := small_rd (e := 0) h ht
    simp only [decide_true, Bool.not_true, cond_false]
    rw [rd_zero] at hsm
    rw [scRest h, rd_zero]
    simp only [Option.bind_some]
    rw [FigTake r l m hsm h1 h2 h3]
    simp only [Option.bind_some, cond_dec]
    by_cases hc : figs m r < l
    · rw [if_pos hc]
      simp [fgE, fgR, fgV, fgB, hc, sc]
    · rw [if_neg hc]
      simp only [ne_eq, not_true_eq_false, if_false]
      rw [scTake1 h ht (k := figs m r) (by rw [rd_zero]; exact (figs_le _ _).1)]
      simp [fgE, fgR, fgV, fgB, hc]
  · simp [fgE, fgR, fgV, fgB, h0]
theorem scSmall (b : UInt8) : F_scSmall b = some (if 65 ≤ b ∧ b ≤ 90 then b - 65 + 97 else b) := by
  rw [e_scSmall]
  simp only [cond_dec]
  by_cases h1 : 65 ≤ b
  · by_cases h2 : b ≤ 90 <;> simp [h1, h2]
  · simp [h1]
theorem scAlike1 (b c : UInt8) (hc : ¬ (97 ≤ c ∧ c ≤ 122)) (hc2 : ¬ (65 ≤ c ∧ c ≤ 90)) : F_scAlike ([b], [c]) = some (decide (b = c)) := by
  have hg : ∀ x : UInt8, getI [x] 0 = some x := fun x => rfl
  have hw : IntKind.i64.wrap ((0 : Int) + 1) = 1 := by rw [wrap_i64 (by omega) (by omega)]; rfl
  rw [e_scAlike, ew_scAlike_0, es_scAlike_0]
  simp only [cond_dec, List.length_singleton, hg, scSmall, Option.bind_some, if_neg hc2, hw]
  rw [if_pos (by simp)]
  have hiff : (if 65 ≤ b ∧ b ≤ 90 then b - 65 + 97 else b) = c ↔ b = c := by
    by_cases hb : 65 ≤ b ∧ b ≤ 90
    · rw [if_pos hb]
      constructor
      · intro h
        exfalso
        apply hc
        subst h
        simp only [UInt8.le_iff_toNat_le] at hb ⊢
        have h1 : (b - 65).toNat = b.toNat - 65 := UInt8.toNat_sub_of_le _ _ (by rw [UInt8.le_iff_toNat_le]; exact hb.1)
        have h2 : (b - 65 + 97).toNat = b.toNat - 65 + 97 := by
          rw [UInt8.toNat_add, h1]
          have : b.toNat ≤ 90 := hb.2
          simp
          omega
        rw [h2]
        have h3 : (65 : UInt8).toNat = 65 := rfl
        have h4 : (90 : UInt8).toNat = 90 := rfl
        have h5 : (97 : UInt8).toNat = 97 := rfl
        have h6 : (122 : UInt8).toNat = 122 := rfl
        omega
      · rintro rfl
        exact absurd hb hc2
    · rw [if_neg hb]
  by_cases hbc : b = c
  · rw [if_neg (by simpa using hiff.2 hbc)]
    simp only [Option.bind_some, Sum.elim_inl]
    rw [ew_scAlike_0, es_scAlike_0]
    simp [hbc]
  · rw [if_pos (fun h => hbc (hiff.1 h))]
    simp [hbc]
theorem scFold1 {t r : List UInt8} {e : Int} (h : r <:+ t) (ht : small t) (c : UInt8) (hc : ¬ (97 ≤ c ∧ c ≤ 122)) (hc2 : ¬ (65 ≤ c ∧ c ≤ 90)) : F_scFold (sc t r e, (), [c]) = some (sc t (tk c r e) e, tkB c r e) := by
  have he : F_scFold (sc t r e, (), [c]) = (F_scRest (sc t r e, ())).bind fun x1 =>
    (F_scGoing (x1.fst, ())).bind fun x2 =>
      bif !x2.snd then some (x2.fst, false)
      else
        bif decide ((↑(List.length x1.snd) : Int) < (↑[c].length : Int)) then some (x2.fst, false)
        else
          (subI x1.snd (0 : Int) (↑[c].length : Int)).bind fun x3 =>
            (F_scAlike (x3, [c])).bind fun x4 => bif !x4 then some (x2.fst, false) else (F_scTake1 (x2.fst, (), (↑[c].length : Int))).bind fun x5 => some (x5.fst, true) := e_scFold _ _ _ _
  rw [he]
  clear he
  by_cases h0 : e = 0
  · subst h0
    have h1 := fun hk => scTake1 (e := 0) h ht (k := 1) hk
    rw [rd_zero] at h1
    rw [scRest h, rd_zero]
    simp only [Option.bind_some]
    rw [scGoing]
    simp only [Option.bind_some, decide_true, Bool.not_true, cond_false, List.length_singleton, cond_dec]
    unfold tk tkB
    rw [rd_zero]
    cases r with
    | nil => simp
    | cons b l =>
      rw [if_neg (by simp; omega)]
      have hsub := subI_nat (b :: l) (a := 0) (b := 1) (by omega) (by simp)
      rw [Int.natCast_zero] at hsub
      rw [hsub]
      simp only [Option.bind_some, List.take_succ_cons, List.take_zero, List.drop_zero]
      rw [scAlike1 b c hc hc2]
      simp only [Option.bind_some]
      by_cases hbc : b = c
      · rw [h1 (by simp)]
        simp [hbc]
      · simp [hbc]
  · rw [scRest h]
    simp only [Option.bind_some]
    rw [scGoing]
    unfold tk tkB
    simp [h0, rd]
def muE (c : UInt8) (r : List UInt8) (e : Int) : Int := if e = 0 ∧ tkB c r e = false then 2 else e
theorem scMust1 {t r : List UInt8} {e : Int} (h : r <:+ t) (ht : small t) (c : UInt8) (hc : ¬ (97 ≤ c ∧ c ≤ 122)) (hc2 : ¬ (65 ≤ c ∧ c ≤ 90)) : F_scMust (sc t r e, (), [c]) = some (sc t (tk c r e) (muE c r e), ()) := by
  have he : F_scMust (sc t r e, (), [c]) = (F_scFold (sc t r e, (), [c])).bind fun x1 => bif !x1.snd then (F_scFail (x1.fst, (), (2 : Int))).bind fun x2 => some (x2.fst, ()) else some (x1.fst, ()) := e_scMust _ _ _ _
  rw [he, scFold1 h ht c hc hc2]
  simp only [Option.bind_some]
  unfold muE
  cases hb : tkB c r e with
  | true => simp
  | false =>
    simp only [Bool.not_false, cond_true]
    rw [scFail]
    simp
theorem suf_tk {t r : List UInt8} {e : Int} (b : UInt8) (h : r <:+ t) : tk b r e <:+ t := by
  unfold tk
  split
  · exact (List.drop_suffix _ _).trans h
  · exact h
theorem suf_wl {t r : List UInt8} {e : Int} (p : UInt8 → Bool) (h : r <:+ t) : wl p r e <:+ t := by
  unfold wl
  split
  · exact (List.dropWhile_suffix _).trans h
  · exact h
theorem suf_fgR {t r : List UInt8} {e : Int} (l m : Nat) (h : r <:+ t) : fgR l m r e <:+ t := by
  unfold fgR
  split
  · exact (List.drop_suffix _ _).trans h
  · exact h
end Go.Sm
/- Plain Lean: loops over a text or a list. -/
set_option linter.unusedVariables false
set_option linter.unusedSimpArgs false
namespace Go.Sm
open Go.Proofs

theorem all_mem {p : UInt8 → Bool} {s : List UInt8} (h : s.all p = true) : ∀ x ∈ s, p x = true := List.all_eq_true.1 h
/-! ### Loops over a text or a list -/
theorem scan_loop {σ β γ : Type} {step : σ → Option (σ ⊕ β)} (st : Nat → σ) (fin : Nat → β) (l : List γ) (p : γ → Bool)
    (h1 : ∀ i (h : i < l.length), p l[i] = true → step (st i) = some (.inl (st (i + 1)))) (h2 : ∀ i (h : i < l.length), p l[i] = false → step (st i) = some (.inr (fin i)))
    (h3 : step (st l.length) = some (.inr (fin l.length))) : ∀ i, i ≤ l.length → whileO step (st i) = some (fin (i + ((l.drop i).takeWhile p).length)) := by
  have main : ∀ k i, l.length - i = k → i ≤ l.length → whileO step (st i) = some (fin (i + ((l.drop i).takeWhile p).length)) := by
    intro k
    induction k with
    | zero =>
      intro i hk hi
      obtain rfl : i = l.length := by omega
      rw [whileO_eq, h3, List.drop_length]
      rfl
    | succ k ih =>
      intro i hk hi
      have hlt : i < l.length := by omega
      rw [whileO_eq, List.drop_eq_getElem_cons hlt, List.takeWhile_cons]
      cases hp : p l[i] with
      | true =>
        rw [h1 i hlt hp]
        simp only [Option.bind_some, Sum.elim_inl, if_true, List.length_cons]
        rw [ih (i + 1) (by omega) (by omega)]
        congr 2
        omega
      | false =>
        rw [h2 i hlt hp]
        rfl
  exact fun i hi => main _ i rfl hi
theorem fold_loop {σ β γ α : Type} {step : σ → Option (σ ⊕ β)} (st : Nat → α → σ) (fin : α → β) (l : List γ) (f : α → γ → α) (ok : Nat → α → Prop)
    (h1 : ∀ i (h : i < l.length) a, ok i a → ok (i + 1) (f a l[i]) ∧ step (st i a) = some (.inl (st (i + 1) (f a l[i]))))
    (h3 : ∀ a, ok l.length a → step (st l.length a) = some (.inr (fin a))) : ∀ i a, i ≤ l.length → ok i a → whileO step (st i a) = some (fin ((l.drop i).foldl f a)) := by
  have main : ∀ k i a, l.length - i = k → i ≤ l.length → ok i a → whileO step (st i a) = some (fin ((l.drop i).foldl f a)) := by
    intro k
    induction k with
    | zero =>
      intro i a hk hi hok
      obtain rfl : i = l.length := by omega
      rw [whileO_eq, h3 a hok, List.drop_length]
      rfl
    | succ k ih =>
      intro i a hk hi hok
      have hlt : i < l.length := by omega
      obtain ⟨ho, hs⟩ := h1 i hlt a hok
      rw [whileO_eq, hs, List.drop_eq_getElem_cons hlt, List.foldl_cons]
      exact ih (i + 1) _ (by omega) (by omega) ho
  exact fun i a hi hok => main _ i a rfl hi hok
theorem wrap_succ {i : Nat} (h : i ≤ 1000000000000) : IntKind.i64.wrap ((i : Int) + 1) = ((i + 1 : Nat) : Int) := by rw [wrap_i64 (by omega) (by omega)]; simp
theorem getI_at {α : Type} {l : List α} {i : Nat} (h : i < l.length) : getI l (i : Int) = some l[i] := by rw [getI_nat, List.getElem?_eq_getElem h]
theorem tw_full (p : UInt8 → Bool) (s : List UInt8) : (s.takeWhile p).length = s.length ↔ s.all p = true := by
  constructor
  · intro h
    have : s.takeWhile p = s := List.IsPrefix.eq_of_length (List.takeWhile_prefix _) h
    rw [← this]
    exact takeWhile_all p s
  · intro h
    rw [takeWhile_self p s (all_mem h)]
theorem scan_ne {σ β : Type} {step : σ → Option (σ ⊕ β)} (st : Nat → σ) (fin : Nat → β) (s : List UInt8) (p : UInt8 → Bool)
    (h : ∀ i, i ≤ s.length → step (st i) = (if h : i < s.length then (if p s[i] then some (.inl (st (i + 1))) else some (.inr (fin i))) else some (.inr (fin i)))) :
    ∀ i, i ≤ s.length → whileO step (st i) = some (fin (i + ((s.drop i).takeWhile p).length)) :=
  scan_loop st fin s p (fun i hi hp => by rw [h i (by omega), dif_pos hi, if_pos hp]) (fun i hi hp => by rw [h i (by omega), dif_pos hi, if_neg (by simp [hp])]) (by rw [h _ (by omega), dif_neg (by omega)])
end Go.Sm
/- Plain Lean: sets of bytes below 128, read rune by rune. -/
set_option linter.unusedVariables false
set_option linter.unusedSimpArgs false
namespace Go.Sm
open Go.Proofs

theorem get_at (s : List UInt8) (p : Nat) (h : p < s.length) : (ByteArray.get! ⟨s.toArray⟩ (p + 0)) = s[p] := by
  rw [Nat.add_zero]
  show (s.toArray)[p]! = s[p]
  simp [h]
theorem dec_low (s : List UInt8) (p : Nat) (h : p < s.length) (hb : s[p].toNat < 128) : Utf8.decode ⟨s.toArray⟩ p = (s[p].toNat, 1) := by
  unfold Utf8.decode
  simp only [get_at s p h]
  rw [if_pos hb]
theorem dec_high (s : List UInt8) (p : Nat) (h : p < s.length) (hb : 128 ≤ s[p].toNat) : 128 ≤ (Utf8.decode ⟨s.toArray⟩ p).1 := by
  unfold Utf8.decode
  simp only [get_at s p h]
  rw [if_neg (by omega)]
  repeat' split
  all_goals first | (simp [Utf8.runeError]; done) | skip
  · rename_i h1 h2; simp at h2 ⊢; omega
  · rename_i h1 h2; simp at h2 ⊢; omega
  · rename_i h1 h2; simp at h2 ⊢; omega
/-- All bytes of a set are below 128. -/
abbrev low (u : List UInt8) : Prop := ∀ x ∈ u, x.toNat < 128
def inSet (u : List UInt8) (c : Int) : Bool := u.any fun x => decide (c = (x.toNat : Int))
theorem cutL1 (s t : List UInt8) (i c : Int) (r u : List UInt8) (p : Nat) (hu : low u) : ∀ (k q : Nat) (b : Bool), u.length - q = k → q ≤ u.length →
    w_cutLeft_1 (s, t, i, c, b, (r, p), (u, q)) = some (s, t, i, b || inSet (u.drop q) c, (r, p)) := by
  intro k
  induction k with
  | zero =>
    intro q b hk hq
    rw [ew_cutLeft_1, es_cutLeft_1, cond_dec, if_neg (by omega), List.drop_eq_nil_of_le (by omega)]
    simp [inSet]
  | succ k ih =>
    intro q b hk hq
    have hlt : q < u.length := by omega
    rw [ew_cutLeft_1, es_cutLeft_1, cond_dec, if_pos hlt, dec_low u q hlt (hu _ (List.getElem_mem hlt)), List.drop_eq_getElem_cons hlt]
    cases b with
    | true =>
      simp only [cond_true, Option.bind_some, Sum.elim_inl, Bool.true_or]
      rw [ih (q + 1) true (by omega) (by omega)]
      rfl
    | false =>
      simp only [cond_false, Option.bind_some, Sum.elim_inl, Bool.false_or]
      rw [ih (q + 1) _ (by omega) (by omega)]
      unfold inSet
      rw [List.any_cons]
theorem inSet_low (u : List UInt8) (b : UInt8) : inSet u (b.toNat : Int) = u.contains b := by
  unfold inSet
  rw [Bool.eq_iff_iff, List.any_eq_true, List.contains_iff_mem]
  constructor
  · rintro ⟨x, hx, h⟩
    have h := of_decide_eq_true h
    have : b = x := UInt8.toNat_inj.1 (by omega)
    rwa [this]
  · intro h
    exact ⟨b, h, by simp⟩
theorem inSet_high (u : List UInt8) (hu : low u) (c : Nat) (h : 128 ≤ c) : inSet u (c : Int) = false := by
  unfold inSet
  rw [List.any_eq_false]
  intro x hx
  have := hu x hx
  simp
  omega
theorem high_out (u : List UInt8) (hu : low u) (b : UInt8) (h : 128 ≤ b.toNat) : u.contains b = false := by
  cases hc : u.contains b with
  | false => rfl
  | true =>
    have := hu b (by simpa using hc)
    omega
theorem rune_in (s u : List UInt8) (hu : low u) (p : Nat) (h : p < s.length) : inSet u ((Utf8.decode ⟨s.toArray⟩ p).1 : Int) = u.contains s[p] := by
  by_cases hb : s[p].toNat < 128
  · rw [dec_low s p h hb, inSet_low]
  · rw [inSet_high u hu _ (dec_high s p h (by omega)), high_out u hu _ (by omega)]
theorem cutL0 (s u : List UInt8) (hs : small s) (hu : low u) : ∀ (k p : Nat), s.length - p = k → p ≤ s.length →
    w_cutLeft_0 (s, u, (s, p)) = some (if (s.drop p).dropWhile (fun c => u.contains c) = [] then .inr () else .inl ((s.drop p).dropWhile (fun c => u.contains c))) := by
  intro k
  unfold small at hs
  induction k with
  | zero =>
    intro p hk hp
    rw [ew_cutLeft_0, es_cutLeft_0, cond_dec, if_neg (by omega), List.drop_eq_nil_of_le (by omega)]
    rfl
  | succ k ih =>
    intro p hk hp
    have hlt : p < s.length := by omega
    have hin := rune_in s u hu p hlt
    rw [ew_cutLeft_0, es_cutLeft_0, cond_dec, if_pos hlt, cutL1 s u _ _ s u _ hu _ 0 false rfl (by omega)]
    rw [List.drop_zero, hin, List.drop_eq_getElem_cons hlt, List.dropWhile_cons]
    simp only [Option.bind_some, Bool.false_or]
    cases hc : u.contains s[p] with
    | true =>
      have hlow : s[p].toNat < 128 := hu _ (by simpa using hc)
      simp only [Bool.not_true, cond_false, Option.bind_some, Sum.elim_inl, if_true]
      rw [dec_low s p hlt hlow]
      exact ih (p + 1) (by omega) (by omega)
    | false =>
      simp only [Bool.not_false, cond_true, Bool.false_eq_true, if_false]
      rw [subI_nat s (a := p) (b := s.length) (by omega) (by omega), List.take_length, List.drop_eq_getElem_cons hlt]
      simp
      exact hlt
theorem cutLeft (s u : List UInt8) (hs : small s) (hu : low u) : F_cutLeft (s, u) = some (s.dropWhile fun c => u.contains c) := by
  rw [e_cutLeft, cutL0 s u hs hu _ 0 rfl (by omega), List.drop_zero]
  by_cases h : s.dropWhile (fun c => u.contains c) = []
  · rw [if_pos h, h]; rfl
  · rw [if_neg h]; rfl
theorem lastStart_le (l : List UInt8) : (2 ≤ l.length → Lib.lastStart l + 2 ≤ l.length) ∧ (l.length < 2 → Lib.lastStart l = 0) := by
  unfold Lib.lastStart
  constructor
  · intro h
    simp only
    repeat' split
    all_goals omega
  · intro h
    simp only
    rw [if_pos h]
/-- The last byte, as a rune. -/
theorem last_in (s u : List UInt8) (hu : low u) (b : UInt8) : inSet u ((Lib.decodeLastL (s ++ [b])).1 : Int) = u.contains b ∧ (u.contains b = true → (Lib.decodeLastL (s ++ [b])).2 = 1) := by
  have hg : (s ++ [b]).getD ((s ++ [b]).length - 1) 0 = b := by simp
  unfold Lib.decodeLastL
  rw [if_neg (by simp), hg]
  by_cases hb : b.toNat < 128
  · rw [if_pos hb]
    exact ⟨inSet_low u b, fun _ => rfl⟩
  · rw [if_neg hb, high_out u hu b (by omega)]
    refine ⟨?_, fun h => by cases h⟩
    simp only
    split
    · rename_i hd
      obtain ⟨h1, h2⟩ := lastStart_le (s ++ [b])
      have hlen : (s ++ [b]).length = s.length + 1 := by simp
      have hpos : Lib.lastStart (s ++ [b]) < (s ++ [b]).length := by
        by_cases hs : 2 ≤ (s ++ [b]).length
        · have := h1 hs; omega
        · have := h2 (by omega); omega
      have hr : 0 < ((s ++ [b]).drop (Lib.lastStart (s ++ [b]))).length := by rw [List.length_drop]; omega
      have h0 : ((s ++ [b]).drop (Lib.lastStart (s ++ [b])))[0] = (s ++ [b])[Lib.lastStart (s ++ [b])] := by simp
      unfold Lib.decodeL at hd ⊢
      by_cases hl : ((s ++ [b]).drop (Lib.lastStart (s ++ [b])))[0].toNat < 128
      · exfalso
        rw [dec_low _ 0 hr hl] at hd
        simp only at hd
        by_cases hs : 2 ≤ (s ++ [b]).length
        · have := h1 hs; omega
        · have hz := h2 (by omega)
          have hsn : s = [] := by
            cases s with
            | nil => rfl
            | cons x y => simp at hs
          subst hsn
          simp only [hz] at hl
          exact hb hl
      · exact inSet_high u hu _ (dec_high _ 0 hr (by omega))
    · exact inSet_high u hu 65533 (by omega)
theorem cutR1 (s t : List UInt8) (c n : Int) (u : List UInt8) (hu : low u) : ∀ (k q : Nat) (b : Bool), u.length - q = k → q ≤ u.length →
    w_cutRight_1 (s, t, c, n, b, (u, q)) = some (s, t, n, b || inSet (u.drop q) c) := by
  intro k
  induction k with
  | zero =>
    intro q b hk hq
    rw [ew_cutRight_1, es_cutRight_1, cond_dec, if_neg (by omega), List.drop_eq_nil_of_le (by omega)]
    simp [inSet]
  | succ k ih =>
    intro q b hk hq
    have hlt : q < u.length := by omega
    rw [ew_cutRight_1, es_cutRight_1, cond_dec, if_pos hlt, dec_low u q hlt (hu _ (List.getElem_mem hlt)), List.drop_eq_getElem_cons hlt]
    cases b with
    | true =>
      simp only [cond_true, Option.bind_some, Sum.elim_inl, Bool.true_or]
      rw [ih (q + 1) true (by omega) (by omega)]
      rfl
    | false =>
      simp only [cond_false, Option.bind_some, Sum.elim_inl, Bool.false_or]
      rw [ih (q + 1) _ (by omega) (by omega)]
      unfold inSet
      rw [List.any_cons]
/-- A text without what stands at its end. -/
def trimR (p : UInt8 → Bool) (s : List UInt8) : List UInt8 := (s.reverse.dropWhile p).reverse
theorem cutR0 (u : List UInt8) (hu : low u) : ∀ (k : Nat) (s : List UInt8), s.length = k → small s →
    w_cutRight_0 (s, u) = some (if trimR (fun c => u.contains c) s = [] then .inr [] else .inl (trimR (fun c => u.contains c) s)) := by
  intro k
  induction k with
  | zero =>
    intro s hk hs
    obtain rfl := List.length_eq_zero_iff.1 hk
    rw [ew_cutRight_0, es_cutRight_0, cond_dec, if_neg (by simp)]
    rfl
  | succ k ih =>
    intro s hk hs
    obtain ⟨s', b, rfl⟩ : ∃ s' b, s = s' ++ [b] := by
      rcases List.eq_nil_or_concat s with h | ⟨s', b, h⟩
      · subst h; simp at hk
      · exact ⟨s', b, by simpa using h⟩
    obtain ⟨h1, h2⟩ := last_in s' u hu b
    have hlen : (s' ++ [b]).length = s'.length + 1 := by simp
    unfold small at hs
    rw [ew_cutRight_0, es_cutRight_0, cond_dec, cond_dec, if_pos (by omega), if_pos (by omega), cutR1 _ u _ _ u hu _ 0 false rfl (by omega)]
    rw [List.drop_zero, h1]
    simp only [Option.bind_some, Bool.false_or]
    have htr : trimR (fun c => u.contains c) (s' ++ [b]) = if u.contains b then trimR (fun c => u.contains c) s' else s' ++ [b] := by
      unfold trimR
      rw [List.reverse_append, List.reverse_singleton, List.singleton_append, List.dropWhile_cons]
      cases u.contains b with
      | true => rfl
      | false => simp
    rw [htr]
    cases hc : u.contains b with
    | true =>
      simp only [Bool.not_true, cond_false, if_true]
      rw [h2 hc]
      have hsub := subI_nat (s' ++ [b]) (a := 0) (b := s'.length) (by omega) (by omega)
      rw [Int.natCast_zero, List.drop_zero, List.take_left'] at hsub
      · rw [wrap_i64 (by omega) (by omega), show (((s' ++ [b]).length : Nat) : Int) - ((1 : Nat) : Int) = (s'.length : Int) by omega, hsub]
        simp only [Option.bind_some, Sum.elim_inl]
        exact ih s' (by omega) (by unfold small; omega)
      · rfl
    | false =>
      simp
theorem cutRight (s u : List UInt8) (hs : small s) (hu : low u) : F_cutRight (s, u) = some (trimR (fun c => u.contains c) s) := by
  rw [e_cutRight, cutR0 u hu _ s rfl hs]
  by_cases h : trimR (fun c => u.contains c) s = []
  · rw [if_pos h, h]; rfl
  · rw [if_neg h]; rfl
theorem dropWhile_head (p : UInt8 → Bool) : ∀ (s : List UInt8) {b : UInt8} {l : List UInt8}, s.dropWhile p = b :: l → p b = false
  | [], _, _, h => by cases h
  | x :: s, b, l, h => by
    rw [List.dropWhile_cons] at h
    cases hx : p x with
    | true => rw [hx, if_pos rfl] at h; exact dropWhile_head p s h
    | false =>
      rw [hx] at h
      simp only [Bool.false_eq_true, if_false] at h
      rw [← (List.cons.inj h).1]
      exact hx
theorem dropWhile_nil (p : UInt8 → Bool) : ∀ s : List UInt8, s.dropWhile p = [] → ∀ x ∈ s, p x = true
  | [], _, x, hx => by cases hx
  | y :: s, h, x, hx => by
    rw [List.dropWhile_cons] at h
    cases hy : p y with
    | true =>
      rw [hy, if_pos rfl] at h
      rcases List.mem_cons.1 hx with rfl | hx
      · exact hy
      · exact dropWhile_nil p s h x hx
    | false => rw [hy] at h; cases h
theorem pxOf (s u : List UInt8) (hs : small s) (hu : low u) : F_pxOf (s, u) = some (s.all fun c => u.contains c) := by
  rw [e_pxOf, cutLeft s u hs hu]
  simp only [Option.bind_some]
  have hle := (List.dropWhile_suffix (p := fun c => u.contains c) (l := s)).length_le
  rw [cutRight _ u (by unfold small at *; omega) hu]
  simp only [Option.bind_some, Option.some.injEq]
  cases hq : s.dropWhile (fun c => u.contains c) with
  | nil =>
    have : s.all (fun c => u.contains c) = true := by
      have h := List.takeWhile_append_dropWhile (p := fun c => u.contains c) (l := s)
      rw [hq, List.append_nil] at h
      rw [← h]
      exact takeWhile_all _ _
    rw [this]
    rfl
  | cons b l =>
    have hb : u.contains b = false := by
      exact dropWhile_head (fun c => u.contains c) s hq
    have hm : b ∈ s := by
      have : b ∈ s.dropWhile (fun c => u.contains c) := by rw [hq]; simp
      exact (List.dropWhile_suffix _).subset this
    have hall : s.all (fun c => u.contains c) = false := by
      rw [List.all_eq_false]
      exact ⟨b, hm, by rw [hb]; simp⟩
    rw [hall, decide_eq_false_iff_not]
    unfold trimR
    intro h
    have h := List.reverse_eq_nil_iff.1 h
    have := dropWhile_nil (fun c => u.contains c) _ h b (by simp)
    rw [hb] at this
    cases this
end Go.Sm
/- Plain Lean: clocks and rules as the program reads them. -/
set_option linter.unusedVariables false
set_option linter.unusedSimpArgs false
namespace Go.Sm
open Go.Proofs

theorem ruleIn (x l h : Int) : F_ruleIn (x, l, h) = some (decide (l ≤ x ∧ x ≤ h)) := by
  rw [e_ruleIn, cond_dec]
  by_cases h1 : l ≤ x <;> simp [h1]
theorem scNew (s : List UInt8) : F_scNew s = some (sc s s 0, ()) := by
  rw [e_scNew]
  unfold sc
  simp
theorem fgV_nn (l m : Nat) (r : List UInt8) (e : Int) (k : Nat) (hk : m ≤ k) : 0 ≤ fgV l m r e ∧ fgV l m r e < 10 ^ k := by
  have := figNum_lt m r k (by simpa using hk)
  have h10 : (0 : Int) < 10 ^ k := Int.pow_pos (by omega)
  unfold fgV
  split
  · constructor
    · omega
    · exact_mod_cast this
  · exact ⟨by omega, h10⟩
theorem tk_false {b : UInt8} {r : List UInt8} {e : Int} (h : tkB b r e = false) : tk b r e = r := by
  unfold tk
  rw [h]
  rfl
/-- A colon and two figures: what is left, the error, the number, whether the colon stood there. -/
def pt (r : List UInt8) (e : Int) : List UInt8 × Int × Int × Bool :=
  if tkB 58 r e then (fgR 2 2 (tk 58 r e) e, fgE 2 2 (tk 58 r e) e, fgV 2 2 (tk 58 r e) e, true) else (r, e, 0, false)
theorem suf_pt {t r : List UInt8} {e : Int} (h : r <:+ t) : (pt r e).1 <:+ t := by
  unfold pt
  split
  · exact suf_fgR _ _ (suf_tk _ h)
  · exact h
theorem pt_range (r : List UInt8) (e : Int) : 0 ≤ (pt r e).2.2.1 ∧ (pt r e).2.2.1 < 100 := by
  unfold pt
  split
  · exact fgV_nn 2 2 _ _ 2 (by omega)
  · exact ⟨by simp, by simp⟩
theorem rulePart {t r : List UInt8} {e : Int} (h : r <:+ t) (ht : small t) : F_rulePart (sc t r e, ()) = some (sc t (pt r e).1 (pt r e).2.1, (pt r e).2.2) := by
  have hf := scFigures (e := e) (suf_tk 58 (e := e) h) ht 2 2 (by omega) (by omega) (by omega)
  rw [show ((2 : Nat) : Int) = 2 from rfl] at hf
  rw [e_rulePart, scTake h ht]
  simp only [Option.bind_some]
  unfold pt
  cases hb : tkB 58 r e with
  | true =>
    simp only [Bool.not_true, cond_false]
    rw [hf]
    rfl
  | false =>
    rw [tk_false hb]
    rfl
/-- A clock's text: sign, hours, minutes, seconds. -/
def clkR (s : List UInt8) : List UInt8 := if tkB 45 s 0 then tk 45 s 0 else tk 43 s 0
def clkA (s : List UInt8) : List UInt8 × Int × Int := (fgR 1 3 (clkR s) 0, fgE 1 3 (clkR s) 0, fgV 1 3 (clkR s) 0)
def clkB (s : List UInt8) : List UInt8 × Int × Int × Bool := pt (clkA s).1 (clkA s).2.1
def clkC (s : List UInt8) : List UInt8 × Int × Int × Bool := if (clkB s).2.2.2 then pt (clkB s).1 (clkB s).2.1 else ((clkB s).1, (clkB s).2.1, 0, false)
def clkN (s : List UInt8) : Int := (clkA s).2.2 * 3600 + (clkB s).2.2.1 * 60 + (clkC s).2.2.1
def clk (s : List UInt8) (m : Int) : Int × Int :=
  if (clkC s).2.1 ≠ 0 ∨ (clkC s).1 ≠ [] then (0, 2)
  else if m < (clkA s).2.2 ∨ 60 ≤ (clkB s).2.2.1 ∨ 60 ≤ (clkC s).2.2.1 then (0, 1)
  else (if tkB 45 s 0 then -clkN s else clkN s, 0)
theorem suf_clkR (s : List UInt8) : clkR s <:+ s := by
  unfold clkR
  split
  · exact suf_tk _ (List.suffix_refl s)
  · exact suf_tk _ (List.suffix_refl s)
theorem suf_clkA (s : List UInt8) : (clkA s).1 <:+ s := suf_fgR _ _ (suf_clkR s)
theorem suf_clkB (s : List UInt8) : (clkB s).1 <:+ s := suf_pt (suf_clkA s)
/-- What stands at the end of a clock. -/
def clkEnd (e : Int) (r : List UInt8) : Int := if e ≠ 0 then e else if r = [] then 0 else 2
theorem clkEnd_ne (e : Int) (r : List UInt8) : clkEnd e r ≠ 0 ↔ e ≠ 0 ∨ r ≠ [] := by
  unfold clkEnd
  by_cases h : e = 0
  · by_cases h2 : r = [] <;> simp [h, h2]
  · simp [h]
theorem clk_tail (s : List UInt8) (m : Int) (hA : 0 ≤ (clkA s).2.2 ∧ (clkA s).2.2 < 1000) (hB : 0 ≤ (clkB s).2.2.1 ∧ (clkB s).2.2.1 < 100) (hC : 0 ≤ (clkC s).2.2.1 ∧ (clkC s).2.2.1 < 100) (bl : Bool) (hbl : bl = tkB 45 s 0) :
    (if clkEnd (clkC s).2.1 (clkC s).1 ≠ 0 then some ((0 : Int), (2 : Int))
      else if m < (clkA s).2.2 then some (0, 1) else if 60 ≤ (clkB s).2.2.1 then some (0, 1) else if 60 ≤ (clkC s).2.2.1 then some (0, 1)
      else bif bl then some (IntKind.i64.wrap (0 - IntKind.i64.wrap (IntKind.i64.wrap (IntKind.i64.wrap ((clkA s).2.2 * 3600) + IntKind.i64.wrap ((clkB s).2.2.1 * 60)) + (clkC s).2.2.1)), 0)
      else some (IntKind.i64.wrap (IntKind.i64.wrap (IntKind.i64.wrap ((clkA s).2.2 * 3600) + IntKind.i64.wrap ((clkB s).2.2.1 * 60)) + (clkC s).2.2.1), 0)) = some (clk s m) := by
  subst hbl
  unfold clk clkN
  rw [wrap_i64 (x := (clkA s).2.2 * 3600) (by omega) (by omega), wrap_i64 (x := (clkB s).2.2.1 * 60) (by omega) (by omega), wrap_i64 (x := (clkA s).2.2 * 3600 + (clkB s).2.2.1 * 60) (by omega) (by omega),
    wrap_i64 (x := (clkA s).2.2 * 3600 + (clkB s).2.2.1 * 60 + (clkC s).2.2.1) (by omega) (by omega), wrap_i64 (x := 0 - _) (by omega) (by omega)]
  by_cases h1 : clkEnd (clkC s).2.1 (clkC s).1 ≠ 0
  · rw [if_pos h1, if_pos ((clkEnd_ne _ _).1 h1)]
  · rw [if_neg h1, if_neg (fun h => h1 ((clkEnd_ne _ _).2 h))]
    by_cases h2 : m < (clkA s).2.2
    · rw [if_pos h2, if_pos (.inl h2)]
    · rw [if_neg h2]
      by_cases h3 : 60 ≤ (clkB s).2.2.1
      · rw [if_pos h3, if_pos (.inr (.inl h3))]
      · rw [if_neg h3]
        by_cases h4 : 60 ≤ (clkC s).2.2.1
        · rw [if_pos h4, if_pos (.inr (.inr h4))]
        · rw [if_neg h4, if_neg (by omega)]
          cases tkB 45 s 0
          · rfl
          · simp
theorem ruleParseClock (s : List UInt8) (m : Int) (hs : small s) (h0 : 0 ≤ m) (h1 : m ≤ 999) : F_ruleParseClock (s, m) = some (clk s m) := by
  have hA : 0 ≤ (clkA s).2.2 ∧ (clkA s).2.2 < 1000 := fgV_nn 1 3 _ _ 3 (by omega)
  have hB : 0 ≤ (clkB s).2.2.1 ∧ (clkB s).2.2.1 < 100 := pt_range _ _
  have hC : 0 ≤ (clkC s).2.2.1 ∧ (clkC s).2.2.1 < 100 := by
    unfold clkC
    split
    · exact pt_range _ _
    · exact ⟨by simp, by simp⟩
  have hfig : F_scFigures (sc s (clkR s) 0, (), (1 : Int), (3 : Int)) = some (sc s (clkA s).1 (clkA s).2.1, (clkA s).2.2) := scFigures (suf_clkR s) hs 1 3 (by omega) (by omega) (by omega)
  have hpB : F_rulePart (sc s (clkA s).1 (clkA s).2.1, ()) = some (sc s (clkB s).1 (clkB s).2.1, (clkB s).2.2) := rulePart (suf_clkA s) hs
  have hpC := rulePart (e := (clkB s).2.1) (suf_clkB s) hs
  have htail := fun bl hbl => clk_tail s m hA hB hC bl hbl
  have hend : ∀ r e, r <:+ s → F_scEnd (sc s r e, ()) = some (sc s r e, clkEnd e r) := fun r e h => scEnd h
  rw [e_ruleParseClock, ruleIn]
  simp only [Option.bind_some]
  rw [decide_eq_true ⟨h0, h1⟩]
  simp only [Bool.not_true, cond_false]
  rw [scNew]
  simp only [Option.bind_some]
  rw [scTake (List.suffix_refl s) hs]
  simp only [Option.bind_some]
  cases hb : tkB 45 s 0 with
  | true =>
    have hR : tk 45 s 0 = clkR s := by unfold clkR; rw [hb]; rfl
    have ht := htail true hb.symm
    simp only [Bool.not_true, cond_false, hR, cond_true] at ht ⊢
    rw [hfig]
    simp only [Option.bind_some]
    rw [hpB]
    simp only [Option.bind_some]
    cases hm : (clkB s).2.2.2 with
    | true =>
      have hCe : clkC s = pt (clkB s).1 (clkB s).2.1 := by unfold clkC; rw [hm]; rfl
      rw [← hCe] at hpC
      simp only [cond_true]
      rw [hpC]
      simp only [Option.bind_some]
      rw [hend _ _ (by rw [hCe]; exact suf_pt (suf_clkB s))]
      simp only [Option.bind_some, cond_dec]
      exact ht
    | false =>
      have hCe : clkC s = ((clkB s).1, (clkB s).2.1, 0, false) := by unfold clkC; rw [hm]; rfl
      simp only [cond_false]
      rw [hend _ _ (suf_clkB s)]
      simp only [Option.bind_some, cond_dec]
      rw [hCe] at ht
      simpa using ht
  | false =>
    have hR : tk 43 s 0 = clkR s := by unfold clkR; rw [hb]; rfl
    have ht := htail false hb.symm
    have h43 := scTake (e := 0) (List.suffix_refl s) hs 43
    rw [tk_false hb]
    simp only [Bool.not_false, cond_true, cond_false] at ht ⊢
    rw [h43]
    simp only [Option.bind_some, hR]
    rw [hfig]
    simp only [Option.bind_some]
    rw [hpB]
    simp only [Option.bind_some]
    cases hm : (clkB s).2.2.2 with
    | true =>
      have hCe : clkC s = pt (clkB s).1 (clkB s).2.1 := by unfold clkC; rw [hm]; rfl
      rw [← hCe] at hpC
      simp only [cond_true]
      rw [hpC]
      simp only [Option.bind_some]
      rw [hend _ _ (by rw [hCe]; exact suf_pt (suf_clkB s))]
      simp only [Option.bind_some, cond_dec]
      exact ht
    | false =>
      have hCe : clkC s = ((clkB s).1, (clkB s).2.1, 0, false) := by unfold clkC; rw [hm]; rfl
      simp only [cond_false]
      rw [hend _ _ (suf_clkB s)]
      simp only [Option.bind_some, cond_dec]
      rw [hCe] at ht
      simpa using ht
end Go.Sm
/- Plain Lean: rules: the checks (program and reference), the cut at a byte, weekly rules. -/
set_option linter.unusedVariables false
set_option linter.unusedSimpArgs false
namespace Go.Sm
open Go.Proofs

abbrev may (k m w d : Int) : Prop := (k = 1 ∧ 1 ≤ d ∧ d ≤ 365 ∧ m = 0 ∧ w = 0) ∨ (k = 2 ∧ 0 ≤ d ∧ d ≤ 365 ∧ m = 0 ∧ w = 0) ∨ (k = 3 ∧ 1 ≤ m ∧ m ≤ 12 ∧ 1 ≤ w ∧ w ≤ 5 ∧ 0 ≤ d ∧ d ≤ 6)
/-- What is wrong with a rule. -/
def rck (k m w d t : Int) : Int := if 1 ≤ k ∧ k ≤ 3 then (if may k m w d ∧ -604799 ≤ t ∧ t ≤ 604799 then 0 else 1) else 11
theorem ite_some {α : Type} (p : Prop) [Decidable p] (a b : α) : (if p then some a else some b) = some (if p then a else b) := by
  by_cases h : p <;> simp [h]
theorem ruleMay (k m w d t : Int) (h : 1 ≤ k ∧ k ≤ 3) : F_ruleMay (k, m, w, d, t) = some (decide (may k m w d)) := by
  rw [e_ruleMay]
  show (bif decide (k = 1) then (F_ruleIn (d, 1, 365)).bind fun x1 => bif x1 then bif decide (m = 0) then some (decide (w = 0)) else some false else some false
    else bif decide (k = 2) then (F_ruleIn (d, 0, 365)).bind fun x1 => bif x1 then bif decide (m = 0) then some (decide (w = 0)) else some false else some false
    else (F_ruleIn (m, 1, 12)).bind fun x1 => bif x1 then (F_ruleIn (w, 1, 5)).bind fun x2 => bif x2 then (F_ruleIn (d, 0, 6)).bind fun x3 => some x3 else some false else some false) = some (decide (may k m w d))
  simp only [ruleIn, Option.bind_some, cond_dec, ite_some, Option.some.injEq]
  rw [Bool.eq_iff_iff]
  by_cases h1 : k = 1
  · rw [if_pos h1]
    by_cases hd : 1 ≤ d ∧ d ≤ 365
    · rw [if_pos hd]
      by_cases hm : m = 0
      · rw [if_pos hm, decide_eq_true_eq, decide_eq_true_eq]; omega
      · rw [if_neg hm, decide_eq_true_eq]; simp only [Bool.false_eq_true, false_iff]; omega
    · rw [if_neg hd, decide_eq_true_eq]; simp only [Bool.false_eq_true, false_iff]; omega
  · rw [if_neg h1]
    by_cases h2 : k = 2
    · rw [if_pos h2]
      by_cases hd : 0 ≤ d ∧ d ≤ 365
      · rw [if_pos hd]
        by_cases hm : m = 0
        · rw [if_pos hm, decide_eq_true_eq, decide_eq_true_eq]; omega
        · rw [if_neg hm, decide_eq_true_eq]; simp only [Bool.false_eq_true, false_iff]; omega
      · rw [if_neg hd, decide_eq_true_eq]; simp only [Bool.false_eq_true, false_iff]; omega
    · rw [if_neg h2]
      by_cases hm : 1 ≤ m ∧ m ≤ 12
      · rw [if_pos hm]
        by_cases hw : 1 ≤ w ∧ w ≤ 5
        · rw [if_pos hw, decide_eq_true_eq, decide_eq_true_eq]; omega
        · rw [if_neg hw, decide_eq_true_eq]; simp only [Bool.false_eq_true, false_iff]; omega
      · rw [if_neg hm, decide_eq_true_eq]; simp only [Bool.false_eq_true, false_iff]; omega
theorem ruleCheck (k m w d t : Int) : F_ruleCheck (k, m, w, d, t) = some (rck k m w d t) := by
  rw [e_ruleCheck]
  show ((F_ruleIn (k, 1, 3)).bind fun x1 => bif !x1 then some 11 else (F_ruleMay (k, m, w, d, t)).bind fun x2 => bif !x2 then some 1 else (F_ruleIn (t, -604799, 604799)).bind fun x3 => bif !x3 then some 1 else some 0) = some (rck k m w d t)
  unfold rck
  by_cases h : 1 ≤ k ∧ k ≤ 3
  · rw [ruleMay k m w d t h, ruleIn, ruleIn, decide_eq_true h, if_pos h]
    by_cases h2 : may k m w d
    · by_cases h3 : -604799 ≤ t ∧ t ≤ 604799
      · rw [decide_eq_true h2, decide_eq_true h3, if_pos ⟨h2, h3⟩]; rfl
      · rw [decide_eq_true h2, decide_eq_false h3, if_neg (fun q => h3 q.2)]; rfl
    · rw [decide_eq_false h2, if_neg (fun q => h2 q.1)]; rfl
  · rw [ruleIn, decide_eq_false h, if_neg h]; rfl
theorem r6Check (k m w d t : Int) : F_r6Check (k, m, w, d, t) = some (rck k m w d t) := by
  rw [e_r6Check]
  unfold rck
  simp only [cond_dec]
  by_cases ht : -604799 ≤ t
  · rw [if_pos ht]
    by_cases h1 : k = 1
    · rw [if_pos h1, if_pos (show 1 ≤ k ∧ k ≤ 3 by omega)]
      by_cases hq : may k m w d ∧ -604799 ≤ t ∧ t ≤ 604799
      · rw [if_pos hq, if_pos (by omega), if_pos (by omega), if_pos (by omega), if_pos (by omega), decide_eq_true (show w = 0 by omega)]; rfl
      · rw [if_neg hq]
        repeat' split
        all_goals first | rfl | skip
        cases hw : decide (w = 0) with
        | false => rfl
        | true => exact absurd (of_decide_eq_true hw) (by omega)
    · rw [if_neg h1]
      by_cases h2 : k = 2
      · rw [if_pos h2, if_pos (show 1 ≤ k ∧ k ≤ 3 by omega)]
        by_cases hq : may k m w d ∧ -604799 ≤ t ∧ t ≤ 604799
        · rw [if_pos hq, if_pos (by omega), if_pos (by omega), if_pos (by omega), if_pos (by omega), decide_eq_true (show w = 0 by omega)]; rfl
        · rw [if_neg hq]
          repeat' split
          all_goals first | rfl | skip
          cases hw : decide (w = 0) with
          | false => rfl
          | true => exact absurd (of_decide_eq_true hw) (by omega)
      · rw [if_neg h2]
        by_cases h3 : k = 3
        · rw [if_pos h3, if_pos (show 1 ≤ k ∧ k ≤ 3 by omega)]
          by_cases hq : may k m w d ∧ -604799 ≤ t ∧ t ≤ 604799
          · rw [if_pos hq, if_pos (by omega), if_pos (by omega), if_pos (by omega), if_pos (by omega), if_pos (by omega), if_pos (by omega), decide_eq_true (show d ≤ 6 by omega)]; rfl
          · rw [if_neg hq]
            repeat' split
            all_goals first | rfl | skip
            cases hw : decide (d ≤ 6) with
            | false => rfl
            | true => exact absurd (of_decide_eq_true hw) (by omega)
        · rw [if_neg h3, if_neg (by omega)]
  · rw [if_neg ht]
    by_cases h0 : 1 ≤ k ∧ k ≤ 3
    · rw [if_pos h0, if_neg (show ¬ (may k m w d ∧ -604799 ≤ t ∧ t ≤ 604799) by omega)]
      repeat' split
      all_goals first | rfl | omega
    · rw [if_neg h0, if_neg (show ¬ k = 1 by omega), if_neg (show ¬ k = 2 by omega), if_neg (show ¬ k = 3 by omega)]
/-- What stands ahead of a byte, and behind it. -/
def cutB (c : UInt8) (s : List UInt8) : List UInt8 × List UInt8 × Bool := if s.contains c then (s.takeWhile (· != c), (s.dropWhile (· != c)).drop 1, true) else (s, [], false)
theorem cut (s : List UInt8) (c : UInt8) (hs : small s) : F_Cut (s, [c]) = some (cutB c s) := by
  unfold small at hs
  rw [e_Cut, e_sliteCut]
  simp only [cond_dec, indexByte_eq]
  unfold cutB
  cases hc : s.contains c with
  | true =>
    have hle := (List.takeWhile_prefix (p := (· != c)) (l := s)).length_le
    have hlt : (s.takeWhile (· != c)).length < s.length := by
      apply Nat.lt_of_le_of_ne hle
      intro he
      have : s.takeWhile (· != c) = s := List.IsPrefix.eq_of_length (List.takeWhile_prefix _) he
      have hm : c ∈ s := by simpa using hc
      rw [← this] at hm
      have := List.all_eq_true.1 (takeWhile_all (· != c) s) c hm
      simp at this
    have h1 := subI_nat s (a := 0) (b := (s.takeWhile (· != c)).length) (by omega) hle
    have h2 := subI_nat s (a := (s.takeWhile (· != c)).length + 1) (b := s.length) (by omega) (Nat.le_refl _)
    rw [List.drop_zero, Int.natCast_zero, take_takeWhile] at h1
    rw [List.take_length, ← List.drop_drop, drop_takeWhile] at h2
    simp only [if_true]
    rw [if_pos (by omega), h1, wrap_i64 (by simp; omega) (by simp; omega)]
    simp only [Option.bind_some, List.length_singleton]
    rw [show ((((s.takeWhile (· != c)).length : Nat) : Int) + ((1 : Nat) : Int)) = (((s.takeWhile (· != c)).length + 1 : Nat) : Int) by omega, h2]
    rfl
  | false =>
    simp only [Bool.false_eq_true, if_false]
    rw [if_neg (by omega)]
    rfl
end Go.Sm
/- Plain Lean: the program's reading of a rule. -/
set_option linter.unusedVariables false
set_option linter.unusedSimpArgs false
namespace Go.Sm
open Go.Proofs

/-- Figures and a point, by turns: what is left, the error. -/
def fgQ (l m : Nat) (q : List UInt8 × Int) : List UInt8 × Int := (fgR l m q.1 q.2, fgE l m q.1 q.2)
def muQ (c : UInt8) (q : List UInt8 × Int) : List UInt8 × Int := (tk c q.1 q.2, muE c q.1 q.2)
theorem suf_fgQ {t : List UInt8} {q : List UInt8 × Int} (l m : Nat) (h : q.1 <:+ t) : (fgQ l m q).1 <:+ t := suf_fgR l m h
theorem suf_muQ {t : List UInt8} {q : List UInt8 × Int} (c : UInt8) (h : q.1 <:+ t) : (muQ c q).1 <:+ t := suf_tk c h
def wk1 (q : List UInt8 × Int) := muQ 46 (fgQ 1 2 q)
def wk2 (q : List UInt8 × Int) := muQ 46 (fgQ 1 1 (wk1 q))
def wk3 (q : List UInt8 × Int) := fgQ 1 1 (wk2 q)
theorem ruleWeekly {t : List UInt8} {q : List UInt8 × Int} (h : q.1 <:+ t) (ht : small t) :
    F_ruleWeekly (sc t q.1 q.2, ()) = some (sc t (wk3 q).1 (wk3 q).2, (3, fgV 1 2 q.1 q.2, fgV 1 1 (wk1 q).1 (wk1 q).2, fgV 1 1 (wk2 q).1 (wk2 q).2, 0)) := by
  have f1 : F_scFigures (sc t q.1 q.2, (), (1 : Int), (2 : Int)) = some (sc t (fgQ 1 2 q).1 (fgQ 1 2 q).2, fgV 1 2 q.1 q.2) := scFigures h ht 1 2 (by omega) (by omega) (by omega)
  have m1 : F_scMust (sc t (fgQ 1 2 q).1 (fgQ 1 2 q).2, (), [46]) = some (sc t (wk1 q).1 (wk1 q).2, ()) := scMust1 (suf_fgQ 1 2 h) ht 46 (by decide) (by decide)
  have s1 : (wk1 q).1 <:+ t := suf_muQ 46 (suf_fgQ 1 2 h)
  have f2 : F_scFigures (sc t (wk1 q).1 (wk1 q).2, (), (1 : Int), (1 : Int)) = some (sc t (fgQ 1 1 (wk1 q)).1 (fgQ 1 1 (wk1 q)).2, fgV 1 1 (wk1 q).1 (wk1 q).2) := scFigures s1 ht 1 1 (by omega) (by omega) (by omega)
  have m2 : F_scMust (sc t (fgQ 1 1 (wk1 q)).1 (fgQ 1 1 (wk1 q)).2, (), [46]) = some (sc t (wk2 q).1 (wk2 q).2, ()) := scMust1 (suf_fgQ 1 1 s1) ht 46 (by decide) (by decide)
  have s2 : (wk2 q).1 <:+ t := suf_muQ 46 (suf_fgQ 1 1 s1)
  have f3 : F_scFigures (sc t (wk2 q).1 (wk2 q).2, (), (1 : Int), (1 : Int)) = some (sc t (wk3 q).1 (wk3 q).2, fgV 1 1 (wk2 q).1 (wk2 q).2) := scFigures s2 ht 1 1 (by omega) (by omega) (by omega)
  rw [e_ruleWeekly, f1]
  simp only [Option.bind_some]
  rw [m1]
  simp only [Option.bind_some]
  rw [f2]
  simp only [Option.bind_some]
  rw [m2]
  simp only [Option.bind_some]
  rw [f3]
  rfl
abbrev Rul := Int × Int × Int × Int × Int
def noRule : Rul := (0, 0, 0, 0, 0)
/-- A rule's date: what is left, the error, kind, month, week, day. -/
def dat (d : List UInt8) : (List UInt8 × Int) × Int × Int × Int × Int :=
  if tkB 74 d 0 then (fgQ 1 3 (tk 74 d 0, 0), 1, 0, 0, fgV 1 3 (tk 74 d 0) 0)
  else if tkB 77 d 0 then (wk3 (tk 77 d 0, 0), 3, fgV 1 2 (tk 77 d 0) 0, fgV 1 1 (wk1 (tk 77 d 0, 0)).1 (wk1 (tk 77 d 0, 0)).2, fgV 1 1 (wk2 (tk 77 d 0, 0)).1 (wk2 (tk 77 d 0, 0)).2)
  else (fgQ 1 3 (d, 0), 2, 0, 0, fgV 1 3 d 0)
/-- A rule with its time. -/
def fin (x : Int × Int × Int × Int) (t : Int) : Rul × Int := if rck x.1 x.2.1 x.2.2.1 x.2.2.2 t ≠ 0 then (noRule, rck x.1 x.2.1 x.2.2.1 x.2.2.2 t) else ((x.1, x.2.1, x.2.2.1, x.2.2.2, t), 0)
def rul (s : List UInt8) : Rul × Int :=
  if clkEnd (dat (cutB 47 s).1).1.2 (dat (cutB 47 s).1).1.1 ≠ 0 then (noRule, 2)
  else if (cutB 47 s).2.2 then (if (clk (cutB 47 s).2.1 167).2 ≠ 0 then (noRule, (clk (cutB 47 s).2.1 167).2) else fin (dat (cutB 47 s).1).2 (clk (cutB 47 s).2.1 167).1)
  else fin (dat (cutB 47 s).1).2 7200
theorem small_cut {s : List UInt8} (c : UInt8) (hs : small s) : small (cutB c s).1 ∧ small (cutB c s).2.1 := by
  unfold small cutB at *
  have h1 := (List.takeWhile_prefix (p := (· != c)) (l := s)).length_le
  have h2 := (List.dropWhile_suffix (p := (· != c)) (l := s)).length_le
  split
  · simp; omega
  · simp; omega
theorem rul_tail {t r : List UInt8} {e : Int} (h : r <:+ t) (b : Bool) (c : List UInt8) (hc : small c) (k m w d : Int) :
    ((F_scEnd (sc t r e, ())).bind fun x5 =>
      bif decide (x5.snd ≠ (0 : Int)) then some (((0 : Int), (0 : Int), (0 : Int), (0 : Int), (0 : Int)), (2 : Int))
      else
        bif b then
          (F_ruleParseClock (c, (167 : Int))).bind fun x6 =>
            bif decide (x6.snd ≠ (0 : Int)) then some (((0 : Int), (0 : Int), (0 : Int), (0 : Int), (0 : Int)), x6.snd)
            else
              (F_ruleCheck (k, m, w, d, x6.fst)).bind fun x7 =>
                bif decide (x7 ≠ (0 : Int)) then some (((0 : Int), (0 : Int), (0 : Int), (0 : Int), (0 : Int)), x7) else some ((k, m, w, d, x6.fst), (0 : Int))
        else
          (F_ruleCheck (k, m, w, d, (7200 : Int))).bind fun x6 =>
            bif decide (x6 ≠ (0 : Int)) then some (((0 : Int), (0 : Int), (0 : Int), (0 : Int), (0 : Int)), x6) else some ((k, m, w, d, (7200 : Int)), (0 : Int))) =
    some (if clkEnd e r ≠ 0 then (noRule, 2) else if b then (if (clk c 167).2 ≠ 0 then (noRule, (clk c 167).2) else fin (k, m, w, d) (clk c 167).1) else fin (k, m, w, d) 7200) := by
  have hend : F_scEnd (sc t r e, ()) = some (sc t r e, clkEnd e r) := scEnd h
  rw [hend]
  simp only [Option.bind_some, cond_dec]
  by_cases h1 : clkEnd e r ≠ 0
  · rw [if_pos h1, if_pos h1]; rfl
  · rw [if_neg h1, if_neg h1]
    cases b with
    | true =>
      simp only [cond_true, if_true]
      rw [ruleParseClock c 167 hc (by omega) (by omega)]
      simp only [Option.bind_some]
      by_cases h2 : (clk c 167).2 ≠ 0
      · rw [if_pos h2, if_pos h2]; rfl
      · rw [if_neg h2, if_neg h2, ruleCheck]
        simp only [Option.bind_some]
        unfold fin
        simp only
        by_cases h3 : rck k m w d (clk c 167).1 ≠ 0
        · rw [if_pos h3, if_pos h3]; rfl
        · rw [if_neg h3, if_neg h3]
    | false =>
      simp only [cond_false, Bool.false_eq_true, if_false]
      rw [ruleCheck]
      simp only [Option.bind_some]
      unfold fin
      simp only
      by_cases h3 : rck k m w d 7200 ≠ 0
      · rw [if_pos h3, if_pos h3]; rfl
      · rw [if_neg h3, if_neg h3]
theorem ruleParse (s : List UInt8) (hs : small s) : F_ruleParse s = some (rul s) := by
  obtain ⟨hd, hc⟩ := small_cut 47 hs
  rw [e_ruleParse, cut s 47 hs]
  simp only [Option.bind_some]
  unfold rul dat
  generalize (cutB 47 s).1 = x at *
  generalize (cutB 47 s).2.1 = c at *
  generalize (cutB 47 s).2.2 = b at *
  rw [scNew]
  simp only [Option.bind_some]
  rw [scTake (List.suffix_refl x) hd]
  simp only [Option.bind_some]
  cases hJ : tkB 74 x 0 with
  | true =>
    have hf : F_scFigures (sc x (tk 74 x 0) 0, (), (1 : Int), (3 : Int)) = some (sc x (fgQ 1 3 (tk 74 x 0, 0)).1 (fgQ 1 3 (tk 74 x 0, 0)).2, fgV 1 3 (tk 74 x 0) 0) := scFigures (suf_tk 74 (List.suffix_refl x)) hd 1 3 (by omega) (by omega) (by omega)
    simp only [cond_true, if_true]
    rw [hf]
    simp only [Option.bind_some]
    exact rul_tail (suf_fgQ 1 3 (suf_tk 74 (List.suffix_refl x))) b c hc 1 0 0 (fgV 1 3 (tk 74 x 0) 0)
  | false =>
    simp only [cond_false, Bool.false_eq_true, if_false]
    rw [tk_false hJ, scTake (List.suffix_refl x) hd]
    simp only [Option.bind_some]
    cases hM : tkB 77 x 0 with
    | true =>
      have hw := ruleWeekly (q := (tk 77 x 0, 0)) (suf_tk 77 (List.suffix_refl x)) hd
      simp only [cond_true, if_true]
      rw [hw]
      simp only [Option.bind_some]
      exact rul_tail (suf_fgQ 1 1 (suf_muQ 46 (suf_fgQ 1 1 (suf_muQ 46 (suf_fgQ 1 2 (suf_tk 77 (List.suffix_refl x))))))) b c hc 3 _ _ _
    | false =>
      have hf : F_scFigures (sc x x 0, (), (1 : Int), (3 : Int)) = some (sc x (fgQ 1 3 (x, 0)).1 (fgQ 1 3 (x, 0)).2, fgV 1 3 x 0) := scFigures (List.suffix_refl x) hd 1 3 (by omega) (by omega) (by omega)
      simp only [cond_false, Bool.false_eq_true, if_false]
      rw [tk_false hM, hf]
      simp only [Option.bind_some]
      exact rul_tail (suf_fgQ 1 3 (List.suffix_refl x)) b c hc 2 0 0 (fgV 1 3 x 0)
end Go.Sm
/- Plain Lean: names and checks of plans. -/
set_option linter.unusedVariables false
set_option linter.unusedSimpArgs false
namespace Go.Sm
open Go.Proofs

def letters : List UInt8 := [(65 : UInt8), (66 : UInt8), (67 : UInt8), (68 : UInt8), (69 : UInt8), (70 : UInt8), (71 : UInt8), (72 : UInt8), (73 : UInt8), (74 : UInt8), (75 : UInt8), (76 : UInt8), (77 : UInt8), (78 : UInt8), (79 : UInt8), (80 : UInt8), (81 : UInt8), (82 : UInt8), (83 : UInt8), (84 : UInt8), (85 : UInt8), (86 : UInt8), (87 : UInt8), (88 : UInt8), (89 : UInt8), (90 : UInt8), (97 : UInt8), (98 : UInt8), (99 : UInt8), (100 : UInt8), (101 : UInt8), (102 : UInt8), (103 : UInt8), (104 : UInt8), (105 : UInt8), (106 : UInt8), (107 : UInt8), (108 : UInt8), (109 : UInt8), (110 : UInt8), (111 : UInt8), (112 : UInt8), (113 : UInt8), (114 : UInt8), (115 : UInt8), (116 : UInt8), (117 : UInt8), (118 : UInt8), (119 : UInt8), (120 : UInt8), (121 : UInt8), (122 : UInt8)]
def named : List UInt8 := [(65 : UInt8), (66 : UInt8), (67 : UInt8), (68 : UInt8), (69 : UInt8), (70 : UInt8), (71 : UInt8), (72 : UInt8), (73 : UInt8), (74 : UInt8), (75 : UInt8), (76 : UInt8), (77 : UInt8), (78 : UInt8), (79 : UInt8), (80 : UInt8), (81 : UInt8), (82 : UInt8), (83 : UInt8), (84 : UInt8), (85 : UInt8), (86 : UInt8), (87 : UInt8), (88 : UInt8), (89 : UInt8), (90 : UInt8), (97 : UInt8), (98 : UInt8), (99 : UInt8), (100 : UInt8), (101 : UInt8), (102 : UInt8), (103 : UInt8), (104 : UInt8), (105 : UInt8), (106 : UInt8), (107 : UInt8), (108 : UInt8), (109 : UInt8), (110 : UInt8), (111 : UInt8), (112 : UInt8), (113 : UInt8), (114 : UInt8), (115 : UInt8), (116 : UInt8), (117 : UInt8), (118 : UInt8), (119 : UInt8), (120 : UInt8), (121 : UInt8), (122 : UInt8), (48 : UInt8), (49 : UInt8), (50 : UInt8), (51 : UInt8), (52 : UInt8), (53 : UInt8), (54 : UInt8), (55 : UInt8), (56 : UInt8), (57 : UInt8), (43 : UInt8), (45 : UInt8)]
def clocks : List UInt8 := [(48 : UInt8), (49 : UInt8), (50 : UInt8), (51 : UInt8), (52 : UInt8), (53 : UInt8), (54 : UInt8), (55 : UInt8), (56 : UInt8), (57 : UInt8), (43 : UInt8), (45 : UInt8), (58 : UInt8)]
theorem low_named : low named := by unfold low; decide
theorem low_letters : low letters := by unfold low; decide
/-- Is it a name? -/
def nameB (s : List UInt8) : Bool := decide (3 ≤ s.length ∧ s.length ≤ 16) && s.all fun c => named.contains c
theorem pxName (s : List UInt8) (hs : small s) : F_pxName s = some (nameB s) := by
  have h := pxOf s named hs low_named
  unfold named at h
  rw [e_pxName, h]
  simp only [cond_dec, Option.bind_some]
  unfold nameB
  by_cases h1 : 3 ≤ s.length
  · rw [if_pos (by omega)]
    by_cases h2 : s.length ≤ 16
    · rw [if_pos (by omega), decide_eq_true ⟨h1, h2⟩, Bool.true_and]
      rfl
    · rw [if_neg (by omega), decide_eq_false (by omega), Bool.false_and]
  · rw [if_neg (by omega), decide_eq_false (by omega), Bool.false_and]
end Go.Sm
/- Plain Lean: letters, names (reference). -/
set_option linter.unusedVariables false
set_option linter.unusedSimpArgs false
namespace Go.Sm
open Go.Proofs

theorem byte_all {P : UInt8 → Prop} (h : ∀ n, n < 256 → P (UInt8.ofNat n)) (b : UInt8) : P b := by
  have := h b.toNat b.toNat_lt
  rwa [UInt8.ofNat_toNat] at this
theorem letter_tree : ∀ b : UInt8, (bif decide ((65 : UInt8) ≤ b) then bif decide (b ≤ (90 : UInt8)) then some true else bif decide ((97 : UInt8) ≤ b) then some (decide (b ≤ (122 : UInt8))) else some false
  else bif decide ((97 : UInt8) ≤ b) then some (decide (b ≤ (122 : UInt8))) else some false) = some (letters.contains b) := byte_all (by decide +kernel)
theorem r7letter (b : UInt8) : F_r7letter b = some (letters.contains b) := by rw [e_r7letter, letter_tree]
theorem r7figure (b : UInt8) : F_r7figure b = some (isFig b) := by
  rw [e_r7figure]
  unfold isFig
  cases decide ((48 : UInt8) ≤ b) <;> rfl
theorem named_eq : ∀ b : UInt8, named.contains b = (letters.contains b || (isFig b || (decide (b = 43) || decide (b = 45)))) := byte_all (by decide +kernel)
theorem clocks_eq : ∀ b : UInt8, clocks.contains b = (isFig b || (decide (b = 43) || (decide (b = 45) || decide (b = 58)))) := byte_all (by decide +kernel)
theorem r7Name (s : List UInt8) (hs : small s) : F_r7Name s = some (nameB s) := by
  unfold small at hs
  have step : ∀ i (h : i < s.length), sp_r7Name_0 (s, (i : Int)) = if named.contains s[i] then some (.inl (s, ((i + 1 : Nat) : Int))) else some (.inr (.inl false)) := by
    intro i h
    rw [es_r7Name_0, cond_dec, if_pos (by omega), getI_at h, wrap_succ (by omega)]
    simp only [Option.bind_some]
    rw [r7letter, r7figure, named_eq]
    simp only [Option.bind_some]
    cases letters.contains s[i] with
    | true => rfl
    | false =>
      cases isFig s[i] with
      | true => rfl
      | false =>
        simp only [Bool.not_false, cond_true, Bool.false_or]
        by_cases h1 : s[i] = 43
        · rw [decide_eq_false (by simpa using h1), decide_eq_true h1]; rfl
        · rw [decide_eq_true (by simpa using h1), decide_eq_false h1]
          by_cases h2 : s[i] = 45
          · rw [decide_eq_false (by simpa using h2), decide_eq_true h2]; rfl
          · rw [decide_eq_true (by simpa using h2), decide_eq_false h2]; rfl
  have h := scan_loop (step := sp_r7Name_0) (fun i => (s, (i : Int))) (fun i => if i < s.length then Sum.inl false else Sum.inr s) s (fun c => named.contains c)
    (fun i h hp => by rw [step i h, if_pos hp]) (fun i h hp => by rw [step i h, if_neg (by rw [hp]; simp), if_pos h])
    (by rw [es_r7Name_0, cond_dec, if_neg (by omega), if_neg (by omega)]) 0 (by omega)
  have h : w_r7Name_0 (s, (0 : Int)) = _ := h
  rw [e_r7Name, h]
  simp only [Option.bind_some, Nat.zero_add, List.drop_zero]
  have hle := (List.takeWhile_prefix (p := fun c => named.contains c) (l := s)).length_le
  have hfull := tw_full (fun c => named.contains c) s
  unfold nameB
  by_cases hq : (s.takeWhile fun c => named.contains c).length < s.length
  · rw [if_pos hq]
    have : s.all (fun c => named.contains c) = false := by
      cases hb : s.all (fun c => named.contains c) with
      | false => rfl
      | true => have := hfull.2 hb; omega
    rw [this, Bool.and_false]
    rfl
  · rw [if_neg hq, hfull.1 (by omega), Bool.and_true]
    simp only [Sum.elim_inr]
    rw [cond_dec]
    by_cases h3 : 3 ≤ s.length
    · rw [if_pos (by omega)]
      congr 1
      exact decide_eq_decide.2 (by omega)
    · rw [if_neg (by omega), decide_eq_false (by omega)]
end Go.Sm
/- Plain Lean: the program's reader of plans. -/
set_option linter.unusedVariables false
set_option linter.unusedSimpArgs false
namespace Go.Sm
open Go.Proofs

/-- A failure, if there was none before. -/
def fl (x e : Int) : Int := if e = 0 then x else e
/-- A name: what is left, the error, the name. -/
def nm (r : List UInt8) (e : Int) : List UInt8 × Int × List UInt8 :=
  if tkB 60 r e then
    (if nameB ((rd (tk 60 r e) e).takeWhile (· != 62)) then
      (tk 62 (wl (· != 62) (tk 60 r e) e) e, if tkB 62 (wl (· != 62) (tk 60 r e) e) e then e else fl 2 e, (rd (tk 60 r e) e).takeWhile (· != 62))
    else (wl (· != 62) (tk 60 r e) e, fl 2 e, (rd (tk 60 r e) e).takeWhile (· != 62)))
  else (wl (runP letters) r e, if nameB ((rd r e).takeWhile (runP letters)) then e else fl 2 e, (rd r e).takeWhile (runP letters))
theorem small_tw {s : List UInt8} (p : UInt8 → Bool) (h : small s) : small (s.takeWhile p) := by
  have := (List.takeWhile_prefix (p := p) (l := s)).length_le
  unfold small at *
  omega
theorem rdName {t r : List UInt8} {e : Int} (h : r <:+ t) (ht : small t) : F_rdName (sc t r e, ()) = some (sc t (nm r e).1 (nm r e).2.1, (nm r e).2.2) := by
  have hrun := scRun (e := e) h ht letters
  unfold letters at hrun
  rw [e_rdName, scTake h ht]
  simp only [Option.bind_some]
  unfold nm
  cases hb : tkB 60 r e with
  | false =>
    rw [tk_false hb]
    simp only [Bool.not_false, cond_true, Bool.false_eq_true, if_false]
    rw [hrun]
    simp only [Option.bind_some]
    rw [pxName _ (small_tw _ (small_rd h ht))]
    simp only [Option.bind_some]
    show _ = some (sc t (wl (runP letters) r e) _, _)
    cases hn : nameB ((rd r e).takeWhile (runP letters)) with
    | true =>
      unfold letters at hn
      rw [hn]
      rfl
    | false =>
      unfold letters at hn
      rw [hn]
      simp only [Bool.not_false, cond_true]
      rw [scFail]
      rfl
  | true =>
    have h1 := suf_tk 60 (e := e) h
    simp only [Bool.not_true, cond_false, if_true]
    rw [scUntil h1 ht]
    simp only [Option.bind_some]
    rw [pxName _ (small_tw _ (small_rd h1 ht))]
    simp only [Option.bind_some]
    cases hn : nameB ((rd (tk 60 r e) e).takeWhile (· != 62)) with
    | false =>
      simp only [Bool.not_false, cond_true, Bool.false_eq_true, if_false]
      rw [scFail]
      rfl
    | true =>
      simp only [Bool.not_true, cond_false, if_true]
      rw [scTake (suf_wl _ h1) ht]
      simp only [Option.bind_some]
      cases hq : tkB 62 (wl (· != 62) (tk 60 r e) e) e with
      | true => rfl
      | false =>
        simp only [Bool.not_false, cond_true]
        rw [scFail]
        rfl
theorem clk_range (s : List UInt8) (m : Int) : -4000000 ≤ (clk s m).1 ∧ (clk s m).1 ≤ 4000000 := by
  have hA : 0 ≤ (clkA s).2.2 ∧ (clkA s).2.2 < 1000 := fgV_nn 1 3 _ _ 3 (by omega)
  have hB : 0 ≤ (clkB s).2.2.1 ∧ (clkB s).2.2.1 < 100 := pt_range _ _
  have hC : 0 ≤ (clkC s).2.2.1 ∧ (clkC s).2.2.1 < 100 := by
    unfold clkC
    split
    · exact pt_range _ _
    · exact ⟨by simp, by simp⟩
  unfold clk clkN
  split
  · simp
  · split
    · simp
    · split
      · simp only; omega
      · simp only; omega
/-- An offset: what is left, the error, the offset. -/
def ofs (r : List UInt8) (e : Int) : List UInt8 × Int × Int :=
  (wl (runP clocks) r e, if e ≠ 0 then e else (clk ((rd r e).takeWhile (runP clocks)) 24).2, if e ≠ 0 then 0 else -(clk ((rd r e).takeWhile (runP clocks)) 24).1)
theorem rdOffset {t r : List UInt8} {e : Int} (h : r <:+ t) (ht : small t) : F_rdOffset (sc t r e, ()) = some (sc t (ofs r e).1 (ofs r e).2.1, (ofs r e).2.2) := by
  have hrun := scRun (e := e) h ht clocks
  unfold clocks at hrun
  rw [e_rdOffset, hrun]
  simp only [Option.bind_some]
  rw [scErr]
  simp only [Option.bind_some, cond_dec]
  unfold ofs
  by_cases h0 : e ≠ 0
  · rw [if_pos h0, if_pos h0, if_pos h0]
    rfl
  · rw [if_neg h0, if_neg h0, if_neg h0]
    have h0 : e = 0 := by omega
    subst h0
    have hc := ruleParseClock ((rd r 0).takeWhile (runP clocks)) 24 (small_tw _ (small_rd h ht)) (by omega) (by omega)
    have hr := clk_range ((rd r 0).takeWhile (runP clocks)) 24
    unfold clocks at hc hr ⊢
    rw [hc]
    simp only [Option.bind_some]
    rw [wrap_i64 (by omega) (by omega), Int.zero_sub]
    by_cases h1 : (clk ((rd r 0).takeWhile (runP clocks)) 24).2 ≠ 0
    · unfold clocks at h1
      rw [if_pos h1, scFail]
      rfl
    · unfold clocks at h1
      rw [if_neg h1]
      have h1 := Decidable.not_not.1 h1
      rw [h1]
/-- A comma and a rule: what is left, the error, the rule. -/
def rlE (r : List UInt8) (e : Int) : Int := if tkB 44 r e then e else fl 2 e
def rlS (r : List UInt8) (e : Int) : List UInt8 := (rd (tk 44 r e) (rlE r e)).takeWhile (· != 44)
def rl (r : List UInt8) (e : Int) : List UInt8 × Int × Rul :=
  (wl (· != 44) (tk 44 r e) (rlE r e), if rlE r e ≠ 0 then rlE r e else (rul (rlS r e)).2, if rlE r e ≠ 0 then noRule else (rul (rlS r e)).1)
theorem rl_tail {t r : List UInt8} {e : Int} (h : r <:+ t) (ht : small t) : ((F_scUntil (sc t r e, (), (44 : UInt8))).bind fun x2 =>
        (F_scErr (x2.fst, ())).bind fun x3 =>
          bif decide (x3.snd ≠ (0 : Int)) then some (x3.fst, (0 : Int), (0 : Int), (0 : Int), (0 : Int), (0 : Int))
          else (F_ruleParse x2.snd).bind fun x4 => bif decide (x4.snd ≠ (0 : Int)) then (F_scFail (x3.fst, (), x4.snd)).bind fun x5 => some (x5.fst, x4.fst) else some (x3.fst, x4.fst)) =
      some (sc t (wl (· != 44) r e) (if e ≠ 0 then e else (rul ((rd r e).takeWhile (· != 44))).2), if e ≠ 0 then noRule else (rul ((rd r e).takeWhile (· != 44))).1) := by
  rw [scUntil h ht]
  simp only [Option.bind_some]
  rw [scErr]
  simp only [Option.bind_some, cond_dec]
  by_cases h0 : e ≠ 0
  · rw [if_pos h0, if_pos h0, if_pos h0]
    rfl
  · rw [if_neg h0, if_neg h0, if_neg h0]
    have h0 : e = 0 := by omega
    subst h0
    rw [ruleParse _ (small_tw _ (small_rd h ht))]
    simp only [Option.bind_some]
    by_cases h1 : (rul ((rd r 0).takeWhile (· != 44))).2 ≠ 0
    · rw [if_pos h1, scFail]
      rfl
    · rw [if_neg h1]
      have h1 := Decidable.not_not.1 h1
      rw [h1]
theorem rdRule {t r : List UInt8} {e : Int} (h : r <:+ t) (ht : small t) : F_rdRule (sc t r e, ()) = some (sc t (rl r e).1 (rl r e).2.1, (rl r e).2.2) := by
  rw [e_rdRule, scTake h ht]
  simp only [Option.bind_some]
  unfold rl rlS rlE
  cases hb : tkB 44 r e with
  | true =>
    simp only [Bool.not_true, cond_false, if_true]
    exact rl_tail (suf_tk 44 h) ht
  | false =>
    simp only [Bool.not_false, cond_true, Bool.false_eq_true, if_false]
    rw [scFail]
    simp only [Option.bind_some]
    exact rl_tail (suf_tk 44 h) ht
end Go.Sm
