/- Plain Lean: the summer part of a plan. -/
import Derived.Test.YtllddkbfeienhaaDoorZoneSame2
import Derived.Test.YtllddkbfeienhaaDoorZoneSame1
set_option linter.unusedVariables false
set_option linter.unusedSimpArgs false
namespace Go.Sm
open Go.Proofs

theorem suf_nm {t r : List UInt8} {e : Int} (h : r <:+ t) : (nm r e).1 <:+ t := by
  unfold nm
  split
  · split
    · exact suf_tk _ (suf_wl _ (suf_tk _ h))
    · exact suf_wl _ (suf_tk _ h)
  · exact suf_wl _ h
theorem suf_ofs {t r : List UInt8} {e : Int} (h : r <:+ t) : (ofs r e).1 <:+ t := suf_wl _ h
theorem suf_rl {t r : List UInt8} {e : Int} (h : r <:+ t) : (rl r e).1 <:+ t := suf_wl _ (suf_tk _ h)
/-- The summer's offset, told or not. -/
def ahd (r : List UInt8) (e o : Int) : List UInt8 × Int × Int :=
  match rd r e with
  | [] => (r, e, o + 3600)
  | b :: _ => if b ≠ 44 then ofs r e else (r, e, o + 3600)
theorem suf_ahd {t r : List UInt8} {e o : Int} (h : r <:+ t) : (ahd r e o).1 <:+ t := by
  unfold ahd
  split
  · exact h
  · split
    · exact suf_ofs h
    · exact h
abbrev Pln := List UInt8 × List UInt8 × Int × Int × Rul × Rul
def smA (r : List UInt8) (e o : Int) : List UInt8 × Int × Int := ahd (nm r e).1 (nm r e).2.1 o
def smB (r : List UInt8) (e o : Int) : List UInt8 × Int × Rul := rl (smA r e o).1 (smA r e o).2.1
def smC (r : List UInt8) (e o : Int) : List UInt8 × Int × Rul := rl (smB r e o).1 (smB r e o).2.1
theorem rdSummer {t r : List UInt8} {e : Int} (h : r <:+ t) (ht : small t) (n s : List UInt8) (o a : Int) (b c : Rul) (ho : -4000000 ≤ o ∧ o ≤ 4000000) :
    F_rdSummer (sc t r e, (), (n, s, o, a, b, c)) = some (sc t (smC r e o).1 (smC r e o).2.1, (n, (nm r e).2.2, o, (smA r e o).2.2, (smB r e o).2.2, (smC r e o).2.2)) := by
  have h1 := suf_nm (e := e) h
  have h2 : (smA r e o).1 <:+ t := suf_ahd h1
  have h3 : (smB r e o).1 <:+ t := suf_rl h2
  have hB : F_rdRule (sc t (smA r e o).1 (smA r e o).2.1, ()) = some (sc t (smB r e o).1 (smB r e o).2.1, (smB r e o).2.2) := rdRule h2 ht
  have hC : F_rdRule (sc t (smB r e o).1 (smB r e o).2.1, ()) = some (sc t (smC r e o).1 (smC r e o).2.1, (smC r e o).2.2) := rdRule h3 ht
  rw [e_rdSummer, rdName h ht]
  simp only [Option.bind_some]
  rw [scPeek h1]
  simp only [Option.bind_some]
  rw [wrap_i64 (by omega) (by omega)]
  cases hq : rd (nm r e).1 (nm r e).2.1 with
  | nil =>
    have hA : smA r e o = ((nm r e).1, (nm r e).2.1, o + 3600) := by unfold smA ahd; rw [hq]
    rw [hA] at hB
    simp only [cond_false]
    rw [hB]
    simp only [Option.bind_some]
    rw [hC, hA]
    rfl
  | cons x l =>
    simp only [cond_true, cond_dec]
    by_cases hx : x ≠ 44
    · have hA : smA r e o = ofs (nm r e).1 (nm r e).2.1 := by unfold smA ahd; rw [hq]; simp only; rw [if_pos hx]
      rw [if_pos hx, rdOffset h1 ht]
      simp only [Option.bind_some]
      rw [← hA, hB]
      simp only [Option.bind_some]
      rw [hC]
      rfl
    · have hA : smA r e o = ((nm r e).1, (nm r e).2.1, o + 3600) := by unfold smA ahd; rw [hq]; simp only; rw [if_neg hx]
      rw [hA] at hB
      rw [if_neg hx]
      rw [hB]
      simp only [Option.bind_some]
      rw [hC, hA]
      rfl
end Go.Sm
/- Plain Lean: the check of a plan; plans as the program reads them. -/
set_option linter.unusedVariables false
set_option linter.unusedSimpArgs false
namespace Go.Sm
open Go.Proofs

def shB (o : Int) : Bool := decide (-89999 ≤ o ∧ o ≤ 89999)
theorem pxShifts (o : Int) : F_pxShifts o = some (shB o) := by
  rw [e_pxShifts, cond_dec]
  unfold shB
  by_cases h : -89999 ≤ o
  · rw [if_pos h]; simp [h]
  · rw [if_neg h]; simp [h]
def isNo (b : Rul) : Bool := decide (b.1 = 0) && (decide (b.2.1 = 0) && (decide (b.2.2.1 = 0) && (decide (b.2.2.2.1 = 0) && (decide (b.2.2.2.2 = 0) && true))))
def idleB (a : Int) (b c : Rul) : Bool := decide (a = 0) && (isNo b && isNo c)
theorem pxIdle (p : Pln) : F_pxIdle p = some (idleB p.2.2.2.1 p.2.2.2.2.1 p.2.2.2.2.2) := by
  rw [e_pxIdle]
  unfold idleB
  cases decide (p.2.2.2.1 = 0) with
  | false => rfl
  | true =>
    rw [cond_true, Bool.true_and]
    show (bif isNo p.2.2.2.2.1 then some (isNo p.2.2.2.2.2) else some false) = _
    cases isNo p.2.2.2.2.1 <;> rfl
def rckR (b : Rul) : Int := rck b.1 b.2.1 b.2.2.1 b.2.2.2.1 b.2.2.2.2
theorem ruleCheckR (b : Rul) : F_ruleCheck b = some (rckR b) := ruleCheck _ _ _ _ _
/-- What is wrong with a plan. -/
def pck (p : Pln) : Int :=
  if nameB p.1 = false then 2
  else if p.2.1 ≠ [] then
    (if nameB p.2.1 = false then 2 else if shB p.2.2.1 = false then 1 else if shB p.2.2.2.1 = false then 1 else if rckR p.2.2.2.2.1 ≠ 0 then rckR p.2.2.2.2.1 else rckR p.2.2.2.2.2)
  else if idleB p.2.2.2.1 p.2.2.2.2.1 p.2.2.2.2.2 = false then 2 else if shB p.2.2.1 = false then 1 else if shB p.2.2.2.1 = false then 1 else 0
theorem pxCheck (p : Pln) (h1 : small p.1) (h2 : small p.2.1) : F_pxCheck p = some (pck p) := by
  have hch : F_pxChanges p = some (decide (p.2.1 ≠ [])) := e_pxChanges p
  rw [e_pxCheck, pxName _ h1]
  unfold pck
  simp only [Option.bind_some]
  cases hn : nameB p.1 with
  | false => rfl
  | true =>
    simp only [Bool.not_true, cond_false, Bool.true_eq_false, if_false]
    rw [hch]
    simp only [Option.bind_some]
    by_cases hs : p.2.1 ≠ []
    · rw [if_pos hs, decide_eq_true hs]
      simp only [cond_true, Bool.not_true, cond_false]
      rw [pxName _ h2]
      simp only [Option.bind_some]
      cases hm : nameB p.2.1 with
      | false => rfl
      | true =>
        simp only [Bool.not_true, cond_false, Bool.true_eq_false, if_false]
        rw [pxShifts]
        simp only [Option.bind_some]
        cases shB p.2.2.1 with
        | false => rfl
        | true =>
          simp only [Bool.not_true, cond_false, Bool.true_eq_false, if_false]
          rw [pxShifts]
          simp only [Option.bind_some]
          cases shB p.2.2.2.1 with
          | false => rfl
          | true =>
            simp only [Bool.not_true, cond_false, Bool.true_eq_false, if_false]
            rw [ruleCheckR]
            simp only [Option.bind_some, cond_dec]
            by_cases hr : rckR p.2.2.2.2.1 ≠ 0
            · rw [if_pos hr, if_pos hr]
            · rw [if_neg hr, if_neg hr, ruleCheckR]
              rfl
    · rw [if_neg hs, decide_eq_false hs]
      simp only [cond_false, Bool.not_false, cond_true]
      rw [pxIdle]
      simp only [Option.bind_some]
      cases idleB p.2.2.2.1 p.2.2.2.2.1 p.2.2.2.2.2 with
      | false => rfl
      | true =>
        simp only [Bool.not_true, cond_false, Bool.true_eq_false, if_false]
        rw [pxShifts]
        simp only [Option.bind_some]
        cases shB p.2.2.1 with
        | false => rfl
        | true =>
          simp only [Bool.not_true, cond_false, Bool.true_eq_false, if_false]
          rw [pxShifts]
          simp only [Option.bind_some]
          cases shB p.2.2.2.1 with
          | false => rfl
          | true => rfl
end Go.Sm
/- Plain Lean: right plans (program and reference). -/
set_option linter.unusedVariables false
set_option linter.unusedSimpArgs false
namespace Go.Sm
open Go.Proofs

theorem pck_zero {p : Pln} (h : pck p = 0) : nameB p.1 = true ∧ (-89999 ≤ p.2.2.1 ∧ p.2.2.1 ≤ 89999) ∧ (-89999 ≤ p.2.2.2.1 ∧ p.2.2.2.1 ≤ 89999) ∧
    ((p.2.1 = [] ∧ p.2.2.2.1 = 0 ∧ isNo p.2.2.2.2.1 = true ∧ isNo p.2.2.2.2.2 = true) ∨ (p.2.1 ≠ [] ∧ nameB p.2.1 = true ∧ rckR p.2.2.2.2.1 = 0 ∧ rckR p.2.2.2.2.2 = 0)) := by
  unfold pck at h
  split at h
  · cases h
  · rename_i h1
    have h1 : nameB p.1 = true := by simpa using h1
    split at h
    · rename_i h2
      split at h
      · cases h
      · rename_i h3
        have h3 : nameB p.2.1 = true := by simpa using h3
        split at h
        · cases h
        · rename_i h4
          have h4 : -89999 ≤ p.2.2.1 ∧ p.2.2.1 ≤ 89999 := by simpa [shB] using h4
          split at h
          · cases h
          · rename_i h5
            have h5 : -89999 ≤ p.2.2.2.1 ∧ p.2.2.2.1 ≤ 89999 := by simpa [shB] using h5
            split at h
            · rename_i h6; exact absurd h h6
            · rename_i h6
              exact ⟨h1, h4, h5, .inr ⟨h2, h3, Decidable.not_not.1 h6, h⟩⟩
    · rename_i h2
      have h2 : p.2.1 = [] := by simpa using h2
      split at h
      · cases h
      · rename_i h3
        split at h
        · cases h
        · rename_i h4
          have h4 : -89999 ≤ p.2.2.1 ∧ p.2.2.1 ≤ 89999 := by simpa [shB] using h4
          split at h
          · cases h
          · rename_i h5
            have h5 : -89999 ≤ p.2.2.2.1 ∧ p.2.2.2.1 ≤ 89999 := by simpa [shB] using h5
            have h3 : p.2.2.2.1 = 0 ∧ isNo p.2.2.2.2.1 = true ∧ isNo p.2.2.2.2.2 = true := by
              have : idleB p.2.2.2.1 p.2.2.2.2.1 p.2.2.2.2.2 = true := by simpa using h3
              unfold idleB at this
              simpa using this
            exact ⟨h1, h4, h5, .inl ⟨h2, h3⟩⟩
theorem nameB_len {s : List UInt8} (h : nameB s = true) : s.length ≤ 16 := by
  unfold nameB at h
  rw [Bool.and_eq_true, decide_eq_true_eq] at h
  exact h.1.2
theorem r6CheckR (r : Rul) : F_r6Check r = some (rckR r) := r6Check _ _ _ _ _
theorem shB_tree {α : Type} (o : Int) (x y : α) : (bif decide (o < (-89999 : Int)) then x else bif decide ((89999 : Int) < o) then x else y) = bif shB o then y else x := by
  unfold shB
  by_cases h1 : o < -89999
  · rw [decide_eq_true h1, decide_eq_false (show ¬ (-89999 ≤ o ∧ o ≤ 89999) by omega)]; rfl
  · rw [decide_eq_false h1]
    by_cases h2 : 89999 < o
    · rw [decide_eq_true h2, decide_eq_false (show ¬ (-89999 ≤ o ∧ o ≤ 89999) by omega)]; rfl
    · rw [decide_eq_false h2, decide_eq_true (show -89999 ≤ o ∧ o ≤ 89999 by omega)]; rfl
theorem r7Check (p : Pln) (h1 : small p.1) (h2 : small p.2.1) : F_r7Check p = some (pck p) := by
  rw [e_r7Check, r7Name _ h1]
  simp only [Option.bind_some]
  unfold pck
  cases hn : nameB p.1 with
  | false => rfl
  | true =>
    simp only [Bool.not_true, cond_false, Bool.true_eq_false, if_false]
    rw [cond_dec]
    by_cases hs : p.2.1 ≠ []
    · have hl : 0 < p.2.1.length := List.length_pos_iff.2 hs
      rw [if_neg (by omega), if_pos hs, cond_dec, if_pos (by omega), r7Name _ h2]
      simp only [Option.bind_some]
      cases hm : nameB p.2.1 with
      | false => rfl
      | true =>
        simp only [Bool.not_true, cond_false, Bool.true_eq_false, if_false]
        rw [shB_tree, shB_tree]
        cases shB p.2.2.1 with
        | false => rfl
        | true =>
          simp only [cond_true, Bool.true_eq_false, if_false]
          cases shB p.2.2.2.1 with
          | false => rfl
          | true =>
            simp only [cond_true, Bool.true_eq_false, if_false]
            rw [cond_dec, if_neg (by omega), r6CheckR]
            simp only [Option.bind_some]
            rw [cond_dec]
            by_cases hr : rckR p.2.2.2.2.1 ≠ 0
            · rw [if_pos hr, if_pos hr]
            · rw [if_neg hr, if_neg hr, r6CheckR]
              rfl
    · have hl : p.2.1 = [] := by simpa using hs
      have hl0 : ((p.2.1.length : Nat) : Int) = 0 := by rw [hl]; rfl
      rw [if_pos hl0, if_neg hs, cond_dec]
      unfold idleB
      by_cases ha : p.2.2.2.1 ≠ 0
      · rw [if_pos ha, decide_eq_false ha]
        rfl
      · rw [if_neg ha, decide_eq_true (Decidable.not_not.1 ha), Bool.true_and]
        show (bif !(isNo p.2.2.2.2.1) then some 2 else bif !(isNo p.2.2.2.2.2) then some 2 else _) = _
        cases isNo p.2.2.2.2.1 with
        | false => rfl
        | true =>
          cases isNo p.2.2.2.2.2 with
          | false => rfl
          | true =>
            simp only [Bool.not_true, cond_false, Bool.and_true, Bool.true_eq_false, if_false]
            rw [cond_dec, if_neg (by omega), shB_tree, shB_tree]
            cases shB p.2.2.1 with
            | false => rfl
            | true =>
              simp only [cond_true, Bool.true_eq_false, if_false]
              cases shB p.2.2.2.1 with
              | false => rfl
              | true =>
                simp only [cond_true, Bool.true_eq_false, if_false]
                rw [cond_dec, if_pos hl0]
end Go.Sm
/- Plain Lean: loops by their index. -/
set_option linter.unusedVariables false
set_option linter.unusedSimpArgs false
namespace Go.Sm
open Go.Proofs

theorem wrap_up {i : Nat} (h : i < 9223372036854775807) : IntKind.i64.wrap ((i : Int) + 1) = ((i + 1 : Nat) : Int) := by rw [wrap_i64 (by omega) (by omega)]; simp
/-- A loop that ends early where q is false. -/
theorem scan_ix {σ β : Type} {step : σ → Option (σ ⊕ β)} (st : Nat → σ) (q : Nat → Bool) (a b : β) (i0 n : Nat)
    (h1 : ∀ i, i0 ≤ i → i < n → (∀ j, i0 ≤ j → j < i → q j = true) → step (st i) = if q i then some (.inl (st (i + 1))) else some (.inr a))
    (h3 : step (st n) = some (.inr b)) : ∀ k i, i0 ≤ i → i + k = n → (∀ j, i0 ≤ j → j < i → q j = true) → whileO step (st i) = some (if (List.range' i k).all q then b else a) := by
  intro k
  induction k with
  | zero =>
    intro i _ hi _
    obtain rfl : i = n := by omega
    rw [whileO_eq, h3]
    rfl
  | succ k ih =>
    intro i h0 hi hb
    rw [whileO_eq, List.range'_succ, List.all_cons, h1 i h0 (by omega) hb]
    cases hq : q i with
    | true =>
      simp only [if_true, Option.bind_some, Sum.elim_inl, Bool.true_and]
      refine ih (i + 1) (by omega) (by omega) fun j h1 h2 => ?_
      by_cases hj : j = i
      · rw [hj]; exact hq
      · exact hb j h1 (by omega)
    | false => simp
theorem range_all_iff {q : Nat → Bool} {i k : Nat} : (List.range' i k).all q = true ↔ ∀ j, i ≤ j → j < i + k → q j = true := by
  rw [List.all_eq_true]
  constructor
  · intro h j h1 h2
    exact h j (List.mem_range'_1.2 ⟨h1, h2⟩)
  · intro h j hj
    obtain ⟨h1, h2⟩ := List.mem_range'_1.1 hj
    exact h j h1 h2
/-- Elements one by one: by index, or by the list. -/
theorem range_list {γ : Type} (l : List γ) (p : γ → Bool) (q : Nat → Bool) (h : ∀ i (h : i < l.length), q i = p l[i]) : (List.range' 0 l.length).all q = l.all p := by
  rw [Bool.eq_iff_iff, range_all_iff, List.all_eq_true]
  constructor
  · intro hq x hx
    obtain ⟨i, hi, rfl⟩ := List.getElem_of_mem hx
    rw [← h i hi]
    exact hq i (by omega) (by omega)
  · intro hp i _ hi
    have hi' : i < l.length := by omega
    rw [h i hi']
    exact hp _ (List.getElem_mem hi')
/-- The first one that meets p: its place. -/
def firstAt {γ : Type} (p : γ → Bool) (l : List γ) : Nat := (l.takeWhile fun x => !p x).length
theorem firstAt_le {γ : Type} (p : γ → Bool) (l : List γ) : firstAt p l ≤ l.length := (List.takeWhile_prefix _).length_le
theorem firstAt_lt {γ : Type} (p : γ → Bool) : ∀ (l : List γ), firstAt p l < l.length ↔ l.any p = true
  | [] => by simp [firstAt]
  | x :: r => by
    have ih := firstAt_lt p r
    unfold firstAt at ih ⊢
    rw [List.takeWhile_cons, List.any_cons]
    cases hp : p x with
    | true => simp
    | false => simpa using ih
end Go.Sm
/- Plain Lean: a zone's parts. -/
set_option linter.unusedVariables false
set_option linter.unusedSimpArgs false
namespace Go.Sm
open Go.Proofs

abbrev Typ := Int × Bool × List UInt8
abbrev Cor := Int × Int
abbrev Zon := List Int × List Int × List Typ × List Cor × Bool × Pln
theorem index_loop {σ γ α β : Type} {step : σ → Option (σ ⊕ (α ⊕ β))} (st : Nat → σ) (l : List γ) (p : γ → Bool) (f : Nat → α) (b : β)
    (h : ∀ i (h : i < l.length), step (st i) = if p l[i] then some (.inr (.inl (f i))) else some (.inl (st (i + 1)))) (h3 : step (st l.length) = some (.inr (.inr b))) :
    whileO step (st 0) = some (if firstAt p l < l.length then .inl (f (firstAt p l)) else .inr b) := by
  have := scan_loop (step := step) st (fun i => if i < l.length then (Sum.inl (f i) : α ⊕ β) else .inr b) l (fun x => !p x) (fun i hi hp => by
    rw [h i hi, if_neg (by simpa using hp)]) (fun i hi hp => by
    rw [h i hi, if_pos (by simpa using hp), if_pos hi]) (by rw [h3, if_neg (by omega)]) 0 (by omega)
  rw [this]
  simp only [Nat.zero_add, List.drop_zero]
  rfl
def ixI (k n : Nat) : Int := if k < n then k else -1
theorem ixI_any {γ : Type} (p : γ → Bool) (l : List γ) : decide ((0 : Int) ≤ ixI (firstAt p l) l.length) = l.any p := by
  have h := firstAt_lt p l
  unfold ixI
  cases ha : l.any p with
  | true => rw [ha] at h; rw [if_pos (h.2 rfl)]; simp
  | false => rw [ha] at h; rw [if_neg (by simpa using h)]; rfl
abbrev midL (n : Nat) : Prop := n ≤ 9223372036854775807
def strangeB (n : Nat) (k : Int) : Bool := decide (k < 0) || decide ((n : Int) ≤ k)
def farB (t : Typ) : Bool := decide (t.1 < -89999) || decide (89999 < t.1)
def earlyB (c : Cor) : Bool := decide (c.1 < 0)
theorem zStrange (k : Int) (z : Zon) : F_zStrange (k, z) = some (strangeB z.2.2.1.length k, z) := by
  rw [e_zStrange]
  unfold strangeB
  cases decide (k < 0) <;> rfl
theorem zFar (t : Typ) : F_zFar t = some (farB t) := by
  obtain ⟨o, m, s⟩ := t
  rw [e_zFar]
  unfold farB
  cases decide (o < -89999) <;> rfl
theorem zEarly (c : Cor) : F_zEarly c = some (earlyB c) := by
  obtain ⟨a, t⟩ := c
  exact e_zEarly a t
theorem cnStrange (l : List Int) (z : Zon) (hl : midL l.length) : F_cnStrange (l, z) = some (l.any (strangeB z.2.2.1.length), z) := by
  rw [e_cnStrange, e_ixStrange]
  have := index_loop (step := sp_ixStrange_0) (fun i => (l, z, (l.length : Int), (i : Int))) l (strangeB z.2.2.1.length) (fun i => ((i : Int), z)) z (fun i hi => by
    rw [es_ixStrange_0, cond_dec, if_pos (by omega), getI_at hi]
    simp only [Option.bind_some]
    rw [zStrange]
    simp only [Option.bind_some]
    rw [wrap_up (by omega)]
    cases strangeB z.2.2.1.length l[i] <;> rfl) (by rw [es_ixStrange_0, cond_dec, if_neg (by omega)])
  have hw : w_ixStrange_0 (l, z, (l.length : Int), (0 : Int)) = _ := this
  rw [hw, ← ixI_any]
  unfold ixI
  simp only [Option.bind_some]
  split <;> simp
theorem cnFar (l : List Typ) (hl : midL l.length) : F_cnFar (l, ()) = some (l.any farB) := by
  rw [e_cnFar, e_ixFar]
  have := index_loop (step := sp_ixFar_0) (fun i => (l, (), (l.length : Int), (i : Int))) l farB (fun i => (i : Int)) () (fun i hi => by
    rw [es_ixFar_0, cond_dec, if_pos (by omega), getI_at hi]
    simp only [Option.bind_some]
    rw [zFar]
    simp only [Option.bind_some]
    rw [wrap_up (by omega)]
    cases farB l[i] <;> rfl) (by rw [es_ixFar_0, cond_dec, if_neg (by omega)])
  have hw : w_ixFar_0 (l, (), (l.length : Int), (0 : Int)) = _ := this
  rw [hw, ← ixI_any]
  unfold ixI
  simp only [Option.bind_some]
  split <;> simp
theorem cnEarly (l : List Cor) (hl : midL l.length) : F_cnEarly (l, ()) = some (l.any earlyB) := by
  rw [e_cnEarly, e_ixEarly]
  have := index_loop (step := sp_ixEarly_0) (fun i => (l, (), (l.length : Int), (i : Int))) l earlyB (fun i => (i : Int)) () (fun i hi => by
    rw [es_ixEarly_0, cond_dec, if_pos (by omega), getI_at hi]
    simp only [Option.bind_some]
    rw [zEarly]
    simp only [Option.bind_some]
    rw [wrap_up (by omega)]
    cases earlyB l[i] <;> rfl) (by rw [es_ixEarly_0, cond_dec, if_neg (by omega)])
  have hw : w_ixEarly_0 (l, (), (l.length : Int), (0 : Int)) = _ := this
  rw [hw, ← ixI_any]
  unfold ixI
  simp only [Option.bind_some]
  split <;> simp
def unB (t : Typ) : Bool := !nameB t.2.2
abbrev smT (l : List Typ) : Prop := ∀ t ∈ l, t.2.2.length ≤ 60
theorem smT.at {l : List Typ} (h : smT l) {i : Nat} (hi : i < l.length) : small l[i].2.2 := by
  have := h _ (List.getElem_mem hi)
  unfold small
  omega
theorem cnUnnamed (l : List Typ) (hl : midL l.length) (hs : smT l) : F_cnUnnamed (l, ()) = some (l.any unB) := by
  rw [e_cnUnnamed, e_ixUnnamed]
  have := index_loop (step := sp_ixUnnamed_0) (fun i => (l, (), (l.length : Int), (i : Int))) l unB (fun i => (i : Int)) () (fun i hi => by
    rw [es_ixUnnamed_0, cond_dec, if_pos (by omega), getI_at hi]
    simp only [Option.bind_some]
    have hu : F_zUnnamed l[i] = some (unB l[i]) := by
      have hsm := hs.at hi
      generalize l[i] = t at hsm ⊢
      obtain ⟨o, m, s⟩ := t
      rw [e_zUnnamed, pxName s hsm]
      rfl
    rw [hu]
    simp only [Option.bind_some]
    rw [wrap_up (by omega)]
    cases unB l[i] <;> rfl) (by rw [es_ixUnnamed_0, cond_dec, if_neg (by omega)])
  have hw : w_ixUnnamed_0 (l, (), (l.length : Int), (0 : Int)) = _ := this
  rw [hw, ← ixI_any]
  unfold ixI
  simp only [Option.bind_some]
  split <;> simp
def usualB (t : Typ) : Bool := !t.2.1
theorem ixUsual (l : List Typ) (hl : midL l.length) : F_ixUsual (l, ()) = some (ixI (firstAt usualB l) l.length) := by
  rw [e_ixUsual]
  have := index_loop (step := sp_ixUsual_0) (fun i => (l, (), (l.length : Int), (i : Int))) l usualB (fun i => (i : Int)) () (fun i hi => by
    rw [es_ixUsual_0, cond_dec, if_pos (by omega), getI_at hi]
    simp only [Option.bind_some]
    have hu : F_zUsual l[i] = some (usualB l[i]) := by
      generalize l[i] = t
      obtain ⟨o, m, s⟩ := t
      exact e_zUsual o m s
    rw [hu]
    simp only [Option.bind_some]
    rw [wrap_up (by omega)]
    cases usualB l[i] <;> rfl) (by rw [es_ixUsual_0, cond_dec, if_neg (by omega)])
  have hw : w_ixUsual_0 (l, (), (l.length : Int), (0 : Int)) = _ := this
  rw [hw]
  unfold ixI
  simp only [Option.bind_some]
  split <;> rfl
theorem cnStr (l : List (List UInt8)) (s : List UInt8) (hl : midL l.length) : F_cnStr (l, s) = some (l.any fun x => decide (s = x)) := by
  rw [e_cnStr, e_ixStr]
  have := index_loop (step := sp_ixStr_0) (fun i => (l, s, (l.length : Int), (i : Int))) l (fun x => decide (s = x)) (fun i => (i : Int)) () (fun i hi => by
    rw [es_ixStr_0, cond_dec, if_pos (by omega), getI_at hi]
    simp only [Option.bind_some]
    rw [wrap_up (by omega)]
    cases decide (s = l[i]) <;> rfl) (by rw [es_ixStr_0, cond_dec, if_neg (by omega)])
  have hw : w_ixStr_0 (l, s, (l.length : Int), (0 : Int)) = _ := this
  rw [hw, ← ixI_any]
  unfold ixI
  simp only [Option.bind_some]
  split <;> simp
/-- The names, each once. -/
def addN (o : List (List UInt8)) (t : Typ) : List (List UInt8) := if o.any (fun x => decide (t.2.2 = x)) then o else o ++ [t.2.2]
def namesL (l : List Typ) : List (List UInt8) := l.foldl addN []
theorem addN_len (o : List (List UInt8)) (t : Typ) : (addN o t).length ≤ o.length + 1 := by
  unfold addN
  split <;> simp
theorem room16 {o : List (List UInt8)} {s : List UInt8} (h : o.length ≤ 1000000) : roomB o.length [s].length 16 = true := by
  unfold roomB
  simp only [List.length_singleton, decide_eq_true_eq]
  omega
theorem zNames (z : Zon) (hl : z.2.2.1.length ≤ 1000000) : F_zNames z = some (namesL z.2.2.1) := by
  rw [e_zNames]
  generalize hlq : z.2.2.1 = l at hl
  have := fold_loop (step := sp_zNames_0) (fun i o => (o, l, (l.length : Int), (i : Int))) (fun o => o) l addN (fun i o => o.length ≤ i) (fun i hi o ho => by
    refine ⟨Nat.le_trans (addN_len _ _) (by omega), ?_⟩
    rw [es_zNames_0, cond_dec, if_pos (by omega), getI_at hi]
    simp only [Option.bind_some]
    rw [cnStr _ _ (by unfold midL; omega)]
    simp only [Option.bind_some]
    rw [wrap_up (by omega), room16 (by omega)]
    unfold addN
    cases o.any fun x => decide (l[i].2.2 = x) <;> rfl) (fun o _ => by rw [es_zNames_0, cond_dec, if_neg (by omega)]) 0 [] (by omega) (by simp)
  have hw : w_zNames_0 ([], l, (l.length : Int), (0 : Int)) = _ := this
  rw [hw]
  simp only [Option.bind_some, List.drop_zero]
  rfl
theorem namesL_small {l : List Typ} (hs : smT l) : ∀ s ∈ namesL l, s.length ≤ 60 := by
  have main : ∀ (r : List Typ) (o : List (List UInt8)), (∀ t ∈ r, t.2.2.length ≤ 60) → (∀ s ∈ o, s.length ≤ 60) → ∀ s ∈ r.foldl addN o, s.length ≤ 60 := by
    intro r
    induction r with
    | nil => intro o _ ho; exact ho
    | cons t r ih =>
      intro o hr ho
      rw [List.foldl_cons]
      refine ih _ (fun t' ht' => hr t' (by simp [ht'])) ?_
      unfold addN
      split
      · exact ho
      · intro s hs'
        rcases List.mem_append.1 hs' with h | h
        · exact ho s h
        · simp at h; rw [h]; exact hr t (by simp)
  exact main l [] hs (by simp)
theorem namesL_len (l : List Typ) : (namesL l).length ≤ l.length := by
  have main : ∀ (r : List Typ) (o : List (List UInt8)), (r.foldl addN o).length ≤ o.length + r.length := by
    intro r
    induction r with
    | nil => intro o; simp
    | cons t r ih =>
      intro o
      rw [List.foldl_cons]
      have := ih (addN o t)
      have := addN_len o t
      simp only [List.length_cons]
      omega
  have := main l []
  simpa [namesL] using this
/-- All names' bytes, with one more each. -/
def wideN (n : Int) (s : List UInt8) : Int := n + ((s.length : Int) + 1)
def wideL (l : List (List UInt8)) : Int := l.foldl wideN 0
theorem zWide (z : Zon) (hl : z.2.2.1.length ≤ 1000000) (hs : smT z.2.2.1) : F_zWide z = some (wideL (namesL z.2.2.1)) := by
  rw [e_zWide, zNames z hl]
  simp only [Option.bind_some]
  have hn := namesL_small hs
  have hc := namesL_len z.2.2.1
  generalize namesL z.2.2.1 = l at hn hc ⊢
  have := fold_loop (step := sp_zWide_0) (fun i w => (w, l, (l.length : Int), (i : Int))) (fun w => w) l wideN (fun i w => 0 ≤ w ∧ w ≤ 100 * i) (fun i hi w hw => by
    have h60 := hn _ (List.getElem_mem hi)
    refine ⟨by unfold wideN; omega, ?_⟩
    rw [es_zWide_0, cond_dec, if_pos (by omega), getI_at hi]
    simp only [Option.bind_some]
    rw [wrap_up (i := l[i].length) (by omega), wrap_i64 (by omega) (by omega), wrap_up (by omega)]
    unfold wideN
    rw [Int.natCast_add]
    rfl) (fun w _ => by rw [es_zWide_0, cond_dec, if_neg (by omega)]) 0 0 (by omega) (by simp)
  have hw : w_zWide_0 (0, l, (l.length : Int), (0 : Int)) = _ := this
  rw [hw]
  simp only [Option.bind_some, List.drop_zero]
  rfl
/-- Do all changes rise? -/
def riseQ (l : List Int) (i : Nat) : Bool := !decide (l.getD i 0 ≤ l.getD (i - 1) 0)
def riseB (l : List Int) : Bool := (List.range' 1 (l.length - 1)).all (riseQ l)
theorem getI_prev {α : Type} {l : List α} {i : Nat} (h1 : 1 ≤ i) (h : i < l.length) : getI l (IntKind.i64.wrap ((i : Int) - 1)) = if i ≤ 9223372036854775807 then some l[i - 1] else getI l (IntKind.i64.wrap ((i : Int) - 1)) := by
  split
  · rw [wrap_i64 (by omega) (by omega), show ((i : Int) - 1) = ((i - 1 : Nat) : Int) by omega, getI_at (by omega)]
  · rfl
theorem rise_loop {σ β : Type} {step : σ → Option (σ ⊕ (β ⊕ Zon))} (z : Zon) (st : Nat → σ) (b : β) (hl : midL z.1.length)
    (h : ∀ i : Nat, step (st i) = bif decide ((i : Int) < (z.1.length : Int)) then (getI z.1 (i : Int)).bind fun x1 => (getI z.1 (IntKind.i64.wrap ((i : Int) - (1 : Int)))).bind fun x2 => bif decide (x1 ≤ x2) then some (.inr (.inl b)) else some (.inl (st (i + 1))) else some (.inr (.inr z))) :
    whileO step (st 1) = some (if riseB z.1 then .inr z else .inl b) := by
  have hq : ∀ i, 1 ≤ i → i < z.1.length → step (st i) = if riseQ z.1 i then some (.inl (st (i + 1))) else some (.inr (.inl b)) := by
    intro i h1 hi
    rw [h, cond_dec, if_pos (by omega), getI_at hi, getI_prev h1 hi, if_pos (by omega)]
    simp only [Option.bind_some]
    unfold riseQ
    rw [List.getD_eq_getElem?_getD, List.getD_eq_getElem?_getD, List.getElem?_eq_getElem hi, List.getElem?_eq_getElem (show i - 1 < z.1.length by omega)]
    simp only [Option.getD_some]
    by_cases hle : z.1[i] ≤ z.1[i - 1]
    · simp [hle]
    · simp [hle]
  have h3 : step (st z.1.length) = some (.inr (.inr z)) := by rw [h, cond_dec, if_neg (by omega)]
  by_cases h0 : z.1.length = 0
  · rw [whileO_eq, h, cond_dec, if_neg (by omega)]
    unfold riseB
    rw [h0]
    rfl
  · exact scan_ix (step := step) st (riseQ z.1) (.inl b) (.inr z) 1 z.1.length (fun i h1 hi _ => hq i h1 hi) h3 (z.1.length - 1) 1 (by omega) (by omega) (fun j _ _ => by omega)
end Go.Sm
/- Zones as the document's; long ones. No condition. -/
set_option linter.unusedVariables false
namespace Go.Sm
open Go.Proofs
/-! ### horologe/horologelaw19.Type -/
noncomputable abbrev ct_law19Type : List (FuncId × Bool × SpecT) := []
theorem cs_law19Type : AllSound Tryd.prog ct_law19Type := trivial
noncomputable def F_law19Type (x : ((Int × Bool × List UInt8))) : Option ((Int × Bool × List UInt8)) := (evalF Tryd.prog (lookT ct_law19Type) (keepT []) (loopsT []) false false Tryd.f58 (codP [pTyp]) 1 (codP [pTyp]) x).run
noncomputable abbrev s_law19Type : SpecT := specF (codP [pTyp]) 1 (codP [pTyp]) F_law19Type
theorem so_law19Type : SoundT Tryd.prog 58 s_law19Type := soundG (P := Tryd.prog) mixed (t := ct_law19Type) cs_law19Type (f := 58) (fn := Tryd.f58) Tryd.func58 (by kernel_rfl) (by kernel_rfl) (by kernel_rfl) (ls := []) (by kernel_rfl) (kp := keepT []) (lps := loopsT []) (bump := false) (ice := false) (A := (codP [pTyp])) (n := 1) (R := (codP [pTyp])) fun _ => lps_nil

theorem e_law19Type (o : Int) (m : Bool) (s : List UInt8) : F_law19Type (o, m, s) = (
  some (o, m, s)) := by kernel_rfl

/-! ### horologe/horologelaw19.Document -/
noncomputable abbrev ct_law19Document : List (FuncId × Bool × SpecT) := [(58, false, s_law19Type), (13, false, s_law17Document)]
theorem cs_law19Document : AllSound Tryd.prog ct_law19Document := ⟨so_law19Type, so_law17Document, trivial⟩
-- loop 0 (key 3) exit 0: [1, 2, 3, 19, 20, 21]
-- loop 0 (key 3) exit 3: [1, 2, 3]
-- loop 1 (key 8) exit 0: [2, 3, 34, 35, 36]
-- loop 1 (key 8) exit 5: [2, 3]
abbrev kp_law19Document : Keep := keepT [(3, 0, [(1, none), (2, none), (3, none), (19, none), (20, none), (21, none)]), (3, 3, [(1, none), (2, none), (3, none)]), (8, 0, [(2, none), (3, none), (34, none), (35, none), (36, none)]), (8, 5, [(2, none), (3, none)])]
noncomputable abbrev b_law19Document_0 : Code := loopAt Tryd.f19 0
noncomputable abbrev b_law19Document_1 : Code := loopAt Tryd.f19 1
noncomputable def sp_law19Document_1 (x : (((List Int) × (List Int) × (List (Int × Bool × List UInt8)) × (List (Int × Int)) × (Bool × (List UInt8 × List UInt8 × Int × Int × (Int × Int × Int × Int × Int) × (Int × Int × Int × Int × Int)))) × ((List Int) × (List Int) × (List (Int × Bool × List UInt8)) × (List (Int × Int)) × (Bool × (List UInt8 × List UInt8 × Int × Int × (Int × Int × Int × Int × Int) × (Int × Int × Int × Int × Int)))) × (List (Int × Int)) × Int × Int)) : Option ((((List Int) × (List Int) × (List (Int × Bool × List UInt8)) × (List (Int × Int)) × (Bool × (List UInt8 × List UInt8 × Int × Int × (Int × Int × Int × Int × Int) × (Int × Int × Int × Int × Int)))) × ((List Int) × (List Int) × (List (Int × Bool × List UInt8)) × (List (Int × Int)) × (Bool × (List UInt8 × List UInt8 × Int × Int × (Int × Int × Int × Int × Int) × (Int × Int × Int × Int × Int)))) × (List (Int × Int)) × Int × Int) ⊕ (((List Int) × (List Int) × (List (Int × Bool × List UInt8)) × (List (Int × Int)) × (Bool × (List UInt8 × List UInt8 × Int × Int × (Int × Int × Int × Int × Int) × (Int × Int × Int × Int × Int)))) × ((List Int) × (List Int) × (List (Int × Bool × List UInt8)) × (List (Int × Int)) × (Bool × (List UInt8 × List UInt8 × Int × Int × (Int × Int × Int × Int × Int) × (Int × Int × Int × Int × Int)))))) := (stepL Tryd.prog (lookT ct_law19Document) kp_law19Document (loopsT []) 0 false b_law19Document_1 (codP [(.boxw [.o cI, .o cI, .o cTyp, .o cCor, .p cTail]), (.boxw [.p (.lst cI), .p (.lst cI), .o cTyp, .o cCor, .p cTail]), (.pure (.lst cCor)), pI, pI]) (exO (.ext 2) (codP [(.boxw [.o cI, .o cI, .o cTyp, .o cCor, .p cTail]), (.boxw [.p (.lst cI), .p (.lst cI), .o cTyp, .o cCor, .p cTail])])) x).run
noncomputable def w_law19Document_1 : (((List Int) × (List Int) × (List (Int × Bool × List UInt8)) × (List (Int × Int)) × (Bool × (List UInt8 × List UInt8 × Int × Int × (Int × Int × Int × Int × Int) × (Int × Int × Int × Int × Int)))) × ((List Int) × (List Int) × (List (Int × Bool × List UInt8)) × (List (Int × Int)) × (Bool × (List UInt8 × List UInt8 × Int × Int × (Int × Int × Int × Int × Int) × (Int × Int × Int × Int × Int)))) × (List (Int × Int)) × Int × Int) → Option (((List Int) × (List Int) × (List (Int × Bool × List UInt8)) × (List (Int × Int)) × (Bool × (List UInt8 × List UInt8 × Int × Int × (Int × Int × Int × Int × Int) × (Int × Int × Int × Int × Int)))) × ((List Int) × (List Int) × (List (Int × Bool × List UInt8)) × (List (Int × Int)) × (Bool × (List UInt8 × List UInt8 × Int × Int × (Int × Int × Int × Int × Int) × (Int × Int × Int × Int × Int))))) := whileO sp_law19Document_1
theorem ew_law19Document_1 (x : (((List Int) × (List Int) × (List (Int × Bool × List UInt8)) × (List (Int × Int)) × (Bool × (List UInt8 × List UInt8 × Int × Int × (Int × Int × Int × Int × Int) × (Int × Int × Int × Int × Int)))) × ((List Int) × (List Int) × (List (Int × Bool × List UInt8)) × (List (Int × Int)) × (Bool × (List UInt8 × List UInt8 × Int × Int × (Int × Int × Int × Int × Int) × (Int × Int × Int × Int × Int)))) × (List (Int × Int)) × Int × Int)) : w_law19Document_1 x = (sp_law19Document_1 x).bind (Sum.elim w_law19Document_1 some) := whileO_eq _ _
noncomputable abbrev l_law19Document_1 : LT := ltF (codP [(.boxw [.o cI, .o cI, .o cTyp, .o cCor, .p cTail]), (.boxw [.p (.lst cI), .p (.lst cI), .o cTyp, .o cCor, .p cTail]), (.pure (.lst cCor)), pI, pI]) (exO (.ext 2) (codP [(.boxw [.o cI, .o cI, .o cTyp, .o cCor, .p cTail]), (.boxw [.p (.lst cI), .p (.lst cI), .o cTyp, .o cCor, .p cTail])])) w_law19Document_1
theorem lo_law19Document_1 : LoopOk Tryd.prog Tryd.f19.ntmps kp_law19Document 0 false b_law19Document_1 l_law19Document_1 := loopG mixed cs_law19Document (lps := loopsT []) (by kernel_rfl) (ls := []) (by kernel_rfl) lps_nil
noncomputable def sp_law19Document_0 (x : ((List Int × List Int × List (Int × Bool × List UInt8) × List (Int × Int) × Bool × (List UInt8 × List UInt8 × Int × Int × (Int × Int × Int × Int × Int) × (Int × Int × Int × Int × Int))) × ((List Int) × (List Int) × (List (Int × Bool × List UInt8)) × (List (Int × Int)) × (Bool × (List UInt8 × List UInt8 × Int × Int × (Int × Int × Int × Int × Int) × (Int × Int × Int × Int × Int)))) × ((List Int) × (List Int) × (List (Int × Bool × List UInt8)) × (List (Int × Int)) × (Bool × (List UInt8 × List UInt8 × Int × Int × (Int × Int × Int × Int × Int) × (Int × Int × Int × Int × Int)))) × (List (Int × Bool × List UInt8)) × Int × Int)) : Option (((List Int × List Int × List (Int × Bool × List UInt8) × List (Int × Int) × Bool × (List UInt8 × List UInt8 × Int × Int × (Int × Int × Int × Int × Int) × (Int × Int × Int × Int × Int))) × ((List Int) × (List Int) × (List (Int × Bool × List UInt8)) × (List (Int × Int)) × (Bool × (List UInt8 × List UInt8 × Int × Int × (Int × Int × Int × Int × Int) × (Int × Int × Int × Int × Int)))) × ((List Int) × (List Int) × (List (Int × Bool × List UInt8)) × (List (Int × Int)) × (Bool × (List UInt8 × List UInt8 × Int × Int × (Int × Int × Int × Int × Int) × (Int × Int × Int × Int × Int)))) × (List (Int × Bool × List UInt8)) × Int × Int) ⊕ ((List Int × List Int × List (Int × Bool × List UInt8) × List (Int × Int) × Bool × (List UInt8 × List UInt8 × Int × Int × (Int × Int × Int × Int × Int) × (Int × Int × Int × Int × Int))) × ((List Int) × (List Int) × (List (Int × Bool × List UInt8)) × (List (Int × Int)) × (Bool × (List UInt8 × List UInt8 × Int × Int × (Int × Int × Int × Int × Int) × (Int × Int × Int × Int × Int)))) × ((List Int) × (List Int) × (List (Int × Bool × List UInt8)) × (List (Int × Int)) × (Bool × (List UInt8 × List UInt8 × Int × Int × (Int × Int × Int × Int × Int) × (Int × Int × Int × Int × Int)))))) := (stepL Tryd.prog (lookT ct_law19Document) kp_law19Document (loopsT []) 0 false b_law19Document_0 (codP [(.boxw [.p cZone]), (.boxw [.o cI, .o cI, .o cTyp, .o cCor, .p cTail]), (.boxw [.p (.lst cI), .p (.lst cI), .o cTyp, .o cCor, .p cTail]), (.pure (.lst cTyp)), pI, pI]) (exO (.ext 0) (codP [(.boxw [.p cZone]), (.boxw [.o cI, .o cI, .o cTyp, .o cCor, .p cTail]), (.boxw [.p (.lst cI), .p (.lst cI), .o cTyp, .o cCor, .p cTail])])) x).run
noncomputable def w_law19Document_0 : ((List Int × List Int × List (Int × Bool × List UInt8) × List (Int × Int) × Bool × (List UInt8 × List UInt8 × Int × Int × (Int × Int × Int × Int × Int) × (Int × Int × Int × Int × Int))) × ((List Int) × (List Int) × (List (Int × Bool × List UInt8)) × (List (Int × Int)) × (Bool × (List UInt8 × List UInt8 × Int × Int × (Int × Int × Int × Int × Int) × (Int × Int × Int × Int × Int)))) × ((List Int) × (List Int) × (List (Int × Bool × List UInt8)) × (List (Int × Int)) × (Bool × (List UInt8 × List UInt8 × Int × Int × (Int × Int × Int × Int × Int) × (Int × Int × Int × Int × Int)))) × (List (Int × Bool × List UInt8)) × Int × Int) → Option ((List Int × List Int × List (Int × Bool × List UInt8) × List (Int × Int) × Bool × (List UInt8 × List UInt8 × Int × Int × (Int × Int × Int × Int × Int) × (Int × Int × Int × Int × Int))) × ((List Int) × (List Int) × (List (Int × Bool × List UInt8)) × (List (Int × Int)) × (Bool × (List UInt8 × List UInt8 × Int × Int × (Int × Int × Int × Int × Int) × (Int × Int × Int × Int × Int)))) × ((List Int) × (List Int) × (List (Int × Bool × List UInt8)) × (List (Int × Int)) × (Bool × (List UInt8 × List UInt8 × Int × Int × (Int × Int × Int × Int × Int) × (Int × Int × Int × Int × Int))))) := whileO sp_law19Document_0
theorem ew_law19Document_0 (x : ((List Int × List Int × List (Int × Bool × List UInt8) × List (Int × Int) × Bool × (List UInt8 × List UInt8 × Int × Int × (Int × Int × Int × Int × Int) × (Int × Int × Int × Int × Int))) × ((List Int) × (List Int) × (List (Int × Bool × List UInt8)) × (List (Int × Int)) × (Bool × (List UInt8 × List UInt8 × Int × Int × (Int × Int × Int × Int × Int) × (Int × Int × Int × Int × Int)))) × ((List Int) × (List Int) × (List (Int × Bool × List UInt8)) × (List (Int × Int)) × (Bool × (List UInt8 × List UInt8 × Int × Int × (Int × Int × Int × Int × Int) × (Int × Int × Int × Int × Int)))) × (List (Int × Bool × List UInt8)) × Int × Int)) : w_law19Document_0 x = (sp_law19Document_0 x).bind (Sum.elim w_law19Document_0 some) := whileO_eq _ _
noncomputable abbrev l_law19Document_0 : LT := ltF (codP [(.boxw [.p cZone]), (.boxw [.o cI, .o cI, .o cTyp, .o cCor, .p cTail]), (.boxw [.p (.lst cI), .p (.lst cI), .o cTyp, .o cCor, .p cTail]), (.pure (.lst cTyp)), pI, pI]) (exO (.ext 0) (codP [(.boxw [.p cZone]), (.boxw [.o cI, .o cI, .o cTyp, .o cCor, .p cTail]), (.boxw [.p (.lst cI), .p (.lst cI), .o cTyp, .o cCor, .p cTail])])) w_law19Document_0
theorem lo_law19Document_0 : LoopOk Tryd.prog Tryd.f19.ntmps kp_law19Document 0 false b_law19Document_0 l_law19Document_0 := loopG mixed cs_law19Document (lps := loopsT []) (by kernel_rfl) (ls := []) (by kernel_rfl) lps_nil
noncomputable def F_law19Document (x : ((List Int × List Int × List (Int × Bool × List UInt8) × List (Int × Int) × Bool × (List UInt8 × List UInt8 × Int × Int × (Int × Int × Int × Int × Int) × (Int × Int × Int × Int × Int))))) : Option ((List Int × List Int × List (Int × Bool × List UInt8) × List (Int × Int) × Bool × (List UInt8 × List UInt8 × Int × Int × (Int × Int × Int × Int × Int) × (Int × Int × Int × Int × Int)))) := (evalF Tryd.prog (lookT ct_law19Document) (kp_law19Document) (loopsT [(3, l_law19Document_0), (8, l_law19Document_1)]) false true Tryd.f19 (codP [pZone]) 1 (codP [pZone]) x).run
noncomputable abbrev s_law19Document : SpecT := specF (codP [pZone]) 1 (codP [pZone]) F_law19Document
theorem so_law19Document : SoundT Tryd.prog 19 s_law19Document := soundG (P := Tryd.prog) mixed (t := ct_law19Document) cs_law19Document (f := 19) (fn := Tryd.f19) Tryd.func19 (by kernel_rfl) (by kernel_rfl) (by kernel_rfl) (ls := [b_law19Document_0, b_law19Document_1]) (by kernel_rfl) (kp := kp_law19Document) (lps := loopsT [(3, l_law19Document_0), (8, l_law19Document_1)]) (bump := false) (ice := true) (A := (codP [pZone])) (n := 1) (R := (codP [pZone])) fun _ => (lps_cons l_law19Document_0 (by kernel_rfl) lo_law19Document_0 (lps_cons l_law19Document_1 (by kernel_rfl) lo_law19Document_1 lps_nil))

theorem es_law19Document_0 (z : List Int × List Int × List (Int × Bool × List UInt8) × List (Int × Int) × Bool × (List UInt8 × List UInt8 × Int × Int × (Int × Int × Int × Int × Int) × (Int × Int × Int × Int × Int))) (a : List Int) (b : List Int) (c : List (Int × Bool × List UInt8)) (d : List (Int × Int)) (q : Bool × List UInt8 × List UInt8 × Int × Int × (Int × Int × Int × Int × Int) × (Int × Int × Int × Int × Int)) (x : List Int) (y : List Int) (u : List (Int × Bool × List UInt8)) (v : List (Int × Int)) (q1 : Bool × List UInt8 × List UInt8 × Int × Int × (Int × Int × Int × Int × Int) × (Int × Int × Int × Int × Int)) (l : List (Int × Bool × List UInt8)) (n i : Int) : sp_law19Document_0 (z, (a, b, c, d, q), (x, y, u, v, q1), l, n, i) = (
  bif decide (i < n) then
    (getI l i).bind fun x1 =>
      (F_law19Type x1).bind fun x2 =>
        bif roomB u.length [(x2.fst, x2.snd.fst, x2.snd.snd)].length (32 : Nat) then
          some (Sum.inl (z, (a, b, c, d, q), (x, y, u ++ [(x2.fst, x2.snd.fst, x2.snd.snd)], v, q1), l, n, IntKind.i64.wrap (i + (1 : Int))))
        else none
  else some (Sum.inr (z, (a, b, c, d, q), x, y, u, v, q1))) := by kernel_rfl

theorem es_law19Document_1 (a : List Int) (b : List Int) (c : List (Int × Bool × List UInt8)) (d : List (Int × Int)) (q : Bool × List UInt8 × List UInt8 × Int × Int × (Int × Int × Int × Int × Int) × (Int × Int × Int × Int × Int)) (x : List Int) (y : List Int) (u : List (Int × Bool × List UInt8)) (v : List (Int × Int)) (q1 : Bool × List UInt8 × List UInt8 × Int × Int × (Int × Int × Int × Int × Int) × (Int × Int × Int × Int × Int)) (l : List (Int × Int)) (n i : Int) : sp_law19Document_1 ((a, b, c, d, q), (x, y, u, v, q1), l, n, i) = (
  bif decide (i < n) then
    (getI l i).bind fun x1 =>
      bif roomB v.length [(x1.fst, x1.snd)].length (16 : Nat) then some (Sum.inl ((a, b, c, d, q), (x, y, u, v ++ [(x1.fst, x1.snd)], q1), l, n, IntKind.i64.wrap (i + (1 : Int)))) else none
  else some (Sum.inr ((a, b, c, d, q), x, y, u, v, q1))) := by kernel_rfl

theorem e_law19Document (z : List Int × List Int × List (Int × Bool × List UInt8) × List (Int × Int) × Bool × (List UInt8 × List UInt8 × Int × Int × (Int × Int × Int × Int × Int) × (Int × Int × Int × Int × Int))) : F_law19Document z = (
  (F_law17Document z.snd.snd.snd.snd.snd).bind fun x1 =>
    (w_law19Document_0
          (z, ([], [], [], [], false, [], [], (0 : Int), (0 : Int), ((0 : Int), (0 : Int), (0 : Int), (0 : Int), (0 : Int)), (0 : Int), (0 : Int), (0 : Int), (0 : Int), (0 : Int)),
            (z.fst, z.snd.fst, [], [], z.snd.snd.snd.snd.fst, x1), z.snd.snd.fst, (↑(List.length z.snd.snd.fst) : Int), (0 : Int))).bind
      fun x2 => (w_law19Document_1 (x2.snd.fst, x2.snd.snd, x2.fst.snd.snd.snd.fst, (↑(List.length x2.fst.snd.snd.snd.fst) : Int), (0 : Int))).bind fun x3 => some x3.snd) := by kernel_rfl


/-! ### horologe/horologelaw19.Long -/
noncomputable abbrev ct_law19Long : List (FuncId × Bool × SpecT) := [(27, false, s_law17LongA)]
theorem cs_law19Long : AllSound Tryd.prog ct_law19Long := ⟨so_law17LongA, trivial⟩
-- loop 0 (key 2) exit 0: [1, 6, 7, 8]
-- loop 0 (key 2) exit 2: [2]
-- loop 0 (key 2) exit 3: [1]
abbrev kp_law19Long : Keep := keepT [(2, 0, [(1, none), (6, none), (7, none), (8, none)]), (2, 2, [(2, none)]), (2, 3, [(1, none)])]
noncomputable abbrev b_law19Long_0 : Code := loopAt Tryd.f16 0
noncomputable def sp_law19Long_0 (x : ((List Int × List Int × List (Int × Bool × List UInt8) × List (Int × Int) × Bool × (List UInt8 × List UInt8 × Int × Int × (Int × Int × Int × Int × Int) × (Int × Int × Int × Int × Int))) × (List (Int × Bool × List UInt8)) × Int × Int)) : Option (((List Int × List Int × List (Int × Bool × List UInt8) × List (Int × Int) × Bool × (List UInt8 × List UInt8 × Int × Int × (Int × Int × Int × Int × Int) × (Int × Int × Int × Int × Int))) × (List (Int × Bool × List UInt8)) × Int × Int) ⊕ ((Bool) ⊕ ((List Int × List Int × List (Int × Bool × List UInt8) × List (Int × Int) × Bool × (List UInt8 × List UInt8 × Int × Int × (Int × Int × Int × Int × Int) × (Int × Int × Int × Int × Int)))))) := (stepL Tryd.prog (lookT ct_law19Long) kp_law19Long (loopsT []) 0 false b_law19Long_0 (codP [(.boxw [.p cZone]), (.pure (.lst cTyp)), pI, pI]) (exS (exO .ret (codP [pB])) (exO (.ext 0) (codP [(.boxw [.p cZone])]))) x).run
noncomputable def w_law19Long_0 : ((List Int × List Int × List (Int × Bool × List UInt8) × List (Int × Int) × Bool × (List UInt8 × List UInt8 × Int × Int × (Int × Int × Int × Int × Int) × (Int × Int × Int × Int × Int))) × (List (Int × Bool × List UInt8)) × Int × Int) → Option ((Bool) ⊕ ((List Int × List Int × List (Int × Bool × List UInt8) × List (Int × Int) × Bool × (List UInt8 × List UInt8 × Int × Int × (Int × Int × Int × Int × Int) × (Int × Int × Int × Int × Int))))) := whileO sp_law19Long_0
theorem ew_law19Long_0 (x : ((List Int × List Int × List (Int × Bool × List UInt8) × List (Int × Int) × Bool × (List UInt8 × List UInt8 × Int × Int × (Int × Int × Int × Int × Int) × (Int × Int × Int × Int × Int))) × (List (Int × Bool × List UInt8)) × Int × Int)) : w_law19Long_0 x = (sp_law19Long_0 x).bind (Sum.elim w_law19Long_0 some) := whileO_eq _ _
noncomputable abbrev l_law19Long_0 : LT := ltF (codP [(.boxw [.p cZone]), (.pure (.lst cTyp)), pI, pI]) (exS (exO .ret (codP [pB])) (exO (.ext 0) (codP [(.boxw [.p cZone])]))) w_law19Long_0
theorem lo_law19Long_0 : LoopOk Tryd.prog Tryd.f16.ntmps kp_law19Long 0 false b_law19Long_0 l_law19Long_0 := loopG mixed cs_law19Long (lps := loopsT []) (by kernel_rfl) (ls := []) (by kernel_rfl) lps_nil
noncomputable def F_law19Long (x : ((List Int × List Int × List (Int × Bool × List UInt8) × List (Int × Int) × Bool × (List UInt8 × List UInt8 × Int × Int × (Int × Int × Int × Int × Int) × (Int × Int × Int × Int × Int))))) : Option (Bool) := (evalF Tryd.prog (lookT ct_law19Long) (kp_law19Long) (loopsT [(2, l_law19Long_0)]) false false Tryd.f16 (codP [pZone]) 1 (codP [pB]) x).run
noncomputable abbrev s_law19Long : SpecT := specF (codP [pZone]) 1 (codP [pB]) F_law19Long
theorem so_law19Long : SoundT Tryd.prog 16 s_law19Long := soundG (P := Tryd.prog) mixed (t := ct_law19Long) cs_law19Long (f := 16) (fn := Tryd.f16) Tryd.func16 (by kernel_rfl) (by kernel_rfl) (by kernel_rfl) (ls := [b_law19Long_0]) (by kernel_rfl) (kp := kp_law19Long) (lps := loopsT [(2, l_law19Long_0)]) (bump := false) (ice := false) (A := (codP [pZone])) (n := 1) (R := (codP [pB])) fun _ => (lps_cons l_law19Long_0 (by kernel_rfl) lo_law19Long_0 lps_nil)

theorem es_law19Long_0 (z : List Int × List Int × List (Int × Bool × List UInt8) × List (Int × Int) × Bool × (List UInt8 × List UInt8 × Int × Int × (Int × Int × Int × Int × Int) × (Int × Int × Int × Int × Int))) (l : List (Int × Bool × List UInt8)) (n i : Int) : sp_law19Long_0 (z, l, n, i) = (
  bif decide (i < n) then
    (getI l i).bind fun x1 => bif decide ((60 : Int) < (↑(List.length x1.snd.snd) : Int)) then some (Sum.inr (Sum.inl true)) else some (Sum.inl (z, l, n, IntKind.i64.wrap (i + (1 : Int))))
  else some (Sum.inr (Sum.inr z))) := by kernel_rfl

theorem e_law19Long (z : List Int × List Int × List (Int × Bool × List UInt8) × List (Int × Int) × Bool × (List UInt8 × List UInt8 × Int × Int × (Int × Int × Int × Int × Int) × (Int × Int × Int × Int × Int))) : F_law19Long z = (
  (w_law19Long_0 (z, z.snd.snd.fst, (↑(List.length z.snd.snd.fst) : Int), (0 : Int))).bind fun x1 =>
    Sum.elim (fun x2 => some x2)
      (fun x2 =>
        bif decide ((60 : Int) < (↑(List.length x2.fst) : Int)) then
          bif decide ((↑(List.length x2.fst) : Int) ≤ (2000 : Int)) then some true
          else
            bif decide ((2010 : Int) < (↑(List.length x2.fst) : Int)) then some true
            else
              bif decide ((40 : Int) < (↑(List.length x2.snd.snd.fst) : Int)) then
                bif decide ((↑(List.length x2.snd.snd.fst) : Int) ≤ (256 : Int)) then some true
                else
                  bif decide ((270 : Int) < (↑(List.length x2.snd.snd.fst) : Int)) then some true
                  else
                    bif decide ((110 : Int) < (↑(List.length x2.snd.snd.snd.fst) : Int)) then some true
                    else bif decide ((2010 : Int) < (↑(List.length x2.snd.fst) : Int)) then some true else (F_law17LongA x2.snd.snd.snd.snd.snd).bind fun x3 => some x3
              else
                bif decide ((270 : Int) < (↑(List.length x2.snd.snd.fst) : Int)) then some true
                else
                  bif decide ((110 : Int) < (↑(List.length x2.snd.snd.snd.fst) : Int)) then some true
                  else bif decide ((2010 : Int) < (↑(List.length x2.snd.fst) : Int)) then some true else (F_law17LongA x2.snd.snd.snd.snd.snd).bind fun x3 => some x3
        else
          bif decide ((2010 : Int) < (↑(List.length x2.fst) : Int)) then some true
          else
            bif decide ((40 : Int) < (↑(List.length x2.snd.snd.fst) : Int)) then
              bif decide ((↑(List.length x2.snd.snd.fst) : Int) ≤ (256 : Int)) then some true
              else
                bif decide ((270 : Int) < (↑(List.length x2.snd.snd.fst) : Int)) then some true
                else
                  bif decide ((110 : Int) < (↑(List.length x2.snd.snd.snd.fst) : Int)) then some true
                  else bif decide ((2010 : Int) < (↑(List.length x2.snd.fst) : Int)) then some true else (F_law17LongA x2.snd.snd.snd.snd.snd).bind fun x3 => some x3
            else
              bif decide ((270 : Int) < (↑(List.length x2.snd.snd.fst) : Int)) then some true
              else
                bif decide ((110 : Int) < (↑(List.length x2.snd.snd.snd.fst) : Int)) then some true
                else bif decide ((2010 : Int) < (↑(List.length x2.snd.fst) : Int)) then some true else (F_law17LongA x2.snd.snd.snd.snd.snd).bind fun x3 => some x3)
      x1) := by kernel_rfl


end Go.Sm
/- Plain Lean: years, months and days as whole numbers. No condition. -/
set_option linter.unusedVariables false
set_option linter.unusedSimpArgs false
namespace Go.Sm

abbrev leap (y : Int) : Prop := y % 4 = 0 ∧ (y % 100 ≠ 0 ∨ y % 400 = 0)
/-- The number of a year's first day. -/
def yS (y : Int) : Int := 365 * (y - 1970) + (y - 1) / 4 - (y - 1) / 100 + (y - 1) / 400 - 477
/-- Days of a year's months ahead of a month (1 to 13). -/
def mC (y m : Int) : Int := if m ≤ 2 then 31 * (m - 1) else (153 * (m - 3) + 2) / 5 + 59 + (if leap y then 1 else 0)
def yL (y : Int) : Int := if leap y then 366 else 365
theorem yS_succ (y : Int) : yS (y + 1) = yS y + yL y := by
  unfold yS yL
  by_cases h : leap y
  · rw [if_pos h]; unfold leap at h; omega
  · rw [if_neg h]; unfold leap at h; omega
theorem yS_400 (y : Int) : yS (y + 400) = yS y + 146097 := by unfold yS; omega
theorem yS_400n (y : Int) : yS (y - 400) = yS y - 146097 := by unfold yS; omega
theorem yS_1970 : yS 1970 = 0 := by decide
theorem yL_400 (y : Int) : yL (y + 400) = yL y := by
  unfold yL
  have : leap (y + 400) ↔ leap y := by unfold leap; omega
  simp only [this]
theorem yL_le (y : Int) : 365 ≤ yL y ∧ yL y ≤ 366 := by unfold yL; split <;> omega
theorem yS_mono {x y : Int} (h : x ≤ y) : yS x + 365 * (y - x) ≤ yS y ∧ yS y ≤ yS x + 366 * (y - x) := by
  obtain ⟨k, rfl⟩ : ∃ k : Nat, y = x + k := ⟨(y - x).toNat, by omega⟩
  clear h
  induction k with
  | zero => simp
  | succ k ih =>
    have h1 := yS_succ (x + k)
    have h2 := yL_le (x + k)
    rw [show x + ((k + 1 : Nat) : Int) = x + k + 1 by omega, h1]
    omega
/-- A day's year. -/
theorem yS_uniq {x y n : Int} (h1 : yS x ≤ n) (h2 : n < yS (x + 1)) (h3 : yS y ≤ n) (h4 : n < yS (y + 1)) : x = y := by
  rcases Int.lt_trichotomy x y with h | h | h
  · have := (yS_mono (x := x + 1) (y := y) (by omega)).1
    omega
  · exact h
  · have := (yS_mono (x := y + 1) (y := x) (by omega)).1
    omega
theorem mC_13 (y : Int) : mC y 13 = yL y := by
  unfold mC yL
  rw [if_neg (by omega)]
  split <;> omega
theorem mC_1 (y : Int) : mC y 1 = 0 := by
  unfold mC
  rw [if_pos (by omega)]
  omega
/-- Days of a month. -/
def mL (y m : Int) : Int := if m = 2 then (if leap y then 29 else 28) else 30 + (m + m / 8) % 2
theorem mC_succ (y m : Int) (h1 : 1 ≤ m) (h2 : m ≤ 12) : mC y (m + 1) = mC y m + mL y m := by
  unfold mC mL
  by_cases hl : leap y
  · rw [if_pos hl, if_pos hl]
    rcases (by omega : m = 1 ∨ m = 2 ∨ m = 3 ∨ m = 4 ∨ m = 5 ∨ m = 6 ∨ m = 7 ∨ m = 8 ∨ m = 9 ∨ m = 10 ∨ m = 11 ∨ m = 12) with rfl | rfl | rfl | rfl | rfl | rfl | rfl | rfl | rfl | rfl | rfl | rfl <;> decide
  · rw [if_neg hl, if_neg hl]
    rcases (by omega : m = 1 ∨ m = 2 ∨ m = 3 ∨ m = 4 ∨ m = 5 ∨ m = 6 ∨ m = 7 ∨ m = 8 ∨ m = 9 ∨ m = 10 ∨ m = 11 ∨ m = 12) with rfl | rfl | rfl | rfl | rfl | rfl | rfl | rfl | rfl | rfl | rfl | rfl <;> decide
theorem mL_le (y m : Int) : 28 ≤ mL y m ∧ mL y m ≤ 31 := by
  unfold mL
  split
  · split <;> omega
  · omega
/-- The year of a day, counted from 1 March of a year that 400 divides. -/
theorem civil (f o : Int) (h0 : 0 ≤ f) (h1 : f ≤ 146096) (ho : o = (f - f / 1460 + f / 36524 - f / 146096) / 365) :
    0 ≤ o ∧ o ≤ 399 ∧ 365 * o + o / 4 - o / 100 ≤ f ∧ f < 365 * (o + 1) + (o + 1) / 4 - (o + 1) / 100 + (o + 1) / 400 := by
  by_cases he : f = 146096
  · subst he
    have : o = 399 := by omega
    subst this
    decide
  · have e0 : f / 146096 = 0 := by omega
    rw [e0] at ho
    obtain ⟨c, hc⟩ : ∃ c, c = f / 36524 := ⟨_, rfl⟩
    obtain ⟨d, hd⟩ : ∃ d, d = f / 1460 := ⟨_, rfl⟩
    rw [← hc, ← hd] at ho
    have hc4 : c = 0 ∨ c = 1 ∨ c = 2 ∨ c = 3 := by omega
    have hdc : 0 ≤ d - c := by omega
    have hlo : 100 * c ≤ o := by rcases hc4 with h | h | h | h <;> subst h <;> omega
    have hhi : o < 100 * (c + 1) := by rcases hc4 with h | h | h | h <;> subst h <;> omega
    have ho4 : o / 4 ≤ d := by omega
    have ho1 : o / 100 = c := by omega
    have hu4 : d ≤ (o + 1) / 4 := by omega
    refine ⟨by omega, by omega, by omega, ?_⟩
    by_cases hl : o + 1 = 100 * (c + 1)
    · have : (o + 1) / 100 = c + 1 := by omega
      have : (o + 1) / 4 = 25 * (c + 1) := by omega
      have : 0 ≤ (o + 1) / 400 := by omega
      omega
    · have : (o + 1) / 100 = c := by omega
      have : 0 ≤ (o + 1) / 400 := by omega
      omega
end Go.Sm
/- Plain Lean: wrapped sums; the program's days. -/
set_option linter.unusedVariables false
set_option linter.unusedSimpArgs false
namespace Go.Sm
open Go.Proofs

/-! ### Wrapped sums -/
theorem wrap_ex (a : Int) : ∃ q : Int, IntKind.i64.wrap a = a + 18446744073709551616 * q := by
  refine ⟨-((a + 9223372036854775808) / 18446744073709551616), ?_⟩
  simp [IntKind.wrap, IntKind.bits, IntKind.signed]
  omega
theorem wrap_shift (a q : Int) : IntKind.i64.wrap (a + 18446744073709551616 * q) = IntKind.i64.wrap a := by
  simp [IntKind.wrap, IntKind.bits, IntKind.signed]
theorem wrap_add_l (a b : Int) : IntKind.i64.wrap (IntKind.i64.wrap a + b) = IntKind.i64.wrap (a + b) := by
  obtain ⟨q, hq⟩ := wrap_ex a
  rw [hq, show a + 18446744073709551616 * q + b = (a + b) + 18446744073709551616 * q by omega, wrap_shift]
theorem wrap_add_r (a b : Int) : IntKind.i64.wrap (a + IntKind.i64.wrap b) = IntKind.i64.wrap (a + b) := by
  obtain ⟨q, hq⟩ := wrap_ex b
  rw [hq, show a + (b + 18446744073709551616 * q) = (a + b) + 18446744073709551616 * q by omega, wrap_shift]
theorem wrap_sub_l (a b : Int) : IntKind.i64.wrap (IntKind.i64.wrap a - b) = IntKind.i64.wrap (a - b) := by
  obtain ⟨q, hq⟩ := wrap_ex a
  rw [hq, show a + 18446744073709551616 * q - b = (a - b) + 18446744073709551616 * q by omega, wrap_shift]
theorem wrap_sub_r (a b : Int) : IntKind.i64.wrap (a - IntKind.i64.wrap b) = IntKind.i64.wrap (a - b) := by
  obtain ⟨q, hq⟩ := wrap_ex b
  rw [hq, show a - (b + 18446744073709551616 * q) = (a - b) + 18446744073709551616 * (-q) by omega, wrap_shift]
theorem wrap_mul_l (a b : Int) : IntKind.i64.wrap (IntKind.i64.wrap a * b) = IntKind.i64.wrap (a * b) := by
  obtain ⟨q, hq⟩ := wrap_ex a
  rw [hq, show (a + 18446744073709551616 * q) * b = a * b + 18446744073709551616 * (q * b) by rw [Int.add_mul, Int.mul_assoc], wrap_shift]
theorem wrap_mul_r (a b : Int) : IntKind.i64.wrap (a * IntKind.i64.wrap b) = IntKind.i64.wrap (a * b) := by
  rw [Int.mul_comm, wrap_mul_l, Int.mul_comm]
theorem wrap_wrap (a : Int) : IntKind.i64.wrap (IntKind.i64.wrap a) = IntKind.i64.wrap a := by
  obtain ⟨q, hq⟩ := wrap_ex a
  rw [hq, wrap_shift, hq]

/-! ### Quotients -/
theorem tdiv_nn {a b : Int} (h : 0 ≤ a) : a.tdiv b = a / b := Int.tdiv_eq_ediv_of_nonneg h
theorem tmod_nn {a b : Int} (h : 0 ≤ a) : a.tmod b = a % b := Int.tmod_eq_emod_of_nonneg h
theorem tdiv_ng {a b : Int} (h : a < 0) : a.tdiv b = -((-a) / b) := by
  rw [← tdiv_nn (a := -a) (by omega), Int.neg_tdiv, Int.neg_neg]
theorem tmod_ng {a b : Int} (h : a < 0) : a.tmod b = -((-a) % b) := by
  rw [← tmod_nn (a := -a) (by omega), Int.neg_tmod, Int.neg_neg]
theorem tmod_4 (a : Int) : a.tmod 4 = 0 ↔ a % 4 = 0 := by
  by_cases h : 0 ≤ a
  · rw [tmod_nn h]
  · rw [tmod_ng (by omega)]; omega
theorem tmod_100 (a : Int) : a.tmod 100 = 0 ↔ a % 100 = 0 := by
  by_cases h : 0 ≤ a
  · rw [tmod_nn h]
  · rw [tmod_ng (by omega)]; omega
theorem tmod_400 (a : Int) : a.tmod 400 = 0 ↔ a % 400 = 0 := by
  by_cases h : 0 ≤ a
  · rw [tmod_nn h]
  · rw [tmod_ng (by omega)]; omega
abbrev mid (a : Int) : Prop := -1000000000000000000 ≤ a ∧ a ≤ 1000000000000000000
theorem dayFloor400 (a : Int) (h : mid a) : F_dayFloor (a, (400 : Int)) = some (a / 400) := by
  rw [e_dayFloor, cond_dec, if_neg (by omega), cond_dec, if_neg (by omega), cond_dec]
  by_cases h0 : 0 ≤ a
  · rw [tmod_nn h0, tdiv_nn h0, if_neg (by omega), wrap_i64 (by omega) (by omega)]
  · rw [tmod_ng (by omega), tdiv_ng (by omega), wrap_sub_l]
    by_cases h1 : -((-a) % 400) < 0
    · rw [if_pos h1, wrap_i64 (by omega) (by omega)]; congr 1; omega
    · rw [if_neg h1, wrap_i64 (by omega) (by omega)]; congr 1; omega
theorem dayFloorC (a : Int) (h : mid a) : F_dayFloor (a, (146097 : Int)) = some (a / 146097) := by
  rw [e_dayFloor, cond_dec, if_neg (by omega), cond_dec, if_neg (by omega), cond_dec]
  by_cases h0 : 0 ≤ a
  · rw [tmod_nn h0, tdiv_nn h0, if_neg (by omega), wrap_i64 (by omega) (by omega)]
  · rw [tmod_ng (by omega), tdiv_ng (by omega), wrap_sub_l]
    by_cases h1 : -((-a) % 146097) < 0
    · rw [if_pos h1, wrap_i64 (by omega) (by omega)]; congr 1; omega
    · rw [if_neg h1, wrap_i64 (by omega) (by omega)]; congr 1; omega
theorem dayLeap (y : Int) : F_dayLeap y = some (decide (leap y)) := by
  rw [e_dayLeap]
  have h4 := tmod_4 y
  have h100 := tmod_100 y
  have h400 := tmod_400 y
  unfold leap
  by_cases h1 : y % 4 = 0
  · rw [decide_eq_true (h4.2 h1)]
    by_cases h2 : y % 100 = 0
    · rw [decide_eq_false (by simp [h100.2 h2])]
      simp only [cond_true, cond_false, Option.some.injEq]
      exact decide_eq_decide.2 (by omega)
    · rw [decide_eq_true (show y.tmod 100 ≠ 0 by omega), decide_eq_true (show y % 4 = 0 ∧ (y % 100 ≠ 0 ∨ y % 400 = 0) by omega)]
      rfl
  · rw [decide_eq_false (show ¬ y.tmod 4 = 0 by omega), decide_eq_false (show ¬ (y % 4 = 0 ∧ (y % 100 ≠ 0 ∨ y % 400 = 0)) by omega)]
    rfl
/-- A date's number. -/
def dN (y m d : Int) : Int := yS y + mC y m + d - 1
theorem dayNumber (y m d : Int) (hy : -30000 ≤ y ∧ y ≤ 30000) (hm : 1 ≤ m ∧ m ≤ 12) (hd : -1000 ≤ d ∧ d ≤ 1000) : F_dayNumber (y, m, d) = some (dN y m d) := by
  rw [e_dayNumber, cond_dec]
  unfold dN yS mC
  by_cases h : m ≤ 2
  · rw [if_pos h, if_pos h, wrap_i64 (x := y - 1) (by omega) (by omega), dayFloor400 _ (by omega)]
    simp only [Option.bind_some]
    generalize he : (y - 1) / 400 = e
    rw [wrap_i64 (x := e * 400) (by omega) (by omega), wrap_i64 (x := y - 1 - e * 400) (by omega) (by omega), tdiv_nn (a := y - 1 - e * 400) (by omega), tdiv_nn (a := y - 1 - e * 400) (by omega)]
    simp only [wrap_add_l, wrap_add_r, wrap_sub_l, wrap_sub_r, wrap_mul_l, wrap_mul_r]
    rw [wrap_i64 (x := 153 * (m + 12 - 3) + 2) (by omega) (by omega), tdiv_nn (a := 153 * (m + 12 - 3) + 2) (by omega), wrap_i64 (by omega) (by omega)]
    congr 1
    omega
  · rw [if_neg h, if_neg h, dayFloor400 _ (by omega)]
    simp only [Option.bind_some]
    generalize he : y / 400 = e
    rw [wrap_i64 (x := e * 400) (by omega) (by omega), wrap_i64 (x := y - e * 400) (by omega) (by omega), tdiv_nn (a := y - e * 400) (by omega), tdiv_nn (a := y - e * 400) (by omega)]
    simp only [wrap_add_l, wrap_add_r, wrap_sub_l, wrap_sub_r, wrap_mul_l, wrap_mul_r]
    rw [wrap_i64 (x := 153 * (m - 3) + 2) (by omega) (by omega), tdiv_nn (a := 153 * (m - 3) + 2) (by omega), wrap_i64 (by omega) (by omega)]
    congr 1
    by_cases hl : leap y
    · rw [if_pos hl]; unfold leap at hl; omega
    · rw [if_neg hl]; unfold leap at hl; omega
theorem dN_start (y : Int) : dN y 1 1 = yS y := by unfold dN; rw [mC_1]; omega
theorem dayStart (y : Int) (hy : -20000 ≤ y ∧ y ≤ 20000) : F_dayStart y = some (yS y, 0) := by
  rw [e_dayStart, cond_dec, if_neg (by omega), cond_dec, if_neg (by omega), dayNumber y 1 1 (by omega) (by omega) (by omega), dN_start]
  rfl
theorem dayFirst : F_dayFirst () = some (yS (-9999)) := by
  rw [e_dayFirst, dayNumber _ 1 1 (by omega) (by omega) (by omega), dN_start]
  rfl
theorem dayLast : F_dayLast () = some (yS 10000 - 1) := by
  rw [e_dayLast, dayNumber _ 12 31 (by omega) (by omega) (by omega)]
  rfl
theorem dayMonth (y m : Int) (hy : -9999 ≤ y ∧ y ≤ 9999) (hm : 1 ≤ m ∧ m ≤ 12) : F_dayMonth (y, m) = some (mL y m, 0) := by
  have hr : F_dayRight y = some true := by rw [e_dayRight, cond_dec, if_pos hy.1, decide_eq_true hy.2]
  rw [e_dayMonth, hr]
  simp only [Option.bind_some, Bool.not_true, cond_false]
  rw [cond_dec, if_neg (by omega), cond_dec, if_neg (by omega), cond_dec]
  have ht : IntKind.i64.wrap (30 + (IntKind.i64.wrap (m + IntKind.i64.wrap (m.tdiv 8))).tmod 2) = 30 + (m + m / 8) % 2 := by
    rw [tdiv_nn (by omega), wrap_i64 (x := m / 8) (by omega) (by omega), wrap_i64 (x := m + m / 8) (by omega) (by omega), tmod_nn (by omega), wrap_i64 (by omega) (by omega)]
  unfold mL
  by_cases h2 : m = 2
  · rw [if_pos h2, if_pos h2, dayLeap]
    simp only [Option.bind_some]
    rw [cond_dec, cond_dec, if_pos h2]
    by_cases hl : leap y
    · rw [if_pos hl, if_pos hl]
    · rw [if_neg hl, if_neg hl]
  · rw [if_neg h2, if_neg h2, cond_dec, if_neg h2, ht]
theorem dayWeekday (n : Int) : F_dayWeekday n = some ((n + 3) % 7 + 1) := by
  rw [e_dayWeekday]
  congr 1
  by_cases h : 0 ≤ n
  · rw [tmod_nn (a := n) h, wrap_i64 (x := n % 7 + 3) (by omega) (by omega), tmod_nn (a := n % 7 + 3) (by omega), wrap_i64 (x := (n % 7 + 3) % 7 + 7) (by omega) (by omega), tmod_nn (by omega), wrap_i64 (by omega) (by omega)]
    omega
  · rw [tmod_ng (a := n) (by omega), wrap_i64 (x := -(-n % 7) + 3) (by omega) (by omega)]
    by_cases h2 : 0 ≤ -(-n % 7) + 3
    · rw [tmod_nn (a := -(-n % 7) + 3) h2, wrap_i64 (x := (-(-n % 7) + 3) % 7 + 7) (by omega) (by omega), tmod_nn (by omega), wrap_i64 (by omega) (by omega)]
      omega
    · rw [tmod_ng (a := -(-n % 7) + 3) (by omega), wrap_i64 (x := -(-(-(-n % 7) + 3) % 7) + 7) (by omega) (by omega), tmod_nn (by omega), wrap_i64 (by omega) (by omega)]
      omega
end Go.Sm
/- Plain Lean: the program's dates, the days of rules, years of seconds. -/
set_option linter.unusedVariables false
set_option linter.unusedSimpArgs false
namespace Go.Sm
open Go.Proofs

theorem yS_march (z E : Int) : yS (z + E * 400 + 1) = E * 146097 + 365 * z + z / 4 - z / 100 + z / 400 + 306 - 719468 := by
  have h4 : (z + E * 400 + 1 - 1) / 4 = z / 4 + E * 100 := by omega
  have h100 : (z + E * 400 + 1 - 1) / 100 = z / 100 + E * 4 := by omega
  have h400 : (z + E * 400 + 1 - 1) / 400 = z / 400 + E := by omega
  unfold yS
  rw [h4, h100, h400]
  omega
theorem dayDate (n : Int) (h1 : yS (-9999) ≤ n) (h2 : n < yS 10000) : ∃ y m d, F_dayDate n = some (y, m, d, 0) ∧ yS y ≤ n ∧ n < yS (y + 1) := by
  have a1 : yS (-9999) = -4371587 := by decide
  have a2 : yS 10000 = 2932897 := by decide
  rw [e_dayDate, dayFirst]
  simp only [Option.bind_some]
  rw [cond_dec, if_neg (by omega), dayLast]
  simp only [Option.bind_some]
  rw [cond_dec, if_neg (by omega), wrap_i64 (x := n + 719468) (by omega) (by omega), dayFloorC _ (by omega)]
  simp only [Option.bind_some]
  generalize hE : (n + 719468) / 146097 = E
  rw [wrap_i64 (x := E * 146097) (by omega) (by omega), wrap_i64 (x := n + 719468 - E * 146097) (by omega) (by omega)]
  generalize hF : n + 719468 - E * 146097 = f
  have hf0 : 0 ≤ f ∧ f ≤ 146096 := by omega
  rw [tdiv_nn (a := f) (b := 1460) (by omega), tdiv_nn (a := f) (b := 36524) (by omega), tdiv_nn (a := f) (b := 146096) (by omega), wrap_i64 (x := f / 1460) (by omega) (by omega), wrap_i64 (x := f / 36524) (by omega) (by omega), wrap_i64 (x := f / 146096) (by omega) (by omega), wrap_i64 (x := f - f / 1460) (by omega) (by omega), wrap_i64 (x := f - f / 1460 + f / 36524) (by omega) (by omega), wrap_i64 (x := f - f / 1460 + f / 36524 - f / 146096) (by omega) (by omega), tdiv_nn (a := f - f / 1460 + f / 36524 - f / 146096) (by omega)]
  generalize hO : (f - f / 1460 + f / 36524 - f / 146096) / 365 = o
  obtain ⟨o0, o1, o2, o3⟩ := civil f o hf0.1 hf0.2 hO.symm
  rw [wrap_i64 (x := o) (by omega) (by omega), wrap_i64 (x := 365 * o) (by omega) (by omega), tdiv_nn (a := o) (b := 4) (by omega), tdiv_nn (a := o) (b := 100) (by omega), wrap_i64 (x := o / 4) (by omega) (by omega), wrap_i64 (x := o / 100) (by omega) (by omega), wrap_i64 (x := 365 * o + o / 4) (by omega) (by omega), wrap_i64 (x := 365 * o + o / 4 - o / 100) (by omega) (by omega), wrap_i64 (x := f - (365 * o + o / 4 - o / 100)) (by omega) (by omega)]
  generalize hR : f - (365 * o + o / 4 - o / 100) = r
  have hr0 : 0 ≤ r ∧ r ≤ 366 := by omega
  rw [wrap_i64 (x := 5 * r) (by omega) (by omega), wrap_i64 (x := 5 * r + 2) (by omega) (by omega), tdiv_nn (a := 5 * r + 2) (b := 153) (by omega), wrap_i64 (x := (5 * r + 2) / 153) (by omega) (by omega), wrap_i64 (x := (5 * r + 2) / 153 + 3) (by omega) (by omega), wrap_i64 (x := E * 400) (by omega) (by omega), wrap_i64 (x := o + E * 400) (by omega) (by omega), cond_dec]
  by_cases hm : 12 < (5 * r + 2) / 153 + 3
  · rw [if_pos hm, wrap_i64 (x := o + E * 400 + 1) (by omega) (by omega)]
    refine ⟨_, _, _, rfl, ?_, ?_⟩
    · have : 306 ≤ r := by omega
      rw [yS_march]
      omega
    · rw [show o + E * 400 + 1 + 1 = (o + 1) + E * 400 + 1 by omega, yS_march]
      omega
  · rw [if_neg hm]
    have : r < 306 := by omega
    refine ⟨_, _, _, rfl, ?_, ?_⟩
    · rw [show o + E * 400 = (o - 1) + E * 400 + 1 by omega, yS_march]
      clear o3 hm hO
      omega
    · rw [yS_march]
      omega
theorem dayDate_bad (n : Int) (h : ¬ (yS (-9999) ≤ n ∧ n < yS 10000)) : F_dayDate n = some (0, 0, 0, 13) := by
  rw [e_dayDate, dayFirst]
  simp only [Option.bind_some]
  rw [cond_dec]
  by_cases h1 : n < yS (-9999)
  · rw [if_pos h1]
  · rw [if_neg h1, dayLast]
    simp only [Option.bind_some]
    rw [cond_dec, if_pos (by omega)]
theorem numDiv (a : Int) (h : -9223372036854775808 ≤ a ∧ a ≤ 9223372036854775807) : F_numDiv (a, (86400 : Int)) = some (a / 86400, 0) := by
  have key : (bif decide (a.tmod 86400 ≠ (0 : Int)) then
          bif !decide (a < (0 : Int)) == decide ((86400 : Int) < (0 : Int)) then some (IntKind.i64.wrap (IntKind.i64.wrap (a.tdiv 86400) - (1 : Int)), (0 : Int)) else some (IntKind.i64.wrap (a.tdiv 86400), (0 : Int))
        else some (IntKind.i64.wrap (a.tdiv 86400), (0 : Int))) = some (a / 86400, 0) := by
    rw [cond_dec]
    by_cases h0 : 0 ≤ a
    · rw [tmod_nn h0, tdiv_nn h0, decide_eq_false (show ¬ a < 0 by omega), wrap_i64 (x := a / 86400) (by omega) (by omega)]
      by_cases h1 : a % 86400 ≠ 0
      · rw [if_pos h1]; rfl
      · rw [if_neg h1]
    · rw [tmod_ng (by omega), tdiv_ng (by omega), decide_eq_true (show a < 0 by omega), wrap_i64 (x := -(-a / 86400)) (by omega) (by omega)]
      by_cases h1 : -(-a % 86400) ≠ 0
      · rw [if_pos h1]
        show some (IntKind.i64.wrap (-(-a / 86400) - 1), (0 : Int)) = _
        rw [wrap_i64 (by omega) (by omega)]
        congr 2
        omega
      · rw [if_neg h1]
        congr 2
        omega
  rw [e_numDiv, cond_dec, if_neg (by omega), cond_dec]
  by_cases hm : a = -9223372036854775808
  · rw [if_pos hm, cond_dec, if_neg (by omega), cond_dec, if_neg (by omega), cond_dec, if_neg (by omega)]
    exact key
  · rw [if_neg hm, cond_dec, if_neg (by omega), cond_dec, if_neg (by omega)]
    exact key
theorem numMod (a : Int) : ∃ r, F_numMod (a, (86400 : Int)) = some (r, 0) := by
  rw [e_numMod, cond_dec, if_neg (by omega), cond_dec, if_neg (by omega), cond_dec, if_neg (by omega), cond_dec]
  split
  · cases (!decide (a.tmod 86400 < 0) == decide ((86400 : Int) < 0)) with
    | true => exact ⟨_, rfl⟩
    | false => exact ⟨_, rfl⟩
  · exact ⟨_, rfl⟩
abbrev i64 (t : Int) : Prop := -9223372036854775808 ≤ t ∧ t ≤ 9223372036854775807
theorem ftYear_ok (t y : Int) (ht : i64 t) (hy : -9999 ≤ y ∧ y ≤ 9999) (h1 : yS y ≤ t / 86400) (h2 : t / 86400 < yS (y + 1)) : F_ftYear t = some (y, 0) := by
  have b1 := (yS_mono (x := -9999) (y := y) hy.1).1
  have b2 := (yS_mono (x := y + 1) (y := 10000) (by omega)).1
  obtain ⟨y', m, d, hd, h3, h4⟩ := dayDate (t / 86400) (by omega) (by omega)
  have := yS_uniq h1 h2 h3 h4
  subst this
  obtain ⟨r, hr⟩ := numMod t
  have hs : F_numSplit (t, (86400 : Int)) = some (t / 86400, r, 0) := by
    rw [e_numSplit, cond_dec, if_neg (by omega), numDiv t ht]
    simp only [Option.bind_some]
    rw [cond_dec, if_neg (by simp), hr]
    rfl
  rw [e_ftYear, hs]
  simp only [Option.bind_some]
  rw [cond_dec, if_neg (by simp), hd]
  rfl
abbrev dated (t : Int) : Prop := yS (-9999) ≤ t / 86400 ∧ t / 86400 < yS 10000
theorem ftYear_bad (t : Int) (ht : i64 t) (h : ¬ dated t) : F_ftYear t = some (0, 13) := by
  obtain ⟨r, hr⟩ := numMod t
  have hs : F_numSplit (t, (86400 : Int)) = some (t / 86400, r, 0) := by
    rw [e_numSplit, cond_dec, if_neg (by omega), numDiv t ht]
    simp only [Option.bind_some]
    rw [cond_dec, if_neg (by simp), hr]
    rfl
  rw [e_ftYear, hs]
  simp only [Option.bind_some]
  rw [cond_dec, if_neg (by simp), dayDate_bad _ h]
  rfl
/-- The year of a day that is a date's. -/
theorem year_ex (n : Int) (h : yS (-9999) ≤ n ∧ n < yS 10000) : ∃ y, (-9999 ≤ y ∧ y ≤ 9999) ∧ yS y ≤ n ∧ n < yS (y + 1) := by
  obtain ⟨y, m, d, _, h1, h2⟩ := dayDate n h.1 h.2
  refine ⟨y, ?_, h1, h2⟩
  constructor
  · by_cases hc : -9999 ≤ y
    · exact hc
    · have := (yS_mono (x := y + 1) (y := -9999) (by omega)).1
      omega
  · by_cases hc : y ≤ 9999
    · exact hc
    · have := (yS_mono (x := 10000) (y := y) (by omega)).1
      omega

/-! ### Days of rules -/
theorem leap_mod (y : Int) : leap (y.tmod 400 + 2000) ↔ leap y := by
  unfold leap
  by_cases h : 0 ≤ y
  · rw [tmod_nn h]; omega
  · rw [tmod_ng (by omega)]; omega
theorem mL_mod (y m : Int) : mL (y.tmod 400 + 2000) m = mL y m := by
  unfold mL
  by_cases h : leap y
  · rw [if_pos h, if_pos ((leap_mod y).2 h)]
  · rw [if_neg h, if_neg (fun q => h ((leap_mod y).1 q))]
theorem tmod_range (y : Int) : -400 < y.tmod 400 ∧ y.tmod 400 < 400 := by
  by_cases h : 0 ≤ y
  · rw [tmod_nn h]; omega
  · rw [tmod_ng (by omega)]; omega
theorem mC_le (y m : Int) (h1 : 1 ≤ m) (h2 : m ≤ 13) : 0 ≤ mC y m ∧ mC y m ≤ 366 := by
  unfold mC
  split
  · omega
  · split <;> omega
theorem month_loop (y w : Int) (hw : w ≤ 13) : ∀ (k : Nat) (n m : Int), 1 ≤ m → m + k = w → (-100000000 ≤ n ∧ n ≤ 100000000 + 400 * m) → w_ruleMonth_0 (y, w, n, m) = some (.inr (n + mC y w - mC y m))
  | 0, n, m, hm, hk, hn => by
    obtain rfl : m = w := by omega
    rw [ew_ruleMonth_0, es_ruleMonth_0, cond_dec, if_neg (by omega)]
    simp only [Option.bind_some, Sum.elim_inr]
    congr 2
    omega
  | k + 1, n, m, hm, hk, hn => by
    have hr := tmod_range y
    have hl := mL_le y m
    rw [ew_ruleMonth_0, es_ruleMonth_0, cond_dec, if_pos (by omega), wrap_i64 (x := y.tmod 400 + 2000) (by omega) (by omega), dayMonth _ m (by omega) (by omega), mL_mod]
    simp only [Option.bind_some]
    rw [cond_dec, if_neg (by simp), wrap_i64 (x := n + mL y m) (by omega) (by omega), wrap_i64 (x := m + 1) (by omega) (by omega)]
    simp only [Option.bind_some, Sum.elim_inl]
    rw [month_loop y w hw k (n + mL y m) (m + 1) (by omega) (by omega) (by omega), mC_succ y m (by omega) (by omega)]
    congr 2
    omega
theorem yS_big {y : Int} (h : -20000 ≤ y ∧ y ≤ 20000) : -9000000 ≤ yS y ∧ yS y ≤ 9000000 := by unfold yS; omega
theorem ruleMonth (y w : Int) (hy : -20000 ≤ y ∧ y ≤ 20000) (hw : 1 ≤ w ∧ w ≤ 13) : F_ruleMonth (y, w) = some (yS y + mC y w, 0) := by
  have hb := yS_big hy
  rw [e_ruleMonth, dayStart y hy]
  simp only [Option.bind_some]
  rw [cond_dec, if_neg (by simp), month_loop y w hw.2 (w - 1).toNat (yS y) 1 (by omega) (by omega) (by omega), mC_1]
  simp only [Option.bind_some, Sum.elim_inr]
  congr 2
  omega
/-- The day of a weekly rule. -/
def wkD (y m w d : Int) : Int :=
  if yS y + mC y (m + 1) ≤ yS y + mC y m + (d - ((yS y + mC y m + 3) % 7 + 1) % 7 + 7) % 7 + 7 * (w - 1) then yS y + mC y m + (d - ((yS y + mC y m + 3) % 7 + 1) % 7 + 7) % 7 + 7 * (w - 1) - 7
  else yS y + mC y m + (d - ((yS y + mC y m + 3) % 7 + 1) % 7 + 7) % 7 + 7 * (w - 1)
theorem ruleWeek (k m w d t y : Int) (hy : -20000 ≤ y ∧ y ≤ 20000) (hm : 1 ≤ m ∧ m ≤ 12) (hw : 1 ≤ w ∧ w ≤ 5) (hd : 0 ≤ d ∧ d ≤ 6) : F_ruleWeek ((k, m, w, d, t), y) = some (wkD y m w d, 0) := by
  have hb := yS_big hy
  have h1 := mC_le y m (by omega) (by omega)
  have h2 := mC_le y (m + 1) (by omega) (by omega)
  rw [e_ruleWeek, ruleMonth y m hy (by omega)]
  simp only [Option.bind_some]
  rw [cond_dec, if_neg (by simp), wrap_i64 (x := m + 1) (by omega) (by omega), ruleMonth y (m + 1) hy (by omega)]
  simp only [Option.bind_some]
  rw [cond_dec, if_neg (by simp), dayWeekday]
  simp only [Option.bind_some]
  unfold wkD
  have hF : -9000000 ≤ yS y + mC y m ∧ yS y + mC y m ≤ 9000400 := by omega
  generalize yS y + mC y m = F at hF ⊢
  generalize yS y + mC y (m + 1) = N
  rw [tmod_nn (a := (F + 3) % 7 + 1) (by omega)]
  simp only [wrap_add_l, wrap_add_r, wrap_sub_l, wrap_sub_r, wrap_mul_l, wrap_mul_r]
  rw [wrap_i64 (x := d - ((F + 3) % 7 + 1) % 7 + 7) (by omega) (by omega), tmod_nn (a := d - ((F + 3) % 7 + 1) % 7 + 7) (by omega)]
  rw [wrap_i64 (x := F + ((d - ((F + 3) % 7 + 1) % 7 + 7) % 7 + 7 * (w - 1))) (by omega) (by omega), wrap_i64 (x := F + ((d - ((F + 3) % 7 + 1) % 7 + 7) % 7 + 7 * (w - 1)) - 7) (by omega) (by omega), cond_dec, ← Int.add_assoc]
  by_cases hN : N ≤ F + (d - ((F + 3) % 7 + 1) % 7 + 7) % 7 + 7 * (w - 1)
  · rw [if_pos hN, if_pos hN]
  · rw [if_neg hN, if_neg hN]
/-- The day of a rule in a year. -/
def rD (r : Rul) (y : Int) : Int :=
  if r.1 = 3 then wkD y r.2.1 r.2.2.1 r.2.2.2.1 else if r.1 = 1 then (if r.2.2.2.1 < 60 ∨ ¬ leap y then yS y + r.2.2.2.1 - 1 else yS y + r.2.2.2.1) else yS y + r.2.2.2.1
theorem rck_may {r : Rul} (h : rckR r = 0) : may r.1 r.2.1 r.2.2.1 r.2.2.2.1 ∧ -604799 ≤ r.2.2.2.2 ∧ r.2.2.2.2 ≤ 604799 := by
  unfold rckR rck at h
  split at h
  · split at h
    · rename_i h2; exact h2
    · cases h
  · cases h
theorem wkD_range (y m w d : Int) (hm : 1 ≤ m ∧ m ≤ 12) (hw : 1 ≤ w ∧ w ≤ 5) : yS y + mC y m ≤ wkD y m w d ∧ wkD y m w d < yS y + mC y m + mL y m := by
  have h4 := mC_succ y m (by omega) (by omega)
  have h5 := mL_le y m
  unfold wkD
  rw [h4, ← Int.add_assoc]
  generalize yS y + mC y m = F
  split
  · omega
  · omega
/-- Where a rule's day lies. -/
theorem rD_range {r : Rul} (h : rckR r = 0) (y : Int) : yS y - 6 ≤ rD r y ∧ rD r y ≤ yS y + 366 := by
  obtain ⟨hm, _⟩ := rck_may h
  unfold may at hm
  unfold rD
  by_cases h3 : r.1 = 3
  · rw [if_pos h3]
    have h1 := mC_le y r.2.1 (by omega) (by omega)
    have h2 := mC_le y (r.2.1 + 1) (by omega) (by omega)
    have h4 := mC_succ y r.2.1 (by omega) (by omega)
    have h5 := wkD_range y r.2.1 r.2.2.1 r.2.2.2.1 (by omega) (by omega)
    omega
  · rw [if_neg h3]
    split
    · split
      · omega
      · omega
    · omega
/-- A rule's days are nearly a year apart. -/
theorem rD_next {r : Rul} (h : rckR r = 0) (y : Int) : rD r y + 330 ≤ rD r (y + 1) := by
  obtain ⟨hm, _⟩ := rck_may h
  have hy := yS_succ y
  have hL := yL_le y
  unfold may at hm
  unfold rD
  by_cases h3 : r.1 = 3
  · rw [if_pos h3, if_pos h3]
    have h5 := mL_le y r.2.1
    have h8 : mC y r.2.1 - 1 ≤ mC (y + 1) r.2.1 := by
      unfold mC
      split
      · omega
      · split
        · split <;> omega
        · split <;> omega
    have h9 := wkD_range y r.2.1 r.2.2.1 r.2.2.2.1 (by omega) (by omega)
    have h10 := wkD_range (y + 1) r.2.1 r.2.2.1 r.2.2.2.1 (by omega) (by omega)
    omega
  · rw [if_neg h3, if_neg h3]
    split
    · split
      · split <;> omega
      · split <;> omega
    · omega
theorem ruleDay {r : Rul} {y : Int} (h : rckR r = 0) (hy : -10001 ≤ y ∧ y ≤ 10001) : F_ruleDay (r, y) = some (rD r y, 0) := by
  obtain ⟨hm, _⟩ := rck_may h
  unfold may at hm
  obtain ⟨k, m, w, d, t⟩ := r
  have hb := yS_big (y := y) (by omega)
  have hc : F_ruleCheck (k, m, w, d, t) = some 0 := by rw [ruleCheck]; exact congrArg some h
  rw [e_ruleDay, hc]
  simp only [Option.bind_some]
  rw [cond_dec, if_neg (by simp), ruleIn, decide_eq_true (show (-10001 : Int) ≤ y ∧ y ≤ 10001 from hy)]
  simp only [Option.bind_some, Bool.not_true, cond_false]
  rw [cond_dec]
  unfold rD
  simp only at hm ⊢
  by_cases h3 : k = 3
  · rw [if_pos h3, if_pos h3, ruleWeek k m w d t y (by omega) (by omega) (by omega) (by omega)]
    rfl
  · rw [if_neg h3, if_neg h3, dayStart y (by omega)]
    simp only [Option.bind_some]
    rw [cond_dec, if_neg (by simp), cond_dec]
    by_cases h1 : k = 1
    · rw [if_pos h1, if_pos h1, cond_dec, wrap_sub_l, wrap_i64 (x := yS y + d - 1) (by omega) (by omega)]
      by_cases h60 : d < 60
      · rw [if_pos h60, if_pos (.inl h60)]
      · rw [if_neg h60, dayLeap]
        simp only [Option.bind_some]
        by_cases hl : leap y
        · rw [decide_eq_true hl, if_neg (by simp [h60, hl]), wrap_i64 (x := yS y + d) (by omega) (by omega)]
          rfl
        · rw [decide_eq_false hl, if_pos (.inr hl)]
          rfl
    · rw [if_neg h1, if_neg h1, wrap_i64 (x := yS y + d) (by omega) (by omega)]
def rA (r : Rul) (y : Int) : Int := rD r y * 86400 + r.2.2.2.2
theorem ruleAt {r : Rul} {y : Int} (h : rckR r = 0) (hy : -10001 ≤ y ∧ y ≤ 10001) : F_ruleAt (r, y) = some (rA r y, 0) := by
  have hb := yS_big (y := y) (by omega)
  have hr := rD_range h y
  obtain ⟨_, ht⟩ := rck_may h
  have hd := ruleDay h hy
  obtain ⟨k, m, w, d, t⟩ := r
  rw [e_ruleAt, hd]
  simp only [Option.bind_some]
  simp only at ht
  rw [cond_dec, if_neg (by simp), wrap_add_l, wrap_i64 (by omega) (by omega)]
  rfl
end Go.Sm
/- Plain Lean: clocks by a plan at any second (program). -/
set_option linter.unusedVariables false
set_option linter.unusedSimpArgs false
namespace Go.Sm
open Go.Proofs

/-! ### Rising lists -/
/-- So many of a list's numbers are below a number. -/
structure Srt (c : Nat) (l : List Int) (t : Int) : Prop where
  le : c ≤ l.length
  lo : ∀ i (h : i < l.length), i < c → l[i] < t
  hi : ∀ i (h : i < l.length), c ≤ i → t ≤ l[i]
theorem srt_ex (t : Int) : ∀ l : List Int, l.Pairwise (· < ·) → ∃ c, Srt c l t
  | [], _ => ⟨0, Nat.le_refl _, fun i h => by simp at h, fun i h => by simp at h⟩
  | x :: l, hp => by
    rw [List.pairwise_cons] at hp
    by_cases hx : x < t
    · obtain ⟨c, h⟩ := srt_ex t l hp.2
      refine ⟨c + 1, by simpa using h.le, fun i hi hc => ?_, fun i hi hc => ?_⟩
      · cases i with
        | zero => exact hx
        | succ i => exact h.lo i (by simpa using hi) (by omega)
      · cases i with
        | zero => omega
        | succ i => exact h.hi i (by simpa using hi) (by omega)
    · refine ⟨0, by omega, fun i hi hc => by omega, fun i hi _ => ?_⟩
      cases i with
      | zero => show t ≤ x; omega
      | succ i =>
        have := hp.1 (l[i]'(by simpa using hi)) (List.getElem_mem _)
        show t ≤ l[i]'(by simpa using hi)
        omega
theorem cmpLess (x y : Int) : F_cmpLess (x, y) = some (decide (x < y)) := by
  have h : F_cmpIsNaN x = some false := by rw [e_cmpIsNaN]; simp
  rw [e_cmpLess, h]
  rfl
theorem slSearch_loop {l : List Int} {t : Int} {c : Nat} (hs : Srt c l t) (hl : l.length ≤ 1000000) (n : Int) : ∀ (k i j : Nat), j - i = k → i ≤ c → c ≤ j → j ≤ l.length → w_slSearch_0 (l, t, n, (i : Int), (j : Int)) = some (l, t, n, (c : Int)) := by
  intro k
  induction k using Nat.strongRecOn with
  | _ k ih =>
    intro i j hk hi hj hjl
    by_cases h0 : i < j
    · have hw : IntKind.u64.wrap (IntKind.i64.wrap ((i : Int) + (j : Int))) = ((i + j : Nat) : Int) := by
        rw [wrap_i64 (by omega) (by omega), wrap_u64 (by omega) (by omega)]
        simp
      have hf : (((i + j : Nat) : Int)).fdiv 2 = (((i + j) / 2 : Nat) : Int) := by
        rw [Int.fdiv_eq_ediv_of_nonneg _ (by omega)]
        rfl
      have hlt : (i + j) / 2 < l.length := by omega
      rw [ew_slSearch_0, es_slSearch_0, cond_dec, if_pos (by omega), hw, hf, wrap_i64 (x := (((i + j) / 2 : Nat) : Int)) (by omega) (by omega), getI_at hlt]
      simp only [Option.bind_some]
      rw [cmpLess]
      simp only [Option.bind_some]
      rw [cond_dec]
      by_cases hc : l[(i + j) / 2] < t
      · rw [if_pos hc, wrap_succ (by omega)]
        simp only [Option.bind_some, Sum.elim_inl]
        have : (i + j) / 2 < c := by
          by_cases hq : (i + j) / 2 < c
          · exact hq
          · have := hs.hi _ hlt (by omega); omega
        exact ih (j - ((i + j) / 2 + 1)) (by omega) _ _ rfl (by omega) hj hjl
      · rw [if_neg hc]
        simp only [Option.bind_some, Sum.elim_inl]
        have : c ≤ (i + j) / 2 := by
          by_cases hq : c ≤ (i + j) / 2
          · exact hq
          · have := hs.lo _ hlt (by omega); omega
        exact ih ((i + j) / 2 - i) (by omega) _ _ rfl hi (by omega) (by omega)
    · rw [ew_slSearch_0, es_slSearch_0, cond_dec, if_neg (by omega)]
      simp only [Option.bind_some, Sum.elim_inr]
      have : i = c := by omega
      rw [this]
theorem slSearch {l : List Int} {t : Int} {c : Nat} (hs : Srt c l t) (hl : l.length ≤ 1000000) : F_slSearch (l, t) = some ((c : Int), decide (l[c]? = some t)) := by
  have h := slSearch_loop hs hl (l.length : Int) _ 0 l.length rfl (by omega) hs.le (Nat.le_refl _)
  have h : w_slSearch_0 (l, t, (l.length : Int), (0 : Int), (l.length : Int)) = _ := h
  have hn : ∀ x, F_slIsNaN x = some false := fun x => by rw [e_slIsNaN]; simp
  rw [e_slSearch, h]
  simp only [Option.bind_some]
  rw [cond_dec]
  have hle := hs.le
  by_cases hc : c < l.length
  · rw [if_pos (by omega), getI_at hc, List.getElem?_eq_getElem hc]
    simp only [Option.bind_some]
    rw [cond_dec]
    by_cases he : l[c] = t
    · rw [if_pos he, decide_eq_true (by rw [he])]
    · rw [if_neg he, hn, decide_eq_false (by simpa using he)]
      rfl
  · rw [if_neg (by omega), List.getElem?_eq_none (by omega)]
    rfl
/-- The last one that isn't behind a number, of a rising list whose first one isn't. -/
theorem ftLast {l : List Int} {t x : Int} {k : Nat} (hp : l.Pairwise (· < ·)) (hl : l.length ≤ 1000000) (hk : l[k]? = some x) (h1 : x ≤ t) (h2 : ∀ y, l[k + 1]? = some y → t < y) : F_ftLast (l, t) = some x := by
  obtain ⟨c, hs⟩ := srt_ex t l hp
  have hkl := (List.getElem?_eq_some_iff.1 hk).1
  have hx := (List.getElem?_eq_some_iff.1 hk).2
  have hle := hs.le
  have hnext : ∀ i (h : i < l.length), k < i → t < l[i] := by
    intro i h hi
    have h3 := h2 (l[k + 1]'(by omega)) (List.getElem?_eq_getElem (by omega))
    by_cases he : i = k + 1
    · subst he; exact h3
    · have := List.pairwise_iff_getElem.1 hp (k + 1) i (by omega) h (by omega)
      omega
  rw [e_ftLast, slSearch hs hl]
  simp only [Option.bind_some]
  by_cases hf : l[c]? = some t
  · have hcl := (List.getElem?_eq_some_iff.1 hf).1
    have hct := (List.getElem?_eq_some_iff.1 hf).2
    have : c = k := by
      rcases Nat.lt_trichotomy c k with h | h | h
      · have := List.pairwise_iff_getElem.1 hp c k hcl hkl h
        omega
      · exact h
      · have := hnext c hcl h
        omega
    subst this
    rw [decide_eq_true hf]
    simp only [Bool.not_true, cond_false]
    rw [show max ((c : Int)) 0 = (c : Int) by omega, getI_nat, hk]
    rfl
  · rw [decide_eq_false hf]
    simp only [Bool.not_false, cond_true]
    have hc : c = k + 1 := by
      have h3 : k < c := by
        by_cases hq : k < c
        · exact hq
        · exfalso
          have h4 := hs.hi k hkl (by omega)
          have h5 : l[k] = t := by omega
          by_cases he : c = k
          · subst he
            exact hf (by rw [List.getElem?_eq_getElem hkl, h5])
          · have h6 := hs.hi c (by omega) (Nat.le_refl _)
            have h7 := List.pairwise_iff_getElem.1 hp c k (by omega) hkl (by omega)
            omega
      by_cases he : c = k + 1
      · exact he
      · exfalso
        have h4 := hs.lo (k + 1) (by omega) (by omega)
        have h5 := hnext (k + 1) (by omega) (by omega)
        omega
    rw [hc, wrap_i64 (by omega) (by omega), show max (((k + 1 : Nat) : Int) - 1) 0 = (k : Int) by omega, getI_nat, hk]
    rfl

/-! ### Turns -/
/-- Begin and End of a year. -/
def tB (p : Pln) (y : Int) : Int := rA p.2.2.2.2.1 y - p.2.2.1
def tE (p : Pln) (y : Int) : Int := rA p.2.2.2.2.2 y - p.2.2.2.1
/-- A right plan with another time. -/
structure Two (p : Pln) : Prop where
  ok : pck p = 0
  two : p.2.1 ≠ []
theorem Two.b {p : Pln} (h : Two p) : rckR p.2.2.2.2.1 = 0 ∧ rckR p.2.2.2.2.2 = 0 ∧ (-89999 ≤ p.2.2.1 ∧ p.2.2.1 ≤ 89999) ∧ (-89999 ≤ p.2.2.2.1 ∧ p.2.2.2.1 ≤ 89999) := by
  obtain ⟨_, ho, ha, hq⟩ := pck_zero h.ok
  rcases hq with ⟨q, _⟩ | ⟨_, _, hb, hc⟩
  · exact absurd q h.two
  · exact ⟨hb, hc, ho, ha⟩
theorem rA_range {r : Rul} (h : rckR r = 0) (y : Int) : (yS y - 13) * 86400 ≤ rA r y ∧ rA r y ≤ (yS y + 373) * 86400 := by
  have := rD_range h y
  obtain ⟨_, ht⟩ := rck_may h
  unfold rA
  omega
theorem rA_next {r : Rul} (h : rckR r = 0) (y : Int) : rA r y + 330 * 86400 ≤ rA r (y + 1) := by
  have := rD_next h y
  unfold rA
  omega
theorem tB_range {p : Pln} (h : Two p) (y : Int) : (yS y - 15) * 86400 ≤ tB p y ∧ tB p y ≤ (yS y + 375) * 86400 := by
  obtain ⟨hb, hc, ho, ha⟩ := h.b
  have := rA_range hb y
  unfold tB
  omega
theorem tE_range {p : Pln} (h : Two p) (y : Int) : (yS y - 15) * 86400 ≤ tE p y ∧ tE p y ≤ (yS y + 375) * 86400 := by
  obtain ⟨hb, hc, ho, ha⟩ := h.b
  have := rA_range hc y
  unfold tE
  omega
theorem tB_next {p : Pln} (h : Two p) (y : Int) : tB p y + 330 * 86400 ≤ tB p (y + 1) := by
  have := rA_next h.b.1 y
  unfold tB
  omega
theorem tE_next {p : Pln} (h : Two p) (y : Int) : tE p y + 330 * 86400 ≤ tE p (y + 1) := by
  have := rA_next h.b.2.1 y
  unfold tE
  omega
theorem rise {f : Int → Int} (hf : ∀ y, f y + 330 * 86400 ≤ f (y + 1)) {x y : Int} (h : x < y) : f x < f y := by
  obtain ⟨k, rfl⟩ : ∃ k : Nat, y = x + k + 1 := ⟨(y - x - 1).toNat, by omega⟩
  clear h
  induction k with
  | zero => have := hf x; simp; omega
  | succ k ih =>
    have := hf (x + k + 1)
    rw [show x + ((k + 1 : Nat) : Int) + 1 = x + k + 1 + 1 by omega]
    omega
theorem rise_le {f : Int → Int} (hf : ∀ y, f y + 330 * 86400 ≤ f (y + 1)) {x y : Int} (h : f x ≤ f y) : x ≤ y := by
  by_cases hc : x ≤ y
  · exact hc
  · have := rise hf (show y < x by omega)
    omega
theorem rise_uniq {f : Int → Int} (hf : ∀ y, f y + 330 * 86400 ≤ f (y + 1)) {x y t : Int} (h1 : f x ≤ t) (h2 : t < f (x + 1)) (h3 : f y ≤ t) (h4 : t < f (y + 1)) : x = y := by
  rcases Int.lt_trichotomy x y with h | h | h
  · have : f (x + 1) ≤ f y := by
      by_cases he : x + 1 = y
      · rw [he]; omega
      · have := rise hf (show x + 1 < y by omega); omega
    omega
  · exact h
  · have : f (y + 1) ≤ f x := by
      by_cases he : y + 1 = x
      · rw [he]; omega
      · have := rise hf (show y + 1 < x by omega); omega
    omega
theorem ftTurns {p : Pln} (h : Two p) {y : Int} (hy : -10001 ≤ y ∧ y ≤ 10001) : F_ftTurns (p, y) = some (tB p y, tE p y, 0) := by
  obtain ⟨hb, hc, ho, ha⟩ := h.b
  have hS := yS_big (y := y) (by omega)
  have h1 := rA_range hb y
  have h2 := rA_range hc y
  rw [e_ftTurns, ruleAt hb hy]
  simp only [Option.bind_some]
  rw [cond_dec, if_neg (by simp), ruleAt hc hy]
  simp only [Option.bind_some]
  rw [cond_dec, if_neg (by simp), wrap_i64 (by omega) (by omega), wrap_i64 (by omega) (by omega)]
  rfl
theorem about_round {p : Pln} (h : Two p) (y : Int) (hy : -9999 ≤ y ∧ y ≤ 9999) (b e : List Int) (k k' : Int) (h1 : y - 2 ≤ k) (h2 : k ≤ y + 2) (hk : k' = k + 1) (hb : b.length ≤ 20) (he : e.length ≤ 20) :
    w_ftAbout_0 (y, p, b, e, k) = w_ftAbout_0 (y, p, b ++ [tB p k], e ++ [tE p k], k') := by
  subst hk
  have r8 : ∀ l : List Int, l.length ≤ 20 → roomB l.length 1 8 = true := fun l hl => by unfold roomB; simp; omega
  rw [ew_ftAbout_0, es_ftAbout_0, wrap_i64 (x := y + 2) (by omega) (by omega), cond_dec, if_pos (by omega), ftTurns h (by omega)]
  simp only [Option.bind_some]
  rw [cond_dec, if_neg (by simp), show ([tB p k] : List Int).length = 1 from rfl, show ([tE p k] : List Int).length = 1 from rfl, r8 b hb, r8 e he, wrap_i64 (x := k + 1) (by omega) (by omega)]
  rfl
theorem ftAbout {p : Pln} (h : Two p) (y : Int) (hy : -9999 ≤ y ∧ y ≤ 9999) :
    F_ftAbout (p, y) = some ([tB p (y - 2), tB p (y - 1), tB p y, tB p (y + 1), tB p (y + 2)], [tE p (y - 2), tE p (y - 1), tE p y, tE p (y + 1), tE p (y + 2)], 0) := by
  rw [e_ftAbout, wrap_i64 (x := y - 2) (by omega) (by omega)]
  rw [about_round h y hy [] [] (y - 2) (y - 1) (by omega) (by omega) (by omega) (by simp) (by simp)]
  rw [about_round h y hy _ _ (y - 1) y (by omega) (by omega) (by omega) (by simp) (by simp)]
  rw [about_round h y hy _ _ y (y + 1) (by omega) (by omega) (by omega) (by simp) (by simp)]
  rw [about_round h y hy _ _ (y + 1) (y + 2) (by omega) (by omega) (by omega) (by simp) (by simp)]
  rw [about_round h y hy _ _ (y + 2) (y + 3) (by omega) (by omega) (by omega) (by simp) (by simp)]
  rw [ew_ftAbout_0, es_ftAbout_0, wrap_i64 (x := y + 2) (by omega) (by omega), cond_dec, if_neg (by omega)]
  rfl
theorem five {f : Int → Int} (hf : ∀ y, f y + 330 * 86400 ≤ f (y + 1)) (y : Int) : [f (y - 2), f (y - 1), f y, f (y + 1), f (y + 2)].Pairwise (· < ·) := by
  have h1 := rise hf (show y - 2 < y - 1 by omega)
  have h2 := rise hf (show y - 1 < y by omega)
  have h3 := rise hf (show y < y + 1 by omega)
  have h4 := rise hf (show y + 1 < y + 2 by omega)
  simp only [List.pairwise_cons, List.mem_cons, List.not_mem_nil, or_false, forall_eq_or_imp, forall_eq, false_implies, implies_true, List.Pairwise.nil, and_true]
  omega
/-- The last of five turns that isn't behind a second. -/
theorem last_five {f : Int → Int} (hf : ∀ y, f y + 330 * 86400 ≤ f (y + 1)) (y k t : Int) (h1 : f k ≤ t) (h2 : t < f (k + 1)) (hk1 : y - 2 ≤ k) (hk2 : k ≤ y + 1) : F_ftLast ([f (y - 2), f (y - 1), f y, f (y + 1), f (y + 2)], t) = some (f k) := by
  rcases (by omega : k = y - 2 ∨ k = y - 1 ∨ k = y ∨ k = y + 1) with rfl | rfl | rfl | rfl
  · exact ftLast (k := 0) (five hf y) (by simp) rfl h1 (fun z hz => by obtain rfl := Option.some.inj hz; rwa [show y - 2 + 1 = y - 1 by omega] at h2)
  · exact ftLast (k := 1) (five hf y) (by simp) rfl h1 (fun z hz => by obtain rfl := Option.some.inj hz; rwa [show y - 1 + 1 = y by omega] at h2)
  · exact ftLast (k := 2) (five hf k) (by simp) rfl h1 (fun z hz => by obtain rfl := Option.some.inj hz; exact h2)
  · exact ftLast (k := 3) (five hf y) (by simp) rfl h1 (fun z hz => by obtain rfl := Option.some.inj hz; rwa [show y + 1 + 1 = y + 2 by omega] at h2)
/-- A turn's year, near the second's. -/
theorem near {f : Int → Int} (hr : ∀ y, (yS y - 15) * 86400 ≤ f y ∧ f y ≤ (yS y + 375) * 86400) {y k t : Int} (h1 : f k ≤ t) (h2 : t < f (k + 1)) (hy1 : yS y ≤ t / 86400) (hy2 : t / 86400 < yS (y + 1)) : y - 2 ≤ k ∧ k ≤ y + 1 := by
  have a := hr k
  have b := hr (k + 1)
  constructor
  · by_cases hc : y - 2 ≤ k
    · exact hc
    · have := (yS_mono (x := k + 1) (y := y - 2) (by omega)).1
      have := (yS_mono (x := y - 2) (y := y) (by omega)).1
      omega
  · by_cases hc : k ≤ y + 1
    · exact hc
    · have := (yS_mono (x := y + 2) (y := k) (by omega)).1
      have := (yS_mono (x := y + 1) (y := y + 2) (by omega)).1
      omega
theorem near_ex {f : Int → Int} (hf : ∀ y, f y + 330 * 86400 ≤ f (y + 1)) (hr : ∀ y, (yS y - 15) * 86400 ≤ f y ∧ f y ≤ (yS y + 375) * 86400) {y t : Int} (hy1 : yS y ≤ t / 86400) (hy2 : t / 86400 < yS (y + 1)) : ∃ k, f k ≤ t ∧ t < f (k + 1) := by
  have a := hr (y - 2)
  have b := hr (y + 2)
  have m1 := (yS_mono (x := y - 2) (y := y) (by omega)).1
  have m2 := (yS_mono (x := y + 1) (y := y + 2) (by omega)).1
  by_cases h1 : t < f (y - 1)
  · exact ⟨y - 2, by omega, by rw [show y - 2 + 1 = y - 1 by omega]; exact h1⟩
  · by_cases h2 : t < f y
    · exact ⟨y - 1, by omega, by rw [show y - 1 + 1 = y by omega]; exact h2⟩
    · by_cases h3 : t < f (y + 1)
      · exact ⟨y, by omega, h3⟩
      · exact ⟨y + 1, by omega, by rw [show y + 1 + 1 = y + 2 by omega]; omega⟩
abbrev Loc := Int × Bool × List UInt8
/-- How clocks stand, by the last Begin and the last End. -/
theorem ftAt_two {p : Pln} (h : Two p) (h1 : small p.1) (h2 : small p.2.1) {t kB kE : Int} (ht : i64 t) (hd : dated t) (b1 : tB p kB ≤ t) (b2 : t < tB p (kB + 1)) (e1 : tE p kE ≤ t) (e2 : t < tE p (kE + 1)) :
    F_ftAt (p, t) = some (if tE p kE ≤ tB p kB then (p.2.2.2.1, true, p.2.1) else (p.2.2.1, false, p.1), 0) := by
  obtain ⟨y, hy, hy1, hy2⟩ := year_ex _ hd
  have hch : F_pxChanges p = some (decide (p.2.1 ≠ [])) := e_pxChanges p
  obtain ⟨n1, n2⟩ := near (tB_range h) b1 b2 hy1 hy2
  obtain ⟨n3, n4⟩ := near (tE_range h) e1 e2 hy1 hy2
  have hs : F_ftSummer (p, t, y) = some (decide (tE p kE ≤ tB p kB), 0) := by
    rw [e_ftSummer, hch, decide_eq_true h.two]
    simp only [Option.bind_some, Bool.not_true, cond_false]
    rw [ftAbout h y hy]
    simp only [Option.bind_some]
    rw [cond_dec, if_neg (by simp), last_five (tB_next h) y kB t b1 b2 n1 n2]
    simp only [Option.bind_some]
    rw [last_five (tE_next h) y kE t e1 e2 n3 n4]
    rfl
  rw [e_ftAt, pxCheck p h1 h2, h.ok]
  simp only [Option.bind_some]
  rw [cond_dec, if_neg (by simp), ftYear_ok t y ht hy hy1 hy2]
  simp only [Option.bind_some]
  rw [cond_dec, if_neg (by simp), hs]
  simp only [Option.bind_some]
  rw [cond_dec, if_neg (by simp), cond_dec]
  by_cases hq : tE p kE ≤ tB p kB
  · rw [if_pos hq, if_pos hq]
  · rw [if_neg hq, if_neg hq]
theorem ftAt_bad {p : Pln} (h : pck p = 0) (h1 : small p.1) (h2 : small p.2.1) {t : Int} (ht : i64 t) (hd : ¬ dated t) : F_ftAt (p, t) = some ((0, false, []), 13) := by
  rw [e_ftAt, pxCheck p h1 h2, h]
  simp only [Option.bind_some]
  rw [cond_dec, if_neg (by simp), ftYear_bad t ht hd]
  rfl
theorem ftAt_wrong {p : Pln} (h : pck p ≠ 0) (h1 : small p.1) (h2 : small p.2.1) (t : Int) : F_ftAt (p, t) = some ((0, false, []), pck p) := by
  rw [e_ftAt, pxCheck p h1 h2]
  simp only [Option.bind_some]
  rw [cond_dec, if_pos h]
theorem ftAt_one {p : Pln} (h : pck p = 0) (hs : p.2.1 = []) (h1 : small p.1) {t : Int} (ht : i64 t) (hd : dated t) : F_ftAt (p, t) = some ((p.2.2.1, false, p.1), 0) := by
  obtain ⟨y, hy, hy1, hy2⟩ := year_ex _ hd
  have hch : F_pxChanges p = some (decide (p.2.1 ≠ [])) := e_pxChanges p
  have hsm : F_ftSummer (p, t, y) = some (false, 0) := by
    rw [e_ftSummer, hch, decide_eq_false (by simp [hs])]
    rfl
  rw [e_ftAt, pxCheck p h1 (by rw [hs]; simp [small]), h]
  simp only [Option.bind_some]
  rw [cond_dec, if_neg (by simp), ftYear_ok t y ht hy hy1 hy2]
  simp only [Option.bind_some]
  rw [cond_dec, if_neg (by simp), hsm]
  rfl

end Go.Sm
/- Plain Lean: plans as the program reads them. -/
set_option linter.unusedVariables false
set_option linter.unusedSimpArgs false
namespace Go.Sm
open Go.Proofs

def noPlan : Pln := ([], [], 0, 0, noRule, noRule)
def plA (s : List UInt8) : List UInt8 × Int × List UInt8 := nm s 0
def plB (s : List UInt8) : List UInt8 × Int × Int := ofs (plA s).1 (plA s).2.1
def chk (p : Pln) : Pln × Int := if pck p ≠ 0 then (noPlan, pck p) else (p, 0)
/-- The plan with its summer. -/
def plS (s : List UInt8) : Pln := ((plA s).2.2, (nm (plB s).1 (plB s).2.1).2.2, (plB s).2.2, (smA (plB s).1 (plB s).2.1 (plB s).2.2).2.2, (smB (plB s).1 (plB s).2.1 (plB s).2.2).2.2, (smC (plB s).1 (plB s).2.1 (plB s).2.2).2.2)
def plN (s : List UInt8) : Pln := ((plA s).2.2, [], (plB s).2.2, 0, noRule, noRule)
def plan (s : List UInt8) : Pln × Int :=
  if 0 < (rd (plB s).1 (plB s).2.1).length then
    (if clkEnd (smC (plB s).1 (plB s).2.1 (plB s).2.2).2.1 (smC (plB s).1 (plB s).2.1 (plB s).2.2).1 ≠ 0 then (noPlan, clkEnd (smC (plB s).1 (plB s).2.1 (plB s).2.2).2.1 (smC (plB s).1 (plB s).2.1 (plB s).2.2).1) else chk (plS s))
  else if clkEnd (plB s).2.1 (plB s).1 ≠ 0 then (noPlan, clkEnd (plB s).2.1 (plB s).1) else chk (plN s)
theorem small_nm {t r : List UInt8} {e : Int} (h : r <:+ t) (ht : small t) : small (nm r e).2.2 := by
  unfold nm
  split
  · split
    · exact small_tw _ (small_rd (suf_tk _ h) ht)
    · exact small_tw _ (small_rd (suf_tk _ h) ht)
  · exact small_tw _ (small_rd h ht)
theorem chk_eq (p : Pln) (h1 : small p.1) (h2 : small p.2.1) : ((F_pxCheck p).bind fun x7 => bif decide (x7 ≠ (0 : Int)) then some (noPlan, x7) else some (p, (0 : Int))) = some (chk p) := by
  rw [pxCheck p h1 h2]
  simp only [Option.bind_some, cond_dec]
  unfold chk
  by_cases h : pck p ≠ 0
  · rw [if_pos h, if_pos h]
  · rw [if_neg h, if_neg h]
theorem pxParse (s : List UInt8) (hs : small s) : F_pxParse s = some (plan s) := by
  have h0 := List.suffix_refl s
  have hA : (plA s).1 <:+ s := suf_nm h0
  have hB : (plB s).1 <:+ s := suf_ofs hA
  have hend : ∀ r e, r <:+ s → F_scEnd (sc s r e, ()) = some (sc s r e, clkEnd e r) := fun r e h => scEnd h
  have hr : -4000000 ≤ (plB s).2.2 ∧ (plB s).2.2 ≤ 4000000 := by
    have := clk_range ((rd (plA s).1 (plA s).2.1).takeWhile (runP clocks)) 24
    unfold plB ofs
    simp only
    split
    · omega
    · omega
  have f1 : F_rdName (sc s s 0, ()) = some (sc s (plA s).1 (plA s).2.1, (plA s).2.2) := rdName h0 hs
  have f2 : F_rdOffset (sc s (plA s).1 (plA s).2.1, ()) = some (sc s (plB s).1 (plB s).2.1, (plB s).2.2) := rdOffset hA hs
  have f3 := rdSummer (e := (plB s).2.1) hB hs (plA s).2.2 [] (plB s).2.2 0 noRule noRule hr
  have hC : (smC (plB s).1 (plB s).2.1 (plB s).2.2).1 <:+ s := suf_rl (suf_rl (suf_ahd (suf_nm hB)))
  rw [e_pxParse, scNew]
  simp only [Option.bind_some]
  rw [f1]
  simp only [Option.bind_some]
  rw [f2]
  simp only [Option.bind_some]
  rw [scLeft hB]
  simp only [Option.bind_some, cond_dec]
  unfold plan
  by_cases hl : 0 < (rd (plB s).1 (plB s).2.1).length
  · rw [if_pos hl, if_pos (by omega)]
    unfold noRule at f3
    rw [f3]
    simp only [Option.bind_some]
    rw [hend _ _ hC]
    simp only [Option.bind_some]
    by_cases he : clkEnd (smC (plB s).1 (plB s).2.1 (plB s).2.2).2.1 (smC (plB s).1 (plB s).2.1 (plB s).2.2).1 ≠ 0
    · rw [if_pos he, if_pos he]; rfl
    · rw [if_neg he, if_neg he]
      have := chk_eq (plS s) (small_nm h0 hs) (small_nm hB hs)
      simp only [cond_dec] at this
      exact this
  · rw [if_neg hl, if_neg (by omega), hend _ _ hB]
    simp only [Option.bind_some]
    by_cases he : clkEnd (plB s).2.1 (plB s).1 ≠ 0
    · rw [if_pos he, if_pos he]; rfl
    · rw [if_neg he, if_neg he]
      have := chk_eq (plN s) (small_nm h0 hs) (by simp [plN, small])
      simp only [cond_dec] at this
      exact this
end Go.Sm
/- Plain Lean: numbers between signs; the program's clocks by parts of the text. -/
set_option linter.unusedVariables false
set_option linter.unusedSimpArgs false
namespace Go.Sm
open Go.Proofs

/-- The number of l to m figures. -/
def numF (l m : Nat) (s : List UInt8) : Option Nat := if (l ≤ s.length ∧ s.length ≤ m) ∧ s.all isFig = true then some (decFrom 0 s) else none
theorem numF_some {l m n : Nat} {s : List UInt8} (h : numF l m s = some n) : l ≤ s.length ∧ s.length ≤ m ∧ s.all isFig = true ∧ n = decFrom 0 s := by
  unfold numF at h
  split at h
  · rename_i hc
    exact ⟨hc.1.1, hc.1.2, hc.2, (Option.some.inj h).symm⟩
  · cases h
theorem numF_none {l m : Nat} {s : List UInt8} (h : numF l m s = none) (h1 : l ≤ s.length) (h2 : s.length ≤ m) : s.all isFig = true → False := by
  intro h3
  unfold numF at h
  rw [if_pos ⟨⟨h1, h2⟩, h3⟩] at h
  cases h
theorem figs_pre {m : Nat} {p q : List UInt8} (hp : p.all isFig = true) (hm : p.length ≤ m) (hq : ∀ c ∈ q.head?, isFig c = false) : figs (m : Int) (p ++ q) = p.length := by
  unfold figs
  rw [Int.toNat_natCast, List.take_append, List.take_of_length_le hm]
  rw [List.takeWhile_append_of_pos (all_mem hp)]
  have : (q.take (m - p.length)).takeWhile isFig = [] := by
    cases q with
    | nil => simp
    | cons c q =>
      cases hk : m - p.length with
      | zero => simp
      | succ k => simp [hq c (by simp)]
  rw [this]
  simp
theorem tw_dw (p : UInt8 → Bool) (s : List UInt8) : s = s.takeWhile p ++ s.dropWhile p := (List.takeWhile_append_dropWhile).symm
theorem dw_head (c : UInt8) (s : List UInt8) : ∀ b ∈ (s.dropWhile (· != c)).head?, b = c := by
  intro b hb
  cases hq : s.dropWhile (· != c) with
  | nil => rw [hq] at hb; cases hb
  | cons x l =>
    rw [hq] at hb
    obtain rfl := Option.some.inj hb
    have := dropWhile_head (· != c) s hq
    simpa using this
theorem tw_pre (c : UInt8) (a t : List UInt8) (ha : ∀ x ∈ a, x ≠ c) : (a ++ c :: t).takeWhile (· != c) = a := by
  rw [List.takeWhile_append_of_pos (fun x hx => by simpa using ha x hx)]
  simp
theorem fg_nn {l m : Nat} {s : List UInt8} (h : ¬ figs (m : Int) s < l) : fgR l m s 0 = s.drop (figs (m : Int) s) ∧ fgE l m s 0 = 0 ∧ fgV l m s 0 = (figNum (m : Int) s : Int) := by
  unfold fgR fgE fgV fgB
  simp [h]
theorem fg_lt {l m : Nat} {s : List UInt8} (h : figs (m : Int) s < l) : fgE l m s 0 = 2 := by
  unfold fgE
  simp [h]
theorem fg_pre {l m n : Nat} {s p q : List UInt8} (hs : s = p ++ q) (hn : numF l m p = some n) (hq : ∀ c ∈ q.head?, isFig c = false) : fgR l m s 0 = q ∧ fgE l m s 0 = 0 ∧ fgV l m s 0 = (n : Int) := by
  obtain ⟨h1, h2, h3, rfl⟩ := numF_some hn
  subst hs
  have hf := figs_pre h3 h2 hq
  obtain ⟨g1, g2, g3⟩ := fg_nn (l := l) (m := m) (s := p ++ q) (by omega)
  refine ⟨by rw [g1, hf]; simp, g2, ?_⟩
  rw [g3]
  unfold figNum
  rw [hf]
  simp
theorem fg_some {l m n : Nat} {c : UInt8} {s : List UInt8} (hc : isFig c = false) (hn : numF l m (s.takeWhile (· != c)) = some n) :
    fgR l m s 0 = s.dropWhile (· != c) ∧ fgE l m s 0 = 0 ∧ fgV l m s 0 = (n : Int) :=
  fg_pre (tw_dw _ s) hn fun b hb => by rw [dw_head c s b hb]; exact hc
theorem fg_all {l m n : Nat} {s : List UInt8} (hn : numF l m s = some n) : fgR l m s 0 = [] ∧ fgE l m s 0 = 0 ∧ fgV l m s 0 = (n : Int) :=
  fg_pre (by simp) hn fun b hb => by cases hb
theorem fig_take (m : Nat) (s : List UInt8) : (s.take (figs (m : Int) s)).all isFig = true := by rw [figs_take]; exact takeWhile_all _ _
theorem fg_allnone {l m : Nat} {s : List UInt8} (hn : numF l m s = none) : fgE l m s 0 = 2 ∨ (fgE l m s 0 = 0 ∧ fgR l m s 0 ≠ []) := by
  by_cases h : figs (m : Int) s < l
  · exact .inl (fg_lt h)
  · obtain ⟨g1, g2, g3⟩ := fg_nn (l := l) (m := m) h
    refine .inr ⟨g2, fun h0 => ?_⟩
    rw [g1, List.drop_eq_nil_iff] at h0
    have hle := figs_le (m : Int) s
    have ht := fig_take m s
    rw [List.take_of_length_le h0] at ht
    exact numF_none hn (by omega) (by omega) ht
theorem fg_none {l m : Nat} {c : UInt8} {s : List UInt8} (hc : isFig c = false) (hn : numF l m (s.takeWhile (· != c)) = none) :
    fgE l m s 0 = 2 ∨ (fgE l m s 0 = 0 ∧ fgR l m s 0 ≠ [] ∧ tkB c (fgR l m s 0) 0 = false) := by
  by_cases h : figs (m : Int) s < l
  · exact .inl (fg_lt h)
  · obtain ⟨g1, g2, g3⟩ := fg_nn (l := l) (m := m) h
    have hle := figs_le (m : Int) s
    have ht := fig_take m s
    have hne : ∀ x ∈ s.take (figs (m : Int) s), x ≠ c := fun x hx hxc => by have := all_mem ht x hx; rw [hxc, hc] at this; cases this
    refine .inr ⟨g2, fun h0 => ?_, ?_⟩
    · rw [g1, List.drop_eq_nil_iff] at h0
      rw [List.take_of_length_le h0] at ht hne
      have hw : s.takeWhile (· != c) = s := takeWhile_self _ _ fun x hx => by simpa using hne x hx
      rw [hw] at hn
      exact numF_none hn (by omega) (by omega) ht
    · unfold tkB
      rw [decide_eq_false_iff_not, rd_zero, g1]
      intro h0
      cases hq : s.drop (figs (m : Int) s) with
      | nil => rw [hq] at h0; cases h0
      | cons b t =>
        rw [hq] at h0
        obtain rfl := Option.some.inj h0
        have hs : s = s.take (figs (m : Int) s) ++ b :: t := by rw [← hq]; exact (List.take_append_drop _ _).symm
        have hw : s.takeWhile (· != b) = s.take (figs (m : Int) s) := by
          have := tw_pre b (s.take (figs (m : Int) s)) t hne
          rwa [← hs] at this
        rw [hw] at hn
        exact numF_none hn (by rw [List.length_take]; omega) (by rw [List.length_take]; omega) ht

/-! ### Clocks -/
def strip : List UInt8 → List UInt8
  | b :: r => if b = 45 ∨ b = 43 then r else b :: r
  | [] => []
theorem tkB_zero (b : UInt8) (s : List UInt8) : tkB b s 0 = decide (s.head? = some b) := rfl
theorem tkB_ne {b : UInt8} {s : List UInt8} {e : Int} (h : e ≠ 0) : tkB b s e = false := by unfold tkB; rw [rd_ne h]; simp
theorem tk_cons (b : UInt8) (r : List UInt8) : tk b (b :: r) 0 = r := by unfold tk; rw [tkB_zero]; simp
theorem tkB_cons (b : UInt8) (r : List UInt8) : tkB b (b :: r) 0 = true := by rw [tkB_zero]; simp
theorem tkB_nil (b : UInt8) (e : Int) : tkB b [] e = false := by unfold tkB rd; split <;> simp
theorem clkR_strip (s : List UInt8) : clkR s = strip s := by
  unfold clkR
  cases s with
  | nil => simp [tkB_nil, tk, strip]
  | cons b r =>
    simp only [strip]
    by_cases h1 : b = 45
    · subst h1
      rw [tkB_cons, if_pos rfl, tk_cons, if_pos (.inl rfl)]
    · have hb : tkB 45 (b :: r) 0 = false := by rw [tkB_zero]; simpa using h1
      rw [hb]
      simp only [Bool.false_eq_true, if_false]
      by_cases h2 : b = 43
      · subst h2
        rw [tk_cons, if_pos (.inr rfl)]
      · have hb : tkB 43 (b :: r) 0 = false := by rw [tkB_zero]; simpa using h2
        rw [tk_false hb, if_neg (by simp [h1, h2])]
/-- Hours, minutes, seconds of a clock's text without its sign. -/
def clkO (s : List UInt8) : Option (Nat × Nat × Nat) :=
  match numF 1 3 (s.takeWhile (· != 58)) with
  | none => none
  | some h => match s.dropWhile (· != 58) with
    | [] => some (h, 0, 0)
    | _ :: r => match numF 2 2 (r.takeWhile (· != 58)) with
      | none => none
      | some m => match r.dropWhile (· != 58) with
        | [] => some (h, m, 0)
        | _ :: r' => match numF 2 2 r' with
          | none => none
          | some x => some (h, m, x)
def clkV (o : Option (Nat × Nat × Nat)) (neg : Bool) (m : Int) : Int × Int :=
  match o with
  | none => (0, 2)
  | some (h, k, x) => if m < (h : Int) ∨ 60 ≤ k ∨ 60 ≤ x then (0, 1) else (if neg then -((h : Int) * 3600 + (k : Int) * 60 + (x : Int)) else (h : Int) * 3600 + (k : Int) * 60 + (x : Int), 0)
theorem pt_cons (r : List UInt8) : pt (58 :: r) 0 = (fgR 2 2 r 0, fgE 2 2 r 0, fgV 2 2 r 0, true) := by
  unfold pt
  rw [tkB_cons, if_pos rfl, tk_cons]
theorem pt_no {r : List UInt8} {e : Int} (h : tkB 58 r e = false) : pt r e = (r, e, 0, false) := by
  unfold pt
  rw [h]
  simp
theorem dw_cases (c : UInt8) (s : List UInt8) : s.dropWhile (· != c) = [] ∨ ∃ r, s.dropWhile (· != c) = c :: r := by
  cases hq : s.dropWhile (· != c) with
  | nil => exact .inl rfl
  | cons b r =>
    have := dw_head c s b (by rw [hq]; rfl)
    exact .inr ⟨r, by rw [this]⟩
theorem clk_eq (s : List UInt8) (m : Int) : clk s m = clkV (clkO (strip s)) (tkB 45 s 0) m := by
  have hA : clkA s = (fgR 1 3 (strip s) 0, fgE 1 3 (strip s) 0, fgV 1 3 (strip s) 0) := by unfold clkA; rw [clkR_strip]
  generalize strip s = t at hA ⊢
  unfold clk clkN
  have hbad : ∀ {e : Int} {r : List UInt8}, clkA s = (r, e, (clkA s).2.2) → (e ≠ 0 ∨ (r ≠ [] ∧ tkB 58 r e = false)) → (clkC s).2.1 ≠ 0 ∨ (clkC s).1 ≠ [] := by
    intro e r hq h
    have hT : tkB 58 r e = false := by
      rcases h with h | h
      · exact tkB_ne h
      · exact h.2
    have hB : clkB s = (r, e, 0, false) := by unfold clkB; rw [hq]; exact pt_no hT
    have hC : clkC s = (r, e, 0, false) := by unfold clkC; rw [hB]; simp
    rw [hC]
    rcases h with h | h
    · exact .inl h
    · exact .inr h.1
  unfold clkO
  cases hn : numF 1 3 (t.takeWhile (· != 58)) with
  | none =>
    rw [if_pos]
    · rfl
    · refine hbad (e := fgE 1 3 t 0) (r := fgR 1 3 t 0) (by rw [hA]) ?_
      rcases fg_none (c := 58) (by decide) hn with h | h
      · exact .inl (by omega)
      · exact .inr ⟨h.2.1, by rw [h.1]; exact h.2.2⟩
  | some h =>
    obtain ⟨a1, a2, a3⟩ := fg_some (c := 58) (by decide) hn
    rw [a1, a2, a3] at hA
    simp only
    rcases dw_cases 58 t with hq | ⟨r, hq⟩
    · rw [hq] at hA ⊢
      have hB : clkB s = ([], 0, 0, false) := by unfold clkB; rw [hA]; exact pt_no (tkB_nil _ _)
      have hC : clkC s = ([], 0, 0, false) := by unfold clkC; rw [hB]; simp
      rw [hA, hB, hC]
      simp [clkV]
    · rw [hq] at hA ⊢
      simp only
      have hB : clkB s = (fgR 2 2 r 0, fgE 2 2 r 0, fgV 2 2 r 0, true) := by unfold clkB; rw [hA]; exact pt_cons r
      have hC : clkC s = pt (fgR 2 2 r 0) (fgE 2 2 r 0) := by unfold clkC; rw [hB]; simp
      cases hn2 : numF 2 2 (r.takeWhile (· != 58)) with
      | none =>
        rw [if_pos]
        · rfl
        · have hT : tkB 58 (fgR 2 2 r 0) (fgE 2 2 r 0) = false := by
            rcases fg_none (c := 58) (by decide) hn2 with h | h
            · exact tkB_ne (by omega)
            · rw [h.1]; exact h.2.2
          rw [hC, pt_no hT]
          rcases fg_none (c := 58) (by decide) hn2 with h | h
          · exact .inl (by simp only; omega)
          · exact .inr h.2.1
      | some k =>
        obtain ⟨b1, b2, b3⟩ := fg_some (c := 58) (by decide) hn2
        rw [b1, b2, b3] at hB
        rw [b1, b2] at hC
        simp only
        rcases dw_cases 58 r with hq2 | ⟨r2, hq2⟩
        · rw [hq2] at hB hC ⊢
          rw [pt_no (tkB_nil _ _)] at hC
          rw [hA, hB, hC]
          have e1 : ((60 : Int) ≤ (k : Int)) ↔ 60 ≤ k := by omega
          simp [clkV, e1]
        · rw [hq2] at hB hC ⊢
          rw [pt_cons] at hC
          simp only
          cases hn3 : numF 2 2 r2 with
          | none =>
            rw [if_pos]
            · rfl
            · rw [hC]
              rcases fg_allnone hn3 with h | h
              · exact .inl (by simp only; omega)
              · exact .inr h.2
          | some x =>
            obtain ⟨c1, c2, c3⟩ := fg_all hn3
            rw [c1, c2, c3] at hC
            rw [hA, hB, hC]
            simp only [clkV, ne_eq, not_true_eq_false, or_self, if_false]
            have e1 : ((60 : Int) ≤ (k : Int)) ↔ 60 ≤ k := by omega
            have e2 : ((60 : Int) ≤ (x : Int)) ↔ 60 ≤ x := by omega
            simp only [e1, e2]
end Go.Sm
/- Plain Lean: the program's rules and plans, without a scanner. -/
set_option linter.unusedVariables false
set_option linter.unusedSimpArgs false
namespace Go.Sm
open Go.Proofs

theorem clkEnd_zero (r : List UInt8) : clkEnd 0 r = if r = [] then 0 else 2 := by unfold clkEnd; simp
theorem clkEnd_e {e : Int} (r : List UInt8) (h : e ≠ 0) : clkEnd e r = e := by unfold clkEnd; simp [h]
/-- A weekly date: month, week, day. -/
def wkO (s : List UInt8) : Option (Nat × Nat × Nat) :=
  match numF 1 2 (s.takeWhile (· != 46)) with
  | none => none
  | some m => match s.dropWhile (· != 46) with
    | [] => none
    | _ :: r => match numF 1 1 (r.takeWhile (· != 46)) with
      | none => none
      | some w => match r.dropWhile (· != 46) with
        | [] => none
        | _ :: r' => match numF 1 1 r' with
          | none => none
          | some d => some (m, w, d)
def datO (d : List UInt8) : Option (Int × Int × Int × Int) :=
  match d with
  | [] => none
  | b :: r => if b = 74 then (numF 1 3 r).map fun n => (1, 0, 0, (n : Int)) else if b = 77 then (wkO r).map fun x => (3, (x.1 : Int), (x.2.1 : Int), (x.2.2 : Int)) else (numF 1 3 (b :: r)).map fun n => (2, 0, 0, (n : Int))
theorem muQ_e {c : UInt8} {r : List UInt8} {e : Int} (h : e ≠ 0) : muQ c (r, e) = (r, e) := by
  unfold muQ muE tk
  rw [tkB_ne h]
  simp [h]
theorem fgQ_e {l m : Nat} {r : List UInt8} {e : Int} (h : e ≠ 0) : fgQ l m (r, e) = (r, e) := by
  unfold fgQ fgR fgE fgB
  simp [h]
theorem muQ_no {c : UInt8} {r : List UInt8} (h : tkB c r 0 = false) : muQ c (r, 0) = (r, 2) := by
  unfold muQ muE tk
  simp [h]
theorem muQ_yes (c : UInt8) (r : List UInt8) : muQ c (c :: r, 0) = (r, 0) := by
  unfold muQ muE
  simp [tk_cons, tkB_cons]
theorem fgQ_bad {l m : Nat} {c : UInt8} {s : List UInt8} (hc : isFig c = false) (hn : numF l m (s.takeWhile (· != c)) = none) : (muQ c (fgQ l m (s, 0))).2 ≠ 0 := by
  rcases fg_none (c := c) hc hn with h | h
  · have : fgQ l m (s, 0) = (fgR l m s 0, 2) := by unfold fgQ; rw [h]
    rw [this, muQ_e (by omega)]
    simp
  · have : fgQ l m (s, 0) = (fgR l m s 0, 0) := by unfold fgQ; rw [h.1]
    rw [this, muQ_no h.2.2]
    simp
theorem fgQ_end {l m : Nat} {c : UInt8} {s : List UInt8} {n : Nat} (hc : isFig c = false) (hn : numF l m (s.takeWhile (· != c)) = some n) (h : s.dropWhile (· != c) = []) : (muQ c (fgQ l m (s, 0))).2 ≠ 0 := by
  obtain ⟨h1, h2, h3⟩ := fg_some hc hn
  have : fgQ l m (s, 0) = ([], 0) := by unfold fgQ; rw [h1, h2, h]
  rw [this, muQ_no (tkB_nil _ _)]
  simp
theorem fgQ_good {l m : Nat} {c : UInt8} {s r : List UInt8} {n : Nat} (hc : isFig c = false) (hn : numF l m (s.takeWhile (· != c)) = some n) (h : s.dropWhile (· != c) = c :: r) : muQ c (fgQ l m (s, 0)) = (r, 0) ∧ fgV l m s 0 = (n : Int) := by
  obtain ⟨h1, h2, h3⟩ := fg_some hc hn
  have : fgQ l m (s, 0) = (c :: r, 0) := by unfold fgQ; rw [h1, h2, h]
  rw [this, muQ_yes]
  exact ⟨rfl, h3⟩
theorem wk_eq (s : List UInt8) : match wkO s with
    | none => clkEnd (wk3 (s, 0)).2 (wk3 (s, 0)).1 ≠ 0
    | some x => clkEnd (wk3 (s, 0)).2 (wk3 (s, 0)).1 = 0 ∧ fgV 1 2 s 0 = (x.1 : Int) ∧ fgV 1 1 (wk1 (s, 0)).1 (wk1 (s, 0)).2 = (x.2.1 : Int) ∧ fgV 1 1 (wk2 (s, 0)).1 (wk2 (s, 0)).2 = (x.2.2 : Int) := by
  have err2 : ∀ q : List UInt8 × Int, (wk2 q).2 ≠ 0 → clkEnd (wk3 q).2 (wk3 q).1 ≠ 0 := fun q h => by
    have : wk3 q = wk2 q := by
      unfold wk3
      exact fgQ_e (r := (wk2 q).1) h
    rw [this, clkEnd_e _ h]
    exact h
  have err1 : ∀ q : List UInt8 × Int, (wk1 q).2 ≠ 0 → clkEnd (wk3 q).2 (wk3 q).1 ≠ 0 := fun q h => by
    apply err2
    have : wk2 q = wk1 q := by
      unfold wk2
      rw [show fgQ 1 1 (wk1 q) = wk1 q from fgQ_e (r := (wk1 q).1) h]
      exact muQ_e (r := (wk1 q).1) h
    rw [this]
    exact h
  unfold wkO
  cases hn : numF 1 2 (s.takeWhile (· != 46)) with
  | none => exact err1 _ (fgQ_bad (by decide) hn)
  | some m =>
    simp only
    rcases dw_cases 46 s with hq | ⟨r, hq⟩
    · rw [hq]
      exact err1 _ (fgQ_end (by decide) hn hq)
    · obtain ⟨h1, hv1⟩ := fgQ_good (by decide) hn hq
      have h1 : wk1 (s, 0) = (r, 0) := h1
      have hw2 : wk2 (s, 0) = muQ 46 (fgQ 1 1 (r, 0)) := by unfold wk2; rw [h1]
      rw [hq]
      simp only
      cases hn2 : numF 1 1 (r.takeWhile (· != 46)) with
      | none => exact err2 _ (by rw [hw2]; exact fgQ_bad (by decide) hn2)
      | some w =>
        simp only
        rcases dw_cases 46 r with hq2 | ⟨r2, hq2⟩
        · rw [hq2]
          exact err2 _ (by rw [hw2]; exact fgQ_end (by decide) hn2 hq2)
        · obtain ⟨h2, hv2⟩ := fgQ_good (by decide) hn2 hq2
          rw [h2] at hw2
          have hw3 : wk3 (s, 0) = fgQ 1 1 (r2, 0) := by unfold wk3; rw [hw2]
          rw [hq2]
          simp only
          cases hn3 : numF 1 1 r2 with
          | none =>
            rw [hw3]
            rcases fg_allnone hn3 with h | h
            · unfold fgQ
              simp only [h]
              rw [clkEnd_e _ (by omega)]
              omega
            · unfold fgQ
              simp only [h.1]
              rw [clkEnd_zero, if_neg h.2]
              omega
          | some d =>
            obtain ⟨g1, g2, g3⟩ := fg_all hn3
            rw [hw3, h1, hw2]
            unfold fgQ
            simp only [g1, g2, g3]
            rw [clkEnd_zero]
            exact ⟨rfl, hv1, hv2, trivial⟩
theorem dat_eq (d : List UInt8) : match datO d with
    | none => clkEnd (dat d).1.2 (dat d).1.1 ≠ 0
    | some x => clkEnd (dat d).1.2 (dat d).1.1 = 0 ∧ (dat d).2 = x := by
  have hfig : ∀ s : List UInt8, match numF 1 3 s with
      | none => clkEnd (fgQ 1 3 (s, 0)).2 (fgQ 1 3 (s, 0)).1 ≠ 0
      | some n => clkEnd (fgQ 1 3 (s, 0)).2 (fgQ 1 3 (s, 0)).1 = 0 ∧ fgV 1 3 s 0 = (n : Int) := by
    intro s
    unfold fgQ
    cases hn : numF 1 3 s with
    | none =>
      rcases fg_allnone hn with h | h
      · simp only [h]
        rw [clkEnd_e _ (by omega)]
        omega
      · simp only [h.1]
        rw [clkEnd_zero, if_neg h.2]
        omega
    | some n =>
      obtain ⟨g1, g2, g3⟩ := fg_all hn
      simp only [g1, g2, g3]
      rw [clkEnd_zero]
      exact ⟨rfl, trivial⟩
  unfold datO dat
  cases d with
  | nil =>
    have hh := hfig []
    have hno : numF 1 3 [] = none := by decide
    rw [hno] at hh
    rw [tkB_nil, tkB_nil]
    exact hh
  | cons b r =>
    simp only
    by_cases h1 : b = 74
    · subst h1
      rw [if_pos rfl, tkB_cons, if_pos rfl, tk_cons]
      have hh := hfig r
      cases hn : numF 1 3 r with
      | none => rw [hn] at hh; exact hh
      | some n => rw [hn] at hh; exact ⟨hh.1, by simp only [hh.2]⟩
    · have hb : tkB 74 (b :: r) 0 = false := by rw [tkB_zero]; simpa using h1
      rw [if_neg h1, hb]
      simp only [Bool.false_eq_true, if_false]
      by_cases h2 : b = 77
      · subst h2
        rw [if_pos rfl, tkB_cons, if_pos rfl, tk_cons]
        have hh := wk_eq r
        cases hn : wkO r with
        | none => rw [hn] at hh; exact hh
        | some x => rw [hn] at hh; obtain ⟨e1, e2, e3, e4⟩ := hh; exact ⟨e1, by simp only [e2, e3, e4]⟩
      · have hb2 : tkB 77 (b :: r) 0 = false := by rw [tkB_zero]; simpa using h2
        rw [if_neg h2, hb2]
        simp only [Bool.false_eq_true, if_false]
        have hh := hfig (b :: r)
        cases hn : numF 1 3 (b :: r) with
        | none => rw [hn] at hh; exact hh
        | some n => rw [hn] at hh; exact ⟨hh.1, by simp only [hh.2]⟩
/-- A rule, by its parts. -/
def rulO (s : List UInt8) : Rul × Int :=
  match datO (cutB 47 s).1 with
  | none => (noRule, 2)
  | some x => if (cutB 47 s).2.2 then (if (clk (cutB 47 s).2.1 167).2 ≠ 0 then (noRule, (clk (cutB 47 s).2.1 167).2) else fin x (clk (cutB 47 s).2.1 167).1) else fin x 7200
theorem rul_eq (s : List UInt8) : rul s = rulO s := by
  unfold rul rulO
  have h := dat_eq (cutB 47 s).1
  cases hd : datO (cutB 47 s).1 with
  | none => rw [hd] at h; rw [if_pos h]
  | some x => rw [hd] at h; rw [if_neg (by simp [h.1]), h.2]

/-! ### Plans -/
def nmO (r : List UInt8) : Option (List UInt8 × List UInt8) :=
  match r with
  | [] => none
  | b :: r1 => if b = 60 then (if nameB (r1.takeWhile (· != 62)) then (match r1.dropWhile (· != 62) with | [] => none | _ :: r2 => some (r2, r1.takeWhile (· != 62))) else none)
    else if nameB ((b :: r1).takeWhile (runP letters)) then some ((b :: r1).dropWhile (runP letters), (b :: r1).takeWhile (runP letters)) else none
theorem nm_eq (r : List UInt8) : match nmO r with
    | none => (nm r 0).2.1 = 2
    | some x => nm r 0 = (x.1, 0, x.2) := by
  cases r with
  | nil =>
    have : nm [] 0 = ([], 2, []) := by rfl
    rw [this]
    rfl
  | cons b r1 =>
    unfold nmO nm
    simp only
    by_cases h : b = 60
    · subst h
      rw [if_pos rfl, tkB_cons, if_pos rfl, tk_cons, rd_zero]
      by_cases hn : nameB (r1.takeWhile (· != 62)) = true
      · rw [if_pos hn, if_pos hn]
        simp only [wl, if_true]
        rcases dw_cases 62 r1 with hq | ⟨r2, hq⟩
        · rw [hq]
          simp only [tkB_nil]
          rfl
        · rw [hq]
          simp only [tkB_cons, tk_cons, if_true]
      · rw [if_neg hn, if_neg hn]
        rfl
    · have hb : tkB 60 (b :: r1) 0 = false := by rw [tkB_zero]; simpa using h
      rw [if_neg h, hb, if_neg Bool.false_ne_true, rd_zero]
      unfold wl
      rw [if_pos rfl]
      by_cases hn : nameB ((b :: r1).takeWhile (runP letters)) = true
      · rw [if_pos hn, if_pos hn]
      · rw [if_neg hn, if_neg hn]
        rfl
theorem ofs_e {r : List UInt8} {e : Int} (h : e ≠ 0) : (ofs r e).2.1 = e := by
  unfold ofs
  simp [h]
theorem rl_e {r : List UInt8} {e : Int} (h : e ≠ 0) : (rl r e).2.1 = e := by
  unfold rl rlE
  rw [tkB_ne h]
  simp [h, fl]
theorem ahd_e {r : List UInt8} {e o : Int} (h : e ≠ 0) : (ahd r e o).2.1 = e := by
  unfold ahd
  rw [rd_ne h]
theorem nm_e {r : List UInt8} {e : Int} (h : e ≠ 0) : (nm r e).2.1 = e := by
  unfold nm
  rw [tkB_ne h]
  simp [h, fl]
/-- A plan, by its parts. -/
def planO (s : List UInt8) : Pln × Int :=
  match nmO s with
  | none => (noPlan, 2)
  | some (r1, n) =>
    if (ofs r1 0).2.1 ≠ 0 then (noPlan, (ofs r1 0).2.1)
    else if (ofs r1 0).1 = [] then ((n, [], (ofs r1 0).2.2, 0, noRule, noRule), 0)
    else match nmO (ofs r1 0).1 with
      | none => (noPlan, 2)
      | some (r3, n2) =>
        if (ahd r3 0 (ofs r1 0).2.2).2.1 ≠ 0 then (noPlan, (ahd r3 0 (ofs r1 0).2.2).2.1)
        else if (rl (ahd r3 0 (ofs r1 0).2.2).1 0).2.1 ≠ 0 then (noPlan, (rl (ahd r3 0 (ofs r1 0).2.2).1 0).2.1)
        else if (rl (rl (ahd r3 0 (ofs r1 0).2.2).1 0).1 0).2.1 ≠ 0 then (noPlan, (rl (rl (ahd r3 0 (ofs r1 0).2.2).1 0).1 0).2.1)
        else if (rl (rl (ahd r3 0 (ofs r1 0).2.2).1 0).1 0).1 ≠ [] then (noPlan, 2)
        else if 89999 < (ahd r3 0 (ofs r1 0).2.2).2.2 then (noPlan, 1)
        else ((n, n2, (ofs r1 0).2.2, (ahd r3 0 (ofs r1 0).2.2).2.2, (rl (ahd r3 0 (ofs r1 0).2.2).1 0).2.2, (rl (rl (ahd r3 0 (ofs r1 0).2.2).1 0).1 0).2.2), 0)
theorem nmO_name {r r' n : List UInt8} (h : nmO r = some (r', n)) : nameB n = true := by
  unfold nmO at h
  split at h
  · cases h
  · split at h
    · split at h
      · split at h
        · cases h
        · obtain ⟨rfl, rfl⟩ := Prod.mk.inj (Option.some.inj h)
          assumption
      · cases h
    · split at h
      · obtain ⟨rfl, rfl⟩ := Prod.mk.inj (Option.some.inj h)
        assumption
      · cases h
theorem clk_24 (s : List UInt8) : -89999 ≤ (clk s 24).1 ∧ (clk s 24).1 ≤ 89999 := by
  rw [clk_eq]
  unfold clkV
  split
  · simp
  · split
    · simp
    · split
      · simp only; omega
      · simp only; omega
theorem ofs_range (r : List UInt8) (e : Int) : -89999 ≤ (ofs r e).2.2 ∧ (ofs r e).2.2 ≤ 89999 := by
  unfold ofs
  simp only
  have := clk_24 ((rd r e).takeWhile (runP clocks))
  split
  · omega
  · omega
theorem rul_right {s : List UInt8} (h : (rul s).2 = 0) : rckR (rul s).1 = 0 := by
  rw [rul_eq] at h ⊢
  unfold rulO fin at *
  unfold rckR
  split at h
  · simp at h
  · repeat' split at h
    all_goals first | (rename_i hx; simp at h; done) | skip
    all_goals simp_all
theorem rl_right {r : List UInt8} (h : (rl r 0).2.1 = 0) : rckR (rl r 0).2.2 = 0 := by
  unfold rl at *
  simp only at h ⊢
  split at h
  · rename_i h1; rw [h] at h1; exact absurd rfl h1
  · rename_i h1
    rw [if_neg h1]
    exact rul_right h
theorem isNo_no : isNo noRule = true := by decide
theorem nameB_ne {n : List UInt8} (h : nameB n = true) : n ≠ [] := by
  rintro rfl
  cases h
theorem plan_eq (s : List UInt8) : plan s = planO s := by
  have hA := nm_eq s
  unfold plan planO
  have hAd : plA s = nm s 0 := rfl
  cases hn : nmO s with
  | none =>
    rw [hn] at hA
    have hA : (nm s 0).2.1 = 2 := hA
    have hB : (plB s).2.1 = 2 := by unfold plB; rw [hAd, hA]; exact ofs_e (by omega)
    rw [hB, rd_ne (by omega)]
    simp only [List.length_nil, Nat.lt_irrefl, if_false]
    rw [clkEnd_e _ (by omega), if_pos (by omega)]
  | some x =>
    obtain ⟨r1, n⟩ := x
    rw [hn] at hA
    have hA : nm s 0 = (r1, 0, n) := hA
    have hB : plB s = ofs r1 0 := by unfold plB; rw [hAd, hA]
    have hname := nmO_name hn
    have hr := ofs_range r1 0
    rw [hB]
    simp only
    by_cases h1 : (ofs r1 0).2.1 ≠ 0
    · rw [if_pos h1, rd_ne h1]
      simp only [List.length_nil, Nat.lt_irrefl, if_false]
      rw [clkEnd_e _ h1, if_pos h1]
    · rw [if_neg h1]
      have h1 := Decidable.not_not.1 h1
      rw [h1, rd_zero]
      by_cases h2 : (ofs r1 0).1 = []
      · rw [if_pos h2, if_neg (by rw [h2]; simp), clkEnd_zero, if_pos h2, if_neg (by omega)]
        unfold chk
        have hp : plN s = (n, [], (ofs r1 0).2.2, 0, noRule, noRule) := by unfold plN; rw [hB, hAd, hA]
        have hk : pck (plN s) = 0 := by
          rw [hp]
          unfold pck
          simp only
          rw [if_neg (by simp [hname]), if_neg (by simp), if_neg (by decide), if_neg (by simp [shB]; omega), if_neg (by decide)]
        rw [hk, if_neg (by omega), hp]
      · rw [if_neg h2, if_pos (by cases hz : (ofs r1 0).1 with | nil => exact absurd hz h2 | cons => simp)]
        have hC := nm_eq (ofs r1 0).1
        cases hn2 : nmO (ofs r1 0).1 with
        | none =>
          rw [hn2] at hC
          have hC : (nm (ofs r1 0).1 0).2.1 = 2 := hC
          have e1 : (smA (ofs r1 0).1 0 (ofs r1 0).2.2).2.1 = 2 := by unfold smA; rw [hC]; exact ahd_e (by omega)
          have e2 : (smB (ofs r1 0).1 0 (ofs r1 0).2.2).2.1 = 2 := by unfold smB; rw [e1]; exact rl_e (by omega)
          have e3 : (smC (ofs r1 0).1 0 (ofs r1 0).2.2).2.1 = 2 := by unfold smC; rw [e2]; exact rl_e (by omega)
          rw [e3, clkEnd_e _ (by omega), if_pos (by omega)]
        | some y =>
          obtain ⟨r3, n2⟩ := y
          rw [hn2] at hC
          have hC : nm (ofs r1 0).1 0 = (r3, 0, n2) := hC
          have eA : smA (ofs r1 0).1 0 (ofs r1 0).2.2 = ahd r3 0 (ofs r1 0).2.2 := by unfold smA; rw [hC]
          have hname2 := nmO_name hn2
          have hra : -89999 ≤ (ahd r3 0 (ofs r1 0).2.2).2.2 := by
            unfold ahd
            have := ofs_range r3 0
            split
            · simp only; omega
            · split
              · omega
              · simp only; omega
          simp only
          by_cases h3 : (ahd r3 0 (ofs r1 0).2.2).2.1 ≠ 0
          · have e2 : (smB (ofs r1 0).1 0 (ofs r1 0).2.2).2.1 = (ahd r3 0 (ofs r1 0).2.2).2.1 := by unfold smB; rw [eA]; exact rl_e h3
            have e3 : (smC (ofs r1 0).1 0 (ofs r1 0).2.2).2.1 = (ahd r3 0 (ofs r1 0).2.2).2.1 := by unfold smC; rw [rl_e (by rw [e2]; exact h3), e2]
            rw [if_pos h3, e3, clkEnd_e _ h3, if_pos h3]
          · rw [if_neg h3]
            have h3 := Decidable.not_not.1 h3
            have eB : smB (ofs r1 0).1 0 (ofs r1 0).2.2 = rl (ahd r3 0 (ofs r1 0).2.2).1 0 := by unfold smB; rw [eA, h3]
            by_cases h4 : (rl (ahd r3 0 (ofs r1 0).2.2).1 0).2.1 ≠ 0
            · have e3 : (smC (ofs r1 0).1 0 (ofs r1 0).2.2).2.1 = (rl (ahd r3 0 (ofs r1 0).2.2).1 0).2.1 := by unfold smC; rw [eB]; exact rl_e h4
              rw [if_pos h4, e3, clkEnd_e _ h4, if_pos h4]
            · rw [if_neg h4]
              have h4 := Decidable.not_not.1 h4
              have eC : smC (ofs r1 0).1 0 (ofs r1 0).2.2 = rl (rl (ahd r3 0 (ofs r1 0).2.2).1 0).1 0 := by unfold smC; rw [eB, h4]
              rw [eC]
              by_cases h5 : (rl (rl (ahd r3 0 (ofs r1 0).2.2).1 0).1 0).2.1 ≠ 0
              · rw [if_pos h5, clkEnd_e _ h5, if_pos h5]
              · rw [if_neg h5]
                have h5 := Decidable.not_not.1 h5
                rw [h5, clkEnd_zero]
                by_cases h6 : (rl (rl (ahd r3 0 (ofs r1 0).2.2).1 0).1 0).1 ≠ []
                · rw [if_pos h6, if_neg h6, if_pos (by omega)]
                · rw [if_neg h6, if_pos (Decidable.not_not.1 h6), if_neg (by omega)]
                  have hp : plS s = (n, n2, (ofs r1 0).2.2, (ahd r3 0 (ofs r1 0).2.2).2.2, (rl (ahd r3 0 (ofs r1 0).2.2).1 0).2.2, (rl (rl (ahd r3 0 (ofs r1 0).2.2).1 0).1 0).2.2) := by
                    unfold plS
                    rw [hB, hAd, hA, h1, hC, eA, eB, eC]
                  have hk : pck (plS s) = if 89999 < (ahd r3 0 (ofs r1 0).2.2).2.2 then 1 else 0 := by
                    rw [hp]
                    unfold pck
                    simp only
                    rw [if_neg (by simp [hname]), if_pos (nameB_ne hname2), if_neg (by simp [hname2]), if_neg (by simp [shB]; omega)]
                    by_cases h7 : 89999 < (ahd r3 0 (ofs r1 0).2.2).2.2
                    · rw [if_pos h7, if_pos (by simp [shB]; omega)]
                    · rw [if_neg h7, if_neg (by simp [shB]; omega), rl_right h4, rl_right h5, if_neg (by omega)]
                  unfold chk
                  rw [hk, hp]
                  by_cases h7 : 89999 < (ahd r3 0 (ofs r1 0).2.2).2.2
                  · rw [if_pos h7, if_pos h7, if_pos (by omega)]
                  · rw [if_neg h7, if_neg h7, if_neg (by omega)]
end Go.Sm
/- Plain Lean: the chapter's example; errors as numbers, plans as the document's. -/
set_option linter.unusedVariables false
set_option linter.unusedSimpArgs false
namespace Go.Sm
open Go.Proofs

/-! ### The law -/
theorem lawNum (e : Int) : F_lawNum e = some e := by
  rw [e_lawNum]
  by_cases h : e = 0
  · subst h; rfl
  · rw [decide_eq_false h]
    simp [h]
theorem law16Document (r : Rul) : F_law16Document r = some r := e_law16Document r
theorem law17Document (p : Pln) : F_law17Document p = some p := by
  rw [e_law17Document, law16Document, law16Document]
  rfl
def chapter : List UInt8 := [(69 : UInt8), (83 : UInt8), (84 : UInt8), (53 : UInt8), (69 : UInt8), (68 : UInt8), (84 : UInt8), (44 : UInt8), (77 : UInt8), (51 : UInt8), (46 : UInt8), (50 : UInt8), (46 : UInt8),
          (48 : UInt8), (44 : UInt8), (77 : UInt8), (49 : UInt8), (49 : UInt8), (46 : UInt8), (49 : UInt8), (46 : UInt8), (48 : UInt8)]
theorem plan_chapter : planO chapter = (([69, 83, 84], [69, 68, 84], -18000, -14400, (3, 3, 2, 0, 7200), (3, 11, 1, 0, 7200)), 0) := by kernel_rfl
end Go.Sm
/- Plain Lean: the chapter's example of footers. -/
set_option linter.unusedVariables false
set_option linter.unusedSimpArgs false
namespace Go.Sm
open Go.Proofs

def chP : Pln := ([69, 83, 84], [69, 68, 84], -18000, -14400, (3, 3, 2, 0, 7200), (3, 11, 1, 0, 7200))
theorem chP_two : Two chP := ⟨by decide +kernel, by decide⟩
theorem law18alive : F_law18alive () = some true := by
  have h : F_pxParse chapter = _ := pxParse chapter (by decide)
  rw [plan_eq, plan_chapter] at h
  have h : F_pxParse chapter = some (chP, 0) := h
  have s1 : small chP.1 := by decide
  have s2 : small chP.2.1 := by decide
  have a1 := ftAt_two chP_two s1 s2 (t := 1710054000) (kB := 2024) (kE := 2023) (by decide) (by decide +kernel) (by decide +kernel) (by decide +kernel) (by decide +kernel) (by decide +kernel)
  have a2 := ftAt_two chP_two s1 s2 (t := 1710053999) (kB := 2023) (kE := 2023) (by decide) (by decide +kernel) (by decide +kernel) (by decide +kernel) (by decide +kernel) (by decide +kernel)
  rw [if_pos (by decide +kernel)] at a1
  rw [if_neg (by decide +kernel)] at a2
  rw [e_law18alive]
  show (F_pxParse chapter).bind _ = _
  rw [h]
  simp only [Option.bind_some]
  rw [a1]
  simp only [Option.bind_some]
  rw [a2]
  rfl
theorem law17LongA (p : Pln) : F_law17LongA p = some (decide (60 < p.1.length ∨ 60 < p.2.1.length)) := by
  rw [e_law17LongA, cond_dec]
  by_cases h : 60 < p.1.length
  · rw [if_pos (by omega), decide_eq_true (.inl h)]
  · rw [if_neg (by omega)]
    congr 1
    exact decide_eq_decide.2 (by omega)
end Go.Sm
/- Plain Lean: a zone's corrections, first usual types, the document's zone, long zones. -/
set_option linter.unusedVariables false
set_option linter.unusedSimpArgs false
namespace Go.Sm
open Go.Proofs

theorem any_loop {σ γ α β : Type} {step : σ → Option (σ ⊕ (α ⊕ β))} (st : Nat → σ) (l : List γ) (p : γ → Bool) (a : α) (b : β)
    (h : ∀ i (h : i < l.length), step (st i) = if p l[i] then some (.inr (.inl a)) else some (.inl (st (i + 1)))) (h3 : step (st l.length) = some (.inr (.inr b))) :
    whileO step (st 0) = some (if l.any p then .inl a else .inr b) := by
  rw [index_loop (step := step) st l p (fun _ => a) b h h3]
  by_cases ha : l.any p = true
  · rw [if_pos ((firstAt_lt p l).2 ha), if_pos ha]
  · rw [if_neg (fun hh => ha ((firstAt_lt p l).1 hh)), if_neg ha]
/-! ### Corrections -/
def prevC (l : List Cor) (i : Nat) : Cor := if i = 0 then (0, 0) else l.getD (i - 1) (0, 0)
def corQ (l : List Cor) (i : Nat) : Bool := (decide (i = 0) || decide ((prevC l i).1 < (l.getD i (0, 0)).1)) && (decide ((l.getD i (0, 0)).2 = (prevC l i).2 + 1) || decide ((l.getD i (0, 0)).2 = (prevC l i).2 - 1))
def corB (l : List Cor) : Bool := (List.range' 0 l.length).all (corQ l)
theorem prevC_succ (l : List Cor) (i : Nat) : prevC l (i + 1) = l.getD i (0, 0) := by simp [prevC]
theorem cor_bound (l : List Cor) : ∀ i, (∀ j, 0 ≤ j → j < i → corQ l j = true) → -(i : Int) ≤ (prevC l i).2 ∧ (prevC l i).2 ≤ i
  | 0, _ => by simp [prevC]
  | i + 1, h => by
    have ih := cor_bound l i fun j h0 hj => h j h0 (by omega)
    have hq := h i (by omega) (by omega)
    unfold corQ at hq
    simp only [Bool.and_eq_true, Bool.or_eq_true, decide_eq_true_eq] at hq
    rw [prevC_succ]
    omega
theorem getD_at {α : Type} {l : List α} {i : Nat} (d : α) (h : i < l.length) : l.getD i d = l[i] := by rw [List.getD_eq_getElem?_getD, List.getElem?_eq_getElem h]; rfl
theorem zOne (n : Int) : F_zOne n = some (decide (n = 1) || decide (n = -1)) := by
  rw [e_zOne]
  cases decide (n = 1) <;> rfl
theorem zOrdered_1 (l : List Cor) (hl : l.length ≤ 100) : w_zOrdered_1 ((0, 0), l, (l.length : Int), 0) = some (if corB l then .inr () else .inl false) := by
  refine scan_ix (step := sp_zOrdered_1) (fun i => (prevC l i, l, (l.length : Int), (i : Int))) (corQ l) (.inl false) (.inr ()) 0 l.length (fun i _ hi hb => ?_) ?_ l.length 0 (by omega) (by omega) (fun j _ _ => by omega)
  · have hbd := cor_bound l i hb
    simp only [prevC_succ]
    generalize hp : prevC l i = p at hbd
    obtain ⟨a, t⟩ := p
    rw [es_zOrdered_1, cond_dec, if_pos (by omega), getI_at hi]
    simp only [Option.bind_some] at hbd ⊢
    unfold corQ
    rw [hp, getD_at _ hi]
    generalize l[i] = x
    rw [wrap_up (by omega)]
    have hone : F_zOne (IntKind.i64.wrap (x.2 - t)) = some (decide (IntKind.i64.wrap (x.2 - t) = 1) || decide (IntKind.i64.wrap (x.2 - t) = -1)) := zOne _
    rw [hone]
    simp only [Option.bind_some, cond_dec]
    by_cases h1 : x.2 < -100
    · simp only [h1, if_true]
      have h2 : ¬ x.2 = t + 1 := by omega
      have h3 : ¬ x.2 = t - 1 := by omega
      by_cases h4 : (0 : Int) < (i : Int) <;> by_cases h5 : x.1 ≤ a <;> simp [h2, h3, h4, h5]
    · by_cases h1' : 100 < x.2
      · simp only [h1, h1', if_true, if_false]
        have h2 : ¬ x.2 = t + 1 := by omega
        have h3 : ¬ x.2 = t - 1 := by omega
        by_cases h4 : (0 : Int) < (i : Int) <;> by_cases h5 : x.1 ≤ a <;> simp [h2, h3, h4, h5]
      · simp only [h1, h1', if_false]
        rw [wrap_i64 (by omega) (by omega)]
        have e1 : (x.2 - t = 1) = (x.2 = t + 1) := by rw [eq_iff_iff]; omega
        have e2 : (x.2 - t = -1) = (x.2 = t - 1) := by rw [eq_iff_iff]; omega
        simp only [e1, e2]
        by_cases h4 : i = 0
        · simp [h4]
          by_cases h2 : x.2 = t + 1 <;> by_cases h3 : x.2 = t - 1 <;> simp [h2, h3]
        · have h4' : (0 : Int) < (i : Int) := by omega
          by_cases h5 : x.1 ≤ a
          · have h5' : ¬ a < x.1 := by omega
            simp [h4, h4', h5, h5']
          · have h5' : a < x.1 := by omega
            simp only [h4, h4', h5, h5', if_true, if_false]
            by_cases h2 : x.2 = t + 1 <;> by_cases h3 : x.2 = t - 1 <;> simp [h2, h3]
  · show sp_zOrdered_1 (((prevC l l.length).1, (prevC l l.length).2), l, (l.length : Int), (l.length : Int)) = _
    rw [es_zOrdered_1, cond_dec, if_neg (by omega)]
theorem zOrdered (z : Zon) (h1 : midL z.1.length) (h2 : z.2.2.2.1.length ≤ 100) : F_zOrdered z = some (riseB z.1 && corB z.2.2.2.1) := by
  rw [e_zOrdered]
  have hw : w_zOrdered_0 (z, (1 : Int)) = some (if riseB z.1 then .inr z else .inl false) := rise_loop (step := sp_zOrdered_0) z (fun i => (z, (i : Int))) false h1 fun i => by
    rw [es_zOrdered_0]
    by_cases hi : (i : Int) < (z.1.length : Int)
    · rw [wrap_up (by omega)]
    · rw [cond_dec, cond_dec, if_neg hi, if_neg hi]
  rw [hw]
  simp only [Option.bind_some]
  cases hr : riseB z.1
  · rfl
  · simp only [if_true, Sum.elim_inr]
    rw [zOrdered_1 _ h2]
    cases corB z.2.2.2.1 <;> rfl
/-! ### The reference's other loops -/
/-! ### First usual types -/
def firstT (l : List Typ) : Typ := l.getD (if firstAt usualB l < l.length then firstAt usualB l else 0) (0, false, [])
theorem zFirst (z : Zon) (hl : midL z.2.2.1.length) : F_zFirst z = some (if z.2.2.1 = [] then ((0, false, []), 8) else (firstT z.2.2.1, 0)) := by
  rw [e_zFirst, cond_dec]
  by_cases h0 : z.2.2.1 = []
  · rw [if_pos (by rw [h0]; rfl), if_pos h0]
  · have hpos : 0 < z.2.2.1.length := List.length_pos_iff.2 h0
    rw [if_neg (by omega), if_neg h0, ixUsual _ hl]
    simp only [Option.bind_some]
    unfold ixI firstT
    split
    · rename_i hlt
      rw [Int.max_eq_left (by omega), getI_at hlt, getD_at _ hlt]
      rfl
    · rw [show max (-1 : Int) 0 = ((0 : Nat) : Int) from rfl, getI_at hpos, getD_at _ hpos]
      rfl
/-! ### The document's zone; long zones -/
theorem law19Type (t : Typ) : F_law19Type t = some t := by
  obtain ⟨o, m, s⟩ := t
  exact e_law19Type o m s
theorem room_of {n k m : Nat} (hn : n ≤ 1000000) (hk : k = 1) (hm : m ≤ 32) : roomB n k m = true := by
  subst hk
  unfold roomB
  rw [decide_eq_true_eq]
  have : (n + 1) * m ≤ 1000001 * 32 := Nat.mul_le_mul (by omega) hm
  omega
theorem law19Document (z : Zon) (h1 : z.2.2.1.length ≤ 1000000) (h2 : z.2.2.2.1.length ≤ 1000000) : F_law19Document z = some z := by
  obtain ⟨a, b, c, d, r, p⟩ := z
  simp only at h1 h2
  rw [e_law19Document]
  rw [law17Document]
  simp only [Option.bind_some]
  have hA := fold_loop (step := sp_law19Document_0) (fun i (u : List Typ) => ((a, b, c, d, r, p), (([] : List Int), ([] : List Int), ([] : List Typ), ([] : List Cor), false, (([] : List UInt8), ([] : List UInt8), (0 : Int), (0 : Int), ((0 : Int), (0 : Int), (0 : Int), (0 : Int), (0 : Int)), ((0 : Int), (0 : Int), (0 : Int), (0 : Int), (0 : Int)))), (a, b, u, ([] : List Cor), r, p), c, (c.length : Int), (i : Int)))
    (fun u => ((a, b, c, d, r, p), (([] : List Int), ([] : List Int), ([] : List Typ), ([] : List Cor), false, (([] : List UInt8), ([] : List UInt8), (0 : Int), (0 : Int), ((0 : Int), (0 : Int), (0 : Int), (0 : Int), (0 : Int)), ((0 : Int), (0 : Int), (0 : Int), (0 : Int), (0 : Int)))), (a, b, u, ([] : List Cor), r, p))) c (fun u t => u ++ [t]) (fun i u => u.length = i) (fun i hi u hu => by
      refine ⟨by simp [hu], ?_⟩
      rw [es_law19Document_0, cond_dec, if_pos (by omega), getI_at hi]
      simp only [Option.bind_some]
      rw [law19Type]
      simp only [Option.bind_some]
      rw [List.length_singleton, room_of (by omega) rfl (by omega), wrap_up (by omega)]
      rfl) (fun u _ => by rw [es_law19Document_0, cond_dec, if_neg (by omega)]) 0 [] (by omega) rfl
  have hB := fold_loop (step := sp_law19Document_1) (fun i (v : List Cor) => ((([] : List Int), ([] : List Int), ([] : List Typ), ([] : List Cor), false, (([] : List UInt8), ([] : List UInt8), (0 : Int), (0 : Int), ((0 : Int), (0 : Int), (0 : Int), (0 : Int), (0 : Int)), ((0 : Int), (0 : Int), (0 : Int), (0 : Int), (0 : Int)))), (a, b, c, v, r, p), d, (d.length : Int), (i : Int)))
    (fun v => ((([] : List Int), ([] : List Int), ([] : List Typ), ([] : List Cor), false, (([] : List UInt8), ([] : List UInt8), (0 : Int), (0 : Int), ((0 : Int), (0 : Int), (0 : Int), (0 : Int), (0 : Int)), ((0 : Int), (0 : Int), (0 : Int), (0 : Int), (0 : Int)))), (a, b, c, v, r, p))) d (fun v t => v ++ [t]) (fun i v => v.length = i) (fun i hi v hv => by
      refine ⟨by simp [hv], ?_⟩
      rw [es_law19Document_1, cond_dec, if_pos (by omega), getI_at hi]
      simp only [Option.bind_some]
      rw [List.length_singleton, room_of (by omega) rfl (by omega), wrap_up (by omega)]
      rfl) (fun v _ => by rw [es_law19Document_1, cond_dec, if_neg (by omega)]) 0 [] (by omega) rfl
  have happ : ∀ {γ : Type} (r o : List γ), r.foldl (fun u t => u ++ [t]) o = o ++ r := by
    intro γ r
    induction r with
    | nil => intro o; simp
    | cons x r ih => intro o; rw [List.foldl_cons, ih]; simp
  rw [List.drop_zero, happ, List.nil_append] at hA hB
  have hA' : w_law19Document_0 ((a, b, c, d, r, p), ([], [], [], [], false, [], [], 0, 0, (0, 0, 0, 0, 0), 0, 0, 0, 0, 0), (a, b, [], [], r, p), c, (c.length : Int), 0) = _ := hA
  rw [hA']
  simp only [Option.bind_some]
  have hB' : w_law19Document_1 (([], [], [], [], false, [], [], 0, 0, (0, 0, 0, 0, 0), 0, 0, 0, 0, 0), (a, b, c, [], r, p), d, (d.length : Int), 0) = _ := hB
  rw [hB']
  rfl
/-- What is looked at. -/
structure Short (z : Zon) : Prop where
  trans : z.1.length ≤ 10000
  kinds : z.2.1.length ≤ 10000
  types : z.2.2.1.length ≤ 10000
  leaps : z.2.2.2.1.length ≤ 10000
  names : smT z.2.2.1
  n1 : z.2.2.2.2.2.1.length ≤ 60
  n2 : z.2.2.2.2.2.2.1.length ≤ 60
theorem law19Long (z : Zon) (hl : midL z.2.2.1.length) : ∃ b, F_law19Long z = some b ∧ (b = false → Short z) := by
  rw [e_law19Long]
  have := any_loop (step := sp_law19Long_0) (fun i => (z, z.2.2.1, (z.2.2.1.length : Int), (i : Int))) z.2.2.1 (fun t => decide (60 < t.2.2.length)) true z (fun i hi => by
    rw [es_law19Long_0, cond_dec, if_pos (by omega), getI_at hi]
    simp only [Option.bind_some, cond_dec]
    rw [wrap_up (by omega)]
    by_cases h : 60 < z.2.2.1[i].2.2.length
    · rw [if_pos (by omega), if_pos (by simpa using h)]
    · rw [if_neg (by omega), if_neg (by simpa using h)]) (by rw [es_law19Long_0, cond_dec, if_neg (by omega)])
  have hw : w_law19Long_0 (z, z.2.2.1, (z.2.2.1.length : Int), 0) = _ := this
  rw [hw]
  simp only [Option.bind_some]
  by_cases ha : (z.2.2.1.any fun t => decide (60 < t.2.2.length)) = true
  · rw [if_pos ha]
    exact ⟨true, rfl, fun h => by cases h⟩
  · rw [if_neg ha]
    have hsm : smT z.2.2.1 := by
      intro t ht
      apply Nat.le_of_not_lt
      intro h
      exact ha (List.any_eq_true.2 ⟨t, ht, by simpa using h⟩)
    simp only [Sum.elim_inr]
    rw [law17LongA]
    simp only [Option.bind_some, cond_dec]
    have key : ∀ X : Option Bool, (X = some true ∨ ((z.1.length ≤ 2010 ∧ z.2.1.length ≤ 2010 ∧ z.2.2.1.length ≤ 270 ∧ z.2.2.2.1.length ≤ 110) ∧ X = some (decide (60 < z.2.2.2.2.2.1.length ∨ 60 < z.2.2.2.2.2.2.1.length)))) → ∃ b, X = some b ∧ (b = false → Short z) := by
      rintro X (rfl | ⟨⟨h1, h2, h3, h4⟩, rfl⟩)
      · exact ⟨true, rfl, fun h => by cases h⟩
      · refine ⟨_, rfl, fun h => ?_⟩
        have h := of_decide_eq_false h
        exact ⟨by omega, by omega, by omega, by omega, hsm, by omega, by omega⟩
    apply key
    (repeat' split) <;> first | exact .inl rfl | exact .inr ⟨by omega, rfl⟩
end Go.Sm
/- The reference of zones. No condition. -/
set_option linter.unusedVariables false
namespace Go.Sm
open Go.Proofs





end Go.Sm
/- Right zones; the law ZoneChecks. No condition. -/
set_option linter.unusedVariables false
namespace Go.Sm
open Go.Proofs
/-! ### (horologe/zone.Zone).ends -/
noncomputable abbrev ct_zEnds : List (FuncId × Bool × SpecT) := [(39, false, s_ftAt)]
theorem cs_zEnds : AllSound Tryd.prog ct_zEnds := ⟨so_ftAt, trivial⟩
noncomputable def F_zEnds (x : ((List Int × List Int × List (Int × Bool × List UInt8) × List (Int × Int) × Bool × (List UInt8 × List UInt8 × Int × Int × (Int × Int × Int × Int × Int) × (Int × Int × Int × Int × Int))))) : Option (Int) := (evalF Tryd.prog (lookT ct_zEnds) (keepT []) (loopsT []) false false Tryd.f98 (codP [pZone]) 1 (codP [pE]) x).run
noncomputable abbrev s_zEnds : SpecT := specF (codP [pZone]) 1 (codP [pE]) F_zEnds
theorem so_zEnds : SoundT Tryd.prog 98 s_zEnds := soundG (P := Tryd.prog) mixed (t := ct_zEnds) cs_zEnds (f := 98) (fn := Tryd.f98) Tryd.func98 (by kernel_rfl) (by kernel_rfl) (by kernel_rfl) (ls := []) (by kernel_rfl) (kp := keepT []) (lps := loopsT []) (bump := false) (ice := false) (A := (codP [pZone])) (n := 1) (R := (codP [pE])) fun _ => lps_nil

theorem e_zEnds (z : List Int × List Int × List (Int × Bool × List UInt8) × List (Int × Int) × Bool × (List UInt8 × List UInt8 × Int × Int × (Int × Int × Int × Int × Int) × (Int × Int × Int × Int × Int))) : F_zEnds z = (
  bif decide (IntKind.i64.wrap ((↑(List.length z.fst) : Int) - (1 : Int)) < (0 : Int)) then some (0 : Int)
  else
    (getI z.fst (IntKind.i64.wrap ((↑(List.length z.fst) : Int) - (1 : Int)))).bind fun x1 =>
      (F_ftAt (z.snd.snd.snd.snd.snd, x1)).bind fun x2 =>
        bif decide (x2.snd ≠ (0 : Int)) then some x2.snd
        else
          (getI z.snd.fst (IntKind.i64.wrap ((↑(List.length z.fst) : Int) - (1 : Int)))).bind fun x3 =>
            (getI z.snd.snd.fst x3).bind fun x4 =>
              bif !(decide (x2.fst.fst = x4.fst) && (x2.fst.snd.fst == x4.snd.fst && (decide (x2.fst.snd.snd = x4.snd.snd) && true))) then some (10 : Int) else some (0 : Int)) := by kernel_rfl

/-! ### horologe/zone.Check -/
noncomputable abbrev ct_zCheck : List (FuncId × Bool × SpecT) := [(97, false, s_zParts), (28, false, s_pxCheck), (98, false, s_zEnds)]
theorem cs_zCheck : AllSound Tryd.prog ct_zCheck := ⟨so_zParts, so_pxCheck, so_zEnds, trivial⟩
noncomputable def F_zCheck (x : ((List Int × List Int × List (Int × Bool × List UInt8) × List (Int × Int) × Bool × (List UInt8 × List UInt8 × Int × Int × (Int × Int × Int × Int × Int) × (Int × Int × Int × Int × Int))))) : Option (Int) := (evalF Tryd.prog (lookT ct_zCheck) (keepT []) (loopsT []) false false Tryd.f53 (codP [pZone]) 1 (codP [pE]) x).run
noncomputable abbrev s_zCheck : SpecT := specF (codP [pZone]) 1 (codP [pE]) F_zCheck
theorem so_zCheck : SoundT Tryd.prog 53 s_zCheck := soundG (P := Tryd.prog) mixed (t := ct_zCheck) cs_zCheck (f := 53) (fn := Tryd.f53) Tryd.func53 (by kernel_rfl) (by kernel_rfl) (by kernel_rfl) (ls := []) (by kernel_rfl) (kp := keepT []) (lps := loopsT []) (bump := false) (ice := false) (A := (codP [pZone])) (n := 1) (R := (codP [pE])) fun _ => lps_nil

theorem e_zCheck (z : List Int × List Int × List (Int × Bool × List UInt8) × List (Int × Int) × Bool × (List UInt8 × List UInt8 × Int × Int × (Int × Int × Int × Int × Int) × (Int × Int × Int × Int × Int))) : F_zCheck z = (
  (F_zParts z).bind fun x1 =>
    bif decide (x1 ≠ (0 : Int)) then some x1
    else
      bif !z.snd.snd.snd.snd.fst then
        bif
            !(decide (z.snd.snd.snd.snd.snd.fst = []) &&
                (decide (z.snd.snd.snd.snd.snd.snd.fst = []) &&
                  (decide (z.snd.snd.snd.snd.snd.snd.snd.fst = (0 : Int)) &&
                    (decide (z.snd.snd.snd.snd.snd.snd.snd.snd.fst = (0 : Int)) &&
                      (decide (z.snd.snd.snd.snd.snd.snd.snd.snd.snd.fst.fst = (0 : Int)) &&
                          (decide (z.snd.snd.snd.snd.snd.snd.snd.snd.snd.fst.snd.fst = (0 : Int)) &&
                            (decide (z.snd.snd.snd.snd.snd.snd.snd.snd.snd.fst.snd.snd.fst = (0 : Int)) &&
                              (decide (z.snd.snd.snd.snd.snd.snd.snd.snd.snd.fst.snd.snd.snd.fst = (0 : Int)) &&
                                (decide (z.snd.snd.snd.snd.snd.snd.snd.snd.snd.fst.snd.snd.snd.snd = (0 : Int)) && true)))) &&
                        (decide (z.snd.snd.snd.snd.snd.snd.snd.snd.snd.snd.fst = (0 : Int)) &&
                            (decide (z.snd.snd.snd.snd.snd.snd.snd.snd.snd.snd.snd.fst = (0 : Int)) &&
                              (decide (z.snd.snd.snd.snd.snd.snd.snd.snd.snd.snd.snd.snd.fst = (0 : Int)) &&
                                (decide (z.snd.snd.snd.snd.snd.snd.snd.snd.snd.snd.snd.snd.snd.fst = (0 : Int)) &&
                                  (decide (z.snd.snd.snd.snd.snd.snd.snd.snd.snd.snd.snd.snd.snd.snd = (0 : Int)) && true)))) &&
                          true)))))) then
          some (2 : Int)
        else some (0 : Int)
      else (F_pxCheck z.snd.snd.snd.snd.snd).bind fun x2 => bif decide (x2 ≠ (0 : Int)) then some x2 else (F_zEnds z).bind fun x3 => some x3) := by kernel_rfl

/-! ### horologe/horologelaw19.alive -/
noncomputable abbrev ct_law19alive : List (FuncId × Bool × SpecT) := [(52, false, s_zOf), (53, false, s_zCheck)]
theorem cs_law19alive : AllSound Tryd.prog ct_law19alive := ⟨so_zOf, so_zCheck, trivial⟩
noncomputable def F_law19alive (x : Unit) : Option (Bool) := (evalF Tryd.prog (lookT ct_law19alive) (keepT []) (loopsT []) false false Tryd.f15 (codP []) 1 (codP [pB]) x).run
noncomputable abbrev s_law19alive : SpecT := specF (codP []) 1 (codP [pB]) F_law19alive
theorem so_law19alive : SoundT Tryd.prog 15 s_law19alive := soundG (P := Tryd.prog) mixed (t := ct_law19alive) cs_law19alive (f := 15) (fn := Tryd.f15) Tryd.func15 (by kernel_rfl) (by kernel_rfl) (by kernel_rfl) (ls := []) (by kernel_rfl) (kp := keepT []) (lps := loopsT []) (bump := false) (ice := false) (A := (codP [])) (n := 1) (R := (codP [pB])) fun _ => lps_nil

theorem e_law19alive  : F_law19alive () = (
  (F_zOf ([(85 : UInt8), (84 : UInt8), (67 : UInt8)], [], (0 : Int), (0 : Int), ((0 : Int), (0 : Int), (0 : Int), (0 : Int), (0 : Int)), (0 : Int), (0 : Int), (0 : Int), (0 : Int), (0 : Int))).bind
    fun x1 =>
    bif decide (x1.snd = (0 : Int)) then
      bif decide ((↑(List.length x1.fst.snd.snd.fst) : Int) = (1 : Int)) then
        bif decide ((↑(List.length x1.fst.fst) : Int) = (0 : Int)) then
          bif x1.fst.snd.snd.snd.snd.fst then
            (F_zCheck x1.fst).bind fun x2 =>
              bif decide (x2 = (0 : Int)) then (getI x1.fst.snd.snd.fst (0 : Int)).bind fun x3 => some (decide (x3.snd.snd = [(85 : UInt8), (84 : UInt8), (67 : UInt8)])) else some false
          else some false
        else some false
      else some false
    else some false) := by kernel_rfl

end Go.Sm
/- Plain Lean: right zones; the chapter's zone. -/
set_option linter.unusedVariables false
set_option linter.unusedSimpArgs false
namespace Go.Sm
open Go.Proofs

/-- What is wrong with a zone, but for its plan. -/
def zpB (z : Zon) : Int :=
  if (z.2.2.1.length : Int) = 0 then 8 else
  if 256 < (z.2.2.1.length : Int) then 3 else
  if 2000 < (z.1.length : Int) then 3 else
  if 100 < (z.2.2.2.1.length : Int) then 3 else
  if (z.2.1.length : Int) ≠ (z.1.length : Int) then 2 else
  if z.2.1.any (strangeB z.2.2.1.length) = true then 1 else
  if z.2.2.1.any farB = true then 1 else
  if z.2.2.2.1.any earlyB = true then 1 else
  if z.2.2.1.any unB = true then 2 else
  if 256 < wideL (namesL z.2.2.1) then 3 else
  if riseB z.1 = true then (if corB z.2.2.2.1 = true then 0 else 6) else 6
theorem zParts {z : Zon} (h : Short z) : F_zParts z = some (zpB z) := by
  obtain ⟨s1, s2, s3, s4, s5, _, _⟩ := h
  unfold zpB
  rw [e_zParts, cond_dec]
  split
  · rfl
  · rename_i h0
    have hL : F_zLong z = some (decide (256 < (z.2.2.1.length : Int) ∨ 2000 < (z.1.length : Int) ∨ 100 < (z.2.2.2.1.length : Int))) := by
      rw [e_zLong]
      simp only [cond_dec]
      by_cases h1 : 256 < (z.2.2.1.length : Int)
      · rw [if_pos h1, decide_eq_true (.inl h1)]
      · rw [if_neg h1]
        by_cases h2 : 2000 < (z.1.length : Int)
        · rw [if_pos h2, decide_eq_true (.inr (.inl h2))]
        · rw [if_neg h2]
          congr 1
          exact decide_eq_decide.2 (by omega)
    rw [hL]
    simp only [Option.bind_some]
    rw [cond_dec]
    by_cases h1 : 256 < (z.2.2.1.length : Int)
    · rw [if_pos (.inl h1), if_pos h1]
    · rw [if_neg h1]
      by_cases h2 : 2000 < (z.1.length : Int)
      · rw [if_pos (.inr (.inl h2)), if_pos h2]
      · rw [if_neg h2]
        by_cases h3 : 100 < (z.2.2.2.1.length : Int)
        · rw [if_pos (.inr (.inr h3)), if_pos h3]
        · rw [if_neg h3, if_neg (by omega), cond_dec]
          split
          · rfl
          · rw [e_zRanged, cnStrange _ _ (by unfold midL; omega)]
            simp only [Option.bind_some]
            cases hk : z.2.1.any (strangeB z.2.2.1.length)
            · rw [cnFar _ (by unfold midL; omega)]
              simp only [Option.bind_some, Bool.not_false, cond_true]
              cases hf : z.2.2.1.any farB
              · rw [cnEarly _ (by unfold midL; omega)]
                simp only [Option.bind_some, Bool.not_false, cond_true]
                cases he : z.2.2.2.1.any earlyB
                · simp only [Option.bind_some, Bool.not_false, Bool.not_true, cond_false]
                  rw [e_zNamed, cnUnnamed _ (by unfold midL; omega) s5]
                  simp only [Option.bind_some]
                  cases hu : z.2.2.1.any unB
                  · simp only [Option.bind_some, Bool.not_false, Bool.not_true, cond_false]
                    rw [zWide z (by omega) s5]
                    simp only [Option.bind_some]
                    simp only [Bool.false_eq_true, if_false]
                    rw [cond_dec]
                    split
                    · rfl
                    · rw [zOrdered z (by unfold midL; omega) (by omega)]
                      simp only [Option.bind_some]
                      cases riseB z.1 <;> cases corB z.2.2.2.1 <;> rfl
                  · rfl
                · rfl
              · rfl
            · rfl
theorem zpB_zero {z : Zon} (h : zpB z = 0) : z.2.2.1.length ≠ 0 ∧ z.2.2.1.length ≤ 256 ∧ z.1.length ≤ 2000 ∧ z.2.2.2.1.length ≤ 100 ∧ z.2.1.length = z.1.length ∧ z.2.1.any (strangeB z.2.2.1.length) = false ∧ z.2.2.1.any farB = false ∧ z.2.2.2.1.any earlyB = false ∧ z.2.2.1.any unB = false ∧
    wideL (namesL z.2.2.1) ≤ 256 ∧ riseB z.1 = true ∧ corB z.2.2.2.1 = true := by
  unfold zpB at h
  by_cases a1 : (z.2.2.1.length : Int) = 0
  · rw [if_pos a1] at h; omega
  rw [if_neg a1] at h
  by_cases a2 : 256 < (z.2.2.1.length : Int)
  · rw [if_pos a2] at h; omega
  rw [if_neg a2] at h
  by_cases a3 : 2000 < (z.1.length : Int)
  · rw [if_pos a3] at h; omega
  rw [if_neg a3] at h
  by_cases a4 : 100 < (z.2.2.2.1.length : Int)
  · rw [if_pos a4] at h; omega
  rw [if_neg a4] at h
  by_cases a5 : (z.2.1.length : Int) = (z.1.length : Int)
  case neg => rw [if_pos a5] at h; omega
  rw [if_neg (by omega)] at h
  cases a6 : z.2.1.any (strangeB z.2.2.1.length)
  case true => rw [if_pos a6] at h; omega
  rw [if_neg (by rw [a6]; decide)] at h
  cases a7 : z.2.2.1.any farB
  case true => rw [if_pos a7] at h; omega
  rw [if_neg (by rw [a7]; decide)] at h
  cases a8 : z.2.2.2.1.any earlyB
  case true => rw [if_pos a8] at h; omega
  rw [if_neg (by rw [a8]; decide)] at h
  cases a9 : z.2.2.1.any unB
  case true => rw [if_pos a9] at h; omega
  rw [if_neg (by rw [a9]; decide)] at h
  by_cases a10 : 256 < wideL (namesL z.2.2.1)
  · rw [if_pos a10] at h; omega
  rw [if_neg a10] at h
  cases a11 : riseB z.1
  case false => rw [if_neg (by rw [a11]; decide)] at h; omega
  rw [if_pos a11] at h
  cases a12 : corB z.2.2.2.1
  case false => rw [if_neg (by rw [a12]; decide)] at h; omega
  exact ⟨by omega, by omega, by omega, by omega, by omega, rfl, rfl, rfl, rfl, by omega, rfl, rfl⟩
theorem getI_last {l : List Int} (h0 : l.length ≠ 0) (hl : l.length ≤ 1000000) : getI l (IntKind.i64.wrap ((l.length : Int) - 1)) = some (l[l.length - 1]'(by omega)) := by
  rw [wrap_i64 (by omega) (by omega), show ((l.length : Int) - 1) = ((l.length - 1 : Nat) : Int) by omega, getI_at]
abbrev wfT (z : Zon) : Prop := ∀ t ∈ z.1, i64 t
theorem ft_some {p : Pln} (hp : pck p = 0) (h1 : small p.1) (h2 : small p.2.1) {t : Int} (ht : i64 t) : ∃ l e, F_ftAt (p, t) = some (l, e) := by
  by_cases hd : dated t
  · obtain ⟨y, hy, hy1, hy2⟩ := year_ex _ hd
    by_cases hs : p.2.1 = []
    · exact ⟨_, _, ftAt_one hp hs h1 ht hd⟩
    · have h : Two p := ⟨hp, hs⟩
      obtain ⟨kB, b1, b2⟩ := near_ex (tB_next h) (tB_range h) hy1 hy2
      obtain ⟨kE, e1, e2⟩ := near_ex (tE_next h) (tE_range h) hy1 hy2
      exact ⟨_, _, ftAt_two h h1 h2 ht hd b1 b2 e1 e2⟩
  · exact ⟨_, _, ftAt_bad hp h1 h2 ht hd⟩
/-- The program says whether a zone is right. -/
theorem check_some {z : Zon} (h : Short z) (hw : wfT z) : ∃ v, F_zCheck z = some v ∧ (zpB z ≠ 0 → v = zpB z) := by
  have hs := h
  obtain ⟨s1, s2, s3, s4, s5, s6, s7⟩ := h
  have h1 : small z.2.2.2.2.2.1 := by unfold small; omega
  have h2 : small z.2.2.2.2.2.2.1 := by unfold small; omega
  rw [e_zCheck, zParts hs]
  simp only [Option.bind_some]
  by_cases hz : zpB z = 0
  · obtain ⟨a1, a2, a3, a4, a5, a6, _⟩ := zpB_zero hz
    rw [cond_dec, if_neg (by simp [hz])]
    have key : ∀ {X : Option Int}, (∃ v, X = some v) → ∃ v, X = some v ∧ (zpB z ≠ 0 → v = zpB z) := fun ⟨v, q⟩ => ⟨v, q, fun hne => absurd hz hne⟩
    apply key
    cases z.2.2.2.2.1 with
    | false =>
      have one : ∀ {c : Bool} {x y : Int}, ∃ v, (bif c then some x else some y) = some v := by
        intro c x y
        cases c
        · exact ⟨y, rfl⟩
        · exact ⟨x, rfl⟩
      exact one
    | true =>
      simp only [Bool.not_true, cond_false]
      rw [pxCheck _ h1 h2]
      simp only [Option.bind_some]
      rw [cond_dec]
      by_cases hp : pck z.2.2.2.2.2 = 0
      · rw [if_neg (by simp [hp]), e_zEnds]
        by_cases hn : z.1.length = 0
        · rw [cond_dec, if_pos (by rw [hn]; decide)]
          exact ⟨0, rfl⟩
        · rw [cond_dec, if_neg (by rw [wrap_i64 (by omega) (by omega)]; omega), getI_last hn (by omega)]
          simp only [Option.bind_some]
          have hlen : IntKind.i64.wrap ((z.1.length : Int) - 1) = IntKind.i64.wrap ((z.2.1.length : Int) - 1) := by rw [a5]
          have ht : i64 (z.1[z.1.length - 1]'(by omega)) := hw _ (List.getElem_mem _)
          generalize z.1[z.1.length - 1]'(by omega) = t at ht ⊢
          obtain ⟨l, e, q1⟩ := ft_some hp h1 h2 ht
          rw [q1]
          simp only [Option.bind_some]
          rw [cond_dec]
          by_cases he : e = 0
          · rw [if_neg (by simp [he])]
            have hk : ∃ k, getI z.2.1 (IntKind.i64.wrap ((z.1.length : Int) - 1)) = some k ∧ strangeB z.2.2.1.length k = false := by
              rw [hlen, getI_last (by omega) (by omega)]
              refine ⟨_, rfl, ?_⟩
              cases hq : strangeB z.2.2.1.length (z.2.1[z.2.1.length - 1]'(by omega)) with
              | false => rfl
              | true =>
                have := List.any_eq_true.2 ⟨_, List.getElem_mem (show z.2.1.length - 1 < z.2.1.length by omega), hq⟩
                rw [a6] at this
                cases this
            obtain ⟨k, k1, k2⟩ := hk
            rw [k1]
            simp only [Option.bind_some]
            unfold strangeB at k2
            simp only [Bool.or_eq_false_iff, decide_eq_false_iff_not] at k2
            have hkn : k = ((k.toNat : Nat) : Int) := by omega
            obtain ⟨x, hx⟩ : ∃ x, getI z.2.2.1 k = some x := ⟨_, (congrArg (getI z.2.2.1) hkn).trans (getI_at (by omega))⟩
            rw [hx]
            simp only [Option.bind_some]
            cases (!(decide (l.fst = x.fst) && (l.snd.fst == x.snd.fst && (decide (l.snd.snd = x.snd.snd) && true)))) with
            | true => exact ⟨10, rfl⟩
            | false => exact ⟨0, rfl⟩
          · rw [if_pos he]
            exact ⟨e, rfl⟩
      · rw [if_pos hp]
        exact ⟨_, rfl⟩
  · rw [cond_dec, if_pos hz]
    exact ⟨_, rfl, fun _ => rfl⟩
/-! ### The chapter's example; the law -/
def utcP : Pln := ([85, 84, 67], [], 0, 0, (0, 0, 0, 0, 0), (0, 0, 0, 0, 0))
def utcZ : Zon := ([], [], [(0, false, [85, 84, 67])], [], true, utcP)
theorem utc_pck : pck utcP = 0 := by decide +kernel
theorem utc_zp : zpB utcZ = 0 := by decide +kernel
theorem utc_short : Short utcZ := ⟨by decide, by decide, by decide, by decide, by intro t ht; simp [utcZ] at ht; subst ht; decide, by decide, by decide⟩
theorem zOf {p : Pln} (h1 : small p.1) (h2 : small p.2.1) (hp : pck p = 0) : F_zOf p = some (([], [], [(p.2.2.1, false, p.1)], [], true, p), 0) := by
  rw [e_zOf, pxCheck p h1 h2]
  simp only [Option.bind_some]
  rw [cond_dec, if_neg (by simp [hp])]
theorem utc_check : F_zCheck utcZ = some 0 := by
  rw [e_zCheck, zParts utc_short, utc_zp]
  simp only [Option.bind_some]
  rw [cond_dec, if_neg (by simp)]
  have h1 : small utcZ.2.2.2.2.2.1 := by decide
  have h2 : small utcZ.2.2.2.2.2.2.1 := by decide
  rw [pxCheck _ h1 h2]
  show (bif false then _ else (some (pck utcP)).bind _) = _
  rw [utc_pck, e_zEnds]
  rfl
theorem law19alive : F_law19alive () = some true := by
  have h : F_zOf utcP = some (utcZ, 0) := zOf (by decide) (by decide) utc_pck
  have key : ∀ x1 : Zon × Int, x1 = (utcZ, 0) → (bif decide (x1.2 = (0 : Int)) then bif decide ((x1.1.2.2.1.length : Int) = (1 : Int)) then bif decide ((x1.1.1.length : Int) = (0 : Int)) then bif x1.1.2.2.2.2.1 then
      (F_zCheck x1.1).bind fun x2 => bif decide (x2 = (0 : Int)) then (getI x1.1.2.2.1 (0 : Int)).bind fun x3 => some (decide (x3.2.2 = [(85 : UInt8), (84 : UInt8), (67 : UInt8)])) else some false
      else some false else some false else some false else some false) = some true := by
    rintro _ rfl
    have g1 : utcZ.2.2.1.length = 1 := rfl
    have g2 : utcZ.1.length = 0 := rfl
    have g3 : utcZ.2.2.2.2.1 = true := rfl
    have g4 : utcZ.2.2.1 = [(0, false, [85, 84, 67])] := rfl
    dsimp only
    rw [cond_dec, if_pos rfl, g1, cond_dec, if_pos (by omega), g2, cond_dec, if_pos (by omega), g3, cond_true, utc_check, Option.bind_some, cond_dec, if_pos rfl, g4]
    rfl
  have h' : F_zOf ([(85 : UInt8), (84 : UInt8), (67 : UInt8)], [], (0 : Int), (0 : Int), ((0 : Int), (0 : Int), (0 : Int), (0 : Int), (0 : Int)), (0 : Int), (0 : Int), (0 : Int), (0 : Int), (0 : Int)) = some (utcZ, 0) := h
  rw [e_law19alive, h', Option.bind_some]
  exact key _ rfl
end Go.Sm
/- slices.Clone: whether the slice is nil need not be known. Conditions: the function's text is Clone's, and its second half is evaluated. -/
set_option linter.unusedVariables false
set_option linter.unusedSimpArgs false
set_option linter.unusedSectionVars false
namespace Go.Sm

section
variable {P : Program} (hm : P.follows .mixedOrders = true) {cal : CalT} (hcal : ∀ f p, cal f = some p → SoundT P f p.2)
include hm hcal
/-- A function's end. -/
theorem end_sound {fn : Func} {M : Mem} {e : RR} {H : List AB} {w : World} {s0 : Nat} (hB : Begin M e H w) {bump ice : Bool} {ex : Ex} {st : St} {r : AV} {H' : List AB} (hend : (endT P fn.results.toList H.length bump ice ex st).run = some (r, H')) {a' : Act} {M' : Mem} {e' : RR} {w' : World} (hA' : At M e H w s0 st M' e' w' a')
    {R : Ending → World → Prop} (hR : ∀ c M'' e'', Tr M e H w M'' e'' H' w' → VR M'' e'' r c → R (.returned c) w') : bodyPost P fn R ex.out a' w' := by
  unfold endT at hend
  split at hend
  · exact (run_no hend).elim
  rename_i hnext
  split at hend
  · exact (run_no hend).elim
  rename_i vals hvals
  obtain ⟨cs, hrun, hcs⟩ := resL_sound hm hcal hA'.tr.hr hA'.env hvals
  have hice : ∃ M2, Tr M e H w M2 e' (iceL true st.H (lendFb ice st.H vals)) w' ∧ CR M2 e' (lendArgs ice st.H vals) cs.toArray := by
    cases ice with
    | false => exact ⟨M', hA'.tr, hcs⟩
    | true =>
      obtain ⟨M2, h1, _⟩ := ice_sound (fb := softB st.H (lentL st.H vals)) hA'.tr.hr
      exact ⟨M2, hA'.tr.trans h1, thawL_sound h1.mle h1.hr hcs fun b hb ice k c l hbb => lent_ice hb hbb⟩
  obtain ⟨M2, hT2, hcs2⟩ := hice
  have hres : ∀ v, (v = if h : cs.toArray.size = 1 then cs.toArray[0] else .tuple cs.toArray) → (results fn a'.tmps).run P w' = .ok v w' := by
    intro v hv
    show (do let vs ← fn.results.mapM (resM a'.tmps); pure (if h : vs.size = 1 then vs[0] else .tuple vs) : Sem Value).run P w' = _
    rw [← Array.toArray_toList (xs := fn.results), List.mapM_toArray]
    simp only [Sem.run_bind, Sem.run_map, hrun, Result.andThen_ok, Sem.run_pure, hv]
  have hpost : ∀ v, (v = if h : cs.toArray.size = 1 then cs.toArray[0] else .tuple cs.toArray) → (∃ M'' e'', Tr M e H w M'' e'' H' w' ∧ VR M'' e'' r v) → bodyPost P fn R ex.out a' w' := by
    intro v hv hh
    obtain ⟨M'', e'', h1, h2⟩ := hh
    cases ex with
    | nrm => exact ⟨hA'.defers, v, hres v hv, hR v M'' e'' h1 h2⟩
    | ret => exact ⟨hA'.defers, v, hres v hv, hR v M'' e'' h1 h2⟩
    | ext id => exact (hnext id rfl).elim
  split at hend
  · rename_i v H1 hgc
    obtain ⟨rfl, rfl⟩ := Prod.mk.inj (run_ret hend)
    obtain ⟨e'', h1, h2, h3, h4, h5⟩ := gc_sound hT2.hr (Tr.len_le hB hT2) hcs2 hgc
    have hsize := h2.size
    simp at hsize
    obtain ⟨c0, rfl⟩ : ∃ c0, cs = [c0] := by
      match cs, hsize with
      | [c0], _ => exact ⟨c0, rfl⟩
    exact hpost c0 rfl ⟨M2, e'', hT2.keep hB h1 h3 h4 h5, h2.get 0 _ _ rfl rfl⟩
  · rename_i vs' H1 hne hgc
    obtain ⟨rfl, rfl⟩ := Prod.mk.inj (run_ret hend)
    obtain ⟨e'', h1, h2, h3, h4, h5⟩ := gc_sound hT2.hr (Tr.len_le hB hT2) hcs2 hgc
    have hn1 : ¬ cs.toArray.size = 1 := by
      intro h1
      have := h2.size
      rw [h1] at this
      obtain ⟨x, rfl⟩ : ∃ x, vs' = [x] := by
        match vs', this with
        | [x], _ => exact ⟨x, rfl⟩
      exact hne x rfl
    exact hpost (.tuple cs.toArray) (by rw [dif_neg hn1]) ⟨M2, e'', hT2.keep hB h1 h3 h4 h5, .tup h2.size h2.get⟩
  · exact (run_no hend).elim
end
/-- A slice beside nil. -/
theorem nil_run {P : Program} {t e : TypeId} (hu : P.underlying t = some (.slice e)) {a : Option Addr} {n c : Nat} {w : World} : (Op.equal t (.slice a n c) (.slice none 0 0)).run P w = .ok a.isNone w := by
  have hru : (underlying t).run P w = .ok (.slice e) w := by simp [underlying, hu]
  unfold Op.equal Op.maxDepth
  cases a <;> rw [Op.equalIn] <;> simp only [Sem.run_bind, hru, Result.andThen_ok, Sem.run_pure, Option.isNone]

/-- Clone's first half: it asks whether the slice is nil. -/
def cloneO0 (t : TypeId) (p0 : String) : Oper := { dst := some 2, op := .assign (.const (.slice none 0 0)), type := t, pos := p0, after := #[], guard := none }
def cloneO1 (t : TypeId) (p1 : String) : Oper := { dst := some 3, op := .move (.tmp 0), type := t, pos := p1, after := #[], guard := none }
def cloneO2 (t tb : TypeId) (p2 : String) : Oper := { dst := some 4, op := .binOp .eql t (.tmp 3) (.const (.slice none 0 0)) t, type := tb, pos := p2, after := #[{ on := 0, ground := .data }], guard := none }
def cloneX (t : TypeId) (p3 : String) : Code := .cond (.tmp 4) (.seq (.region 2 #[cloneO0 t p3] false) .ret) .skip
def cloneC (t tb : TypeId) (p0 p1 p2 p3 : String) (rest : Code) : Code :=
  .seq (.region 0 #[cloneO0 t p0] false) (.seq (.seq (.region 1 #[cloneO1 t p1, cloneO2 t tb p2] false) (cloneX t p3)) rest)
def cloneE (x : AV) (b : Bool) : Env := upd (upd (upd (envOf [x] 0) 2 .nils) 3 x) 4 (.bool b)
theorem same_refl : ∀ c : Cd, Cd.same c c = some ⟨rfl⟩ := by
  intro c
  induction c with
  | int k => simp [Cd.same]
  | lst c ih => simp [Cd.same, ih]
  | one c ih => simp [Cd.same, ih]
  | pair a b iha ihb => simp [Cd.same, iha, ihb]
  | _ => rfl
theorem castL_refl {c : Cd} (l : List (τ c)) : castL l c = some l := by
  unfold castL
  rw [same_refl]
theorem clone_sound {P : Program} (hm : P.follows .mixedOrders = true) {f : FuncId} {fn : Func} {t tb el : TypeId} {p0 p1 p2 p3 : String} {rest : Code} (hf : P.funcs[f]? = some fn) (hb : fn.body = some (cloneC t tb p0 p1 p2 p3 rest)) (hname : (fn.name == "runtime.NumGoroutine") = false) (hu : P.underlying t = some (.slice el))
    (hnt : 5 ≤ fn.ntmps) (hres : fn.results.toList = [.tmp 2]) (hok : codeOk P fn.ntmps rest = true) (hlo : loopsOf rest = []) {c : Cd} {n : Nat}
    (h3 : ∀ l : List (τ c), (evT P (fun _ => none) (keepT []) (loopsT []) 0 false rest ⟨cloneE (.lst c l) false, []⟩ (endT P [.tmp 2] 0 false false)).run = cond (roomB 0 l.length n) (some (.slc 0 0, [.arr false 0 c l])) none) :
    SoundT P f (specF (codP [.pure (.lst c)]) 1 (codP [.own c]) fun l => cond (roomB 0 (l : List (τ c)).length n) (some l) none) := by
  have hcal : ∀ f p, (fun _ => none : CalT) f = some p → SoundT P f p.2 := fun f p h => by cases h
  refine specF_of fun (l : List (τ c)) y hy => ?_
  have hroom : roomB 0 l.length n = true ∧ y = l := by
    cases hq : roomB 0 l.length n with
    | true => simp only [hq] at hy; exact ⟨rfl, (Option.some.inj hy).symm⟩
    | false => simp only [hq] at hy; cases hy
  obtain ⟨hroom, rfl⟩ := hroom
  refine ⟨.slc 0 0, [.arr false 0 c y], [.slc 0 0], ?_, rfl, ?_⟩
  case refine_2 =>
    show (codP [.own c]).dec [.slc 0 0] [.arr false 0 c y] = some y
    have hc : castL y c = some y := castL_refl y
    simp [codP, decI, dec1, hc]
  have h3 := h3 y
  rw [hroom] at h3
  refine ⟨⟨fn, hf, by rw [hb]; rfl, hname⟩, fun M e w vs hr hargs => ?_⟩
  have hargs : CR M e [.lst c y] vs := hargs
  have hr : HR M e [] w := hr
  have hB : Begin M e [] w := ⟨hr, rfl⟩
  obtain ⟨cx, rfl, hcx⟩ : ∃ v, vs = #[v] ∧ VR M e (.lst c y) v := by
    have hs := hargs.size
    obtain ⟨v, rfl⟩ : ∃ v, vs = #[v] := Array.size_eq_one_iff.1 (by simpa using hs.symm)
    exact ⟨v, rfl, hargs.get 0 _ v rfl rfl⟩
  refine calls_of_wp hf hb ?_
  have hA : At M e [] w (1 + (fn.ntmps - 1)) ⟨envOf [.lst c y] 0, []⟩ M e w { tmps := #[cx] ++ Array.replicate (fn.ntmps - 1) undef, defers := [] } := by
    refine ⟨Tr.refl hr, envOf_sound hm hcal [.lst c y] 0 fun i x hx => ?_, by simp, rfl⟩
    cases i with
    | zero =>
      simp at hx
      subst hx
      rw [Array.getD_eq_getD_getElem?, Array.getElem?_append_left (by simp)]
      exact hcx
    | succ i => simp at hx
  have hs0 : fn.ntmps ≤ 1 + (fn.ntmps - 1) := by omega
  have hs1 : 5 ≤ 1 + (fn.ntmps - 1) := by omega
  generalize hsg : 1 + (fn.ntmps - 1) = s0 at hA hs0 hs1
  have hin : ∀ (o : Oper) (d : Nat), o.dst = some d → d < 5 → opsIn fn.ntmps #[o] = true := by
    intro o d hd hlt
    simp [opsIn, hd]
    exact Nat.lt_of_lt_of_le hlt hnt
  -- the end
  have hend : ∀ ex st' a' M' e' w', (endT P [.tmp 2] 0 false false ex st').run = some (.slc 0 0, [.arr false 0 c y]) → At M e [] w s0 st' M' e' w' a' →
      bodyPost P fn (fun en w' => ∃ cv M' e', en = .returned cv ∧ Tr M e [] w M' e' [.arr false 0 c y] w' ∧ VR M' e' (.slc 0 0) cv) ex.out a' w' := by
    intro ex st' a' M' e' w' he hA'
    exact end_sound hm hcal (fn := fn) hB (bump := false) (ice := false) (by rw [hres]; exact he) hA' fun cv M'' e'' hT hv => ⟨cv, M'', e'', rfl, hT, hv⟩
  show (cloneC t tb p0 p1 p2 p3 rest).wp P _ _ w
  refine wp_seq ?_
  refine evT_sound hm hcal (kp := keepT []) (lps := loopsT []) (bump := false) hB (nt := fn.ntmps) hs0 (.region 0 #[cloneO0 t p0] false) (by rw [codeOk, hin _ 2 rfl (by omega)]; rfl) trivial (st := ⟨envOf [.lst c y] 0, []⟩) (K := fun ex st => .ret (ex, st)) (r := (.nrm, ⟨upd (envOf [.lst c y] 0) 2 .nils, []⟩)) rfl hA fun ex st1 a1 M1 e1 w1 hK1 hA1 => ?_
  obtain ⟨rfl, rfl⟩ := Prod.mk.inj (run_ret hK1)
  show (Code.seq (.seq (.region 1 #[cloneO1 t p1, cloneO2 t tb p2] false) (cloneX t p3)) rest).wp P _ a1 w1
  refine wp_seq ?_
  refine wp_seq ?_
  refine wp_region_list ?_
  -- the slice is moved
  have hQ : ∀ Q : Exit → Act → World → Prop, (∀ b M2 e2 w2 a3, (b = true → y = []) → At M e [] w s0 ⟨cloneE (.lst c y) b, []⟩ M2 e2 w2 a3 → Q .normal a3 w2) → wpList P #[cloneO1 t p1, cloneO2 t tb p2] Q [cloneO1 t p1, cloneO2 t tb p2] a1 w1 := by
    intro Q hQ
    have key := oneA_put (P := P) (cal := fun _ => none) hcal (ops := #[cloneO1 t p1, cloneO2 t tb p2]) (o := cloneO1 t p1) (st := ⟨upd (envOf [.lst c y] 0) 2 .nils, []⟩) (st' := ⟨upd (upd (envOf [.lst c y] 0) 2 .nils) 3 (.lst c y), []⟩) (k := false) rfl hA1.tr.hr hA1.env
      (fun d hd => by
        have : 3 = d := Option.some.inj hd
        rw [hA1.size, ← this]
        exact Nat.lt_of_lt_of_le (by decide) hs1)
      (K := wpList P #[cloneO1 t p1, cloneO2 t tb p2] Q [cloneO2 t tb p2]) (Q := Q) fun cv M2 e2 w2 hT2 hE2 => by
        have hA2 : At M e [] w s0 ⟨upd (upd (envOf [.lst c y] 0) 2 .nils) 3 (.lst c y), []⟩ M2 e2 w2 (a1.put (some 3) cv) := ⟨hA1.tr.trans hT2, hE2, put_size.trans hA1.size, put_defers.trans hA1.defers⟩
        show wpList P #[cloneO1 t p1, cloneO2 t tb p2] Q [cloneO2 t tb p2] (a1.put (some 3) cv) w2
        generalize a1.put (some 3) cv = a2 at hA2
        -- is it nil?
        have hv3 := hA2.env 3 (.lst c y) rfl
        obtain ⟨ad, m, cap, hq, hcase⟩ : ∃ ad m cap, a2.tmps.getD 3 undef = .slice ad m cap ∧ (ad.isNone = true → y = []) := by
          generalize a2.tmps.getD 3 undef = q at hv3
          cases hv3 with
          | @lst _ _ _ a n cap g o ff hn hc hl hv =>
            refine ⟨a, n, cap, rfl, fun hnone => ?_⟩
            cases hy : y with
            | nil => rfl
            | cons z zs =>
              have := hl.at_ (by rw [hy]; simp)
              rw [this] at hnone
              cases hnone
        have hbin : (execOp a2.eval (cloneO2 t tb p2)).run P w2 = .ok (.value (.bool ad.isNone)) w2 := by
          have h3e : a2.eval (.tmp 3) = .slice ad m cap := hq
          have h4e : a2.eval (.const (.slice none 0 0)) = .slice none 0 0 := rfl
          have heq := nil_run (P := P) (w := w2) hu (a := ad) (n := m) (c := cap)
          simp only [execOp, cloneO2, h3e, h4e]
          simp [eqGuard, binOp, heq]
        unfold wpList
        rw [if_pos (show Region.wanted (cloneO2 t tb p2) _ = true from rfl)]
        refine .inl ?_
        unfold Oper.wp
        rw [hbin, Oper.upon_value]
        exact hQ ad.isNone M2 e2 w2 _ hcase ⟨hA2.tr, hA2.env.put (d := 4) .bool (by rw [hA2.size]; omega), put_size.trans hA2.size, put_defers.trans hA2.defers⟩
    unfold wpList
    split
    · rename_i hw; rw [if_pos hw] at key; exact .inl key
    · rename_i hw; rw [if_neg hw] at key; exact key
  refine hQ _ fun b M2 e2 w2 a3 hcase hA3 => ?_
  show (cloneX t p3).wp P _ a3 w2
  have hokx : codeOk P fn.ntmps (cloneX t p3) = true := by
    unfold cloneX
    simp only [codeOk, hin (cloneO0 t p3) 2 rfl (by omega)]
    rfl
  cases b with
  | false =>
    refine evT_sound hm hcal (kp := keepT []) (lps := loopsT []) (bump := false) hB (nt := fn.ntmps) hs0 (cloneX t p3) hokx trivial (st := ⟨cloneE (.lst c y) false, []⟩) (K := fun ex st => .ret (ex, st.env, st.H)) (r := (.nrm, cloneE (.lst c y) false, [])) ?_ hA3 fun ex st4 a4 M4 e4 w4 hK4 hA4 => ?_
    · have hkn : St.knowO ⟨cloneE (.lst c y) false, []⟩ (.tmp 4) false = ⟨cloneE (.lst c y) false, []⟩ := knowO_eq (st := ⟨cloneE (.lst c y) false, []⟩) (x := .tmp 4) (b := false) rfl
      show ((DT.ite false _ (DT.ret (Ex.nrm, (St.knowO ⟨cloneE (.lst c y) false, []⟩ (.tmp 4) false).env, (St.knowO ⟨cloneE (.lst c y) false, []⟩ (.tmp 4) false).H)))).run = _
      rw [hkn]
      rfl
    · obtain ⟨en, HH⟩ := st4
      have hK4 := run_ret hK4
      simp only [Prod.mk.injEq] at hK4
      obtain ⟨rfl, rfl, rfl⟩ := hK4
      show rest.wp P _ a4 w4
      exact evT_sound hm hcal (kp := keepT []) (lps := loopsT []) (bump := false) hB (nt := fn.ntmps) hs0 rest hok (by rw [hlo]; trivial) h3 hA4 fun ex st' a' M' e' w' hK hA' => hend ex st' a' M' e' w' hK hA'
  | true =>
    obtain rfl := hcase rfl
    refine evT_sound hm hcal (kp := keepT []) (lps := loopsT []) (bump := false) hB (nt := fn.ntmps) hs0 (cloneX t p3) hokx trivial (st := ⟨cloneE (.lst c []) true, []⟩) (K := fun ex st => (endT P [.tmp 2] 0 false false ex st).bind fun r => .ret (ex, r)) (r := (.ret, .nils, [])) rfl hA3 fun ex st4 a4 M4 e4 w4 hK4 hA4 => ?_
    obtain ⟨⟨q1, q2⟩, hK4, hq⟩ := bind_run hK4
    have hq := run_ret hq
    simp only [Prod.mk.injEq] at hq
    obtain ⟨rfl, rfl, rfl⟩ := hq
    show bodyPost P fn (fun en w' => ∃ cv M' e', en = .returned cv ∧ Tr M e [] w M' e' [.arr false 0 c []] w' ∧ VR M' e' (.slc 0 0) cv) (Ex.out .ret) a4 w4
    refine end_sound hm hcal (fn := fn) hB (bump := false) (ice := false) (r := .nils) (H' := []) (by rw [hres]; exact hK4) hA4 fun cv M'' e'' hT hv => ?_
    cases hv with
    | @nils _ ad => exact ⟨_, M'', _, rfl, hT.trans (Tr.pushNil hT.hr (sizeC_pos c)), nil_pushG hT.hr⟩
end Go.Sm
/- Copies of zones. No condition. -/
set_option linter.unusedVariables false
namespace Go.Sm
open Go.Proofs

def cloneR (fn : Func) : Code := match fn.body with | some (.seq _ (.seq _ r)) => r | _ => .skip
noncomputable def F_clA (l : List Int) : Option (List Int) := cond (roomB 0 l.length 8) (some l) none
noncomputable abbrev s_clA : SpecT := specF (codP [.pure (.lst cI)]) 1 (codP [.own cI]) F_clA
theorem so_clA : SoundT Tryd.prog 59 s_clA := clone_sound (c := cI) (n := 8) (t := 39) (tb := 4) (el := 2) (p0 := "slices.go:355") (p1 := "slices.go:357") (p2 := "slices.go:357") (p3 := "slices.go:358") (rest := cloneR Tryd.f59) mixed Tryd.func59 (by kernel_rfl) (by kernel_rfl) (by kernel_rfl) (by decide) (by kernel_rfl) (by kernel_rfl) (by kernel_rfl) fun l => by kernel_rfl

noncomputable def F_clB (l : List Int) : Option (List Int) := cond (roomB 0 l.length 8) (some l) none
noncomputable abbrev s_clB : SpecT := specF (codP [.pure (.lst cI)]) 1 (codP [.own cI]) F_clB
theorem so_clB : SoundT Tryd.prog 60 s_clB := clone_sound (c := cI) (n := 8) (t := 40) (tb := 4) (el := 3) (p0 := "slices.go:355") (p1 := "slices.go:357") (p2 := "slices.go:357") (p3 := "slices.go:358") (rest := cloneR Tryd.f60) mixed Tryd.func60 (by kernel_rfl) (by kernel_rfl) (by kernel_rfl) (by decide) (by kernel_rfl) (by kernel_rfl) (by kernel_rfl) fun l => by kernel_rfl

noncomputable def F_clT (l : List (Int × Bool × List UInt8)) : Option (List (Int × Bool × List UInt8)) := cond (roomB 0 l.length 32) (some l) none
noncomputable abbrev s_clT : SpecT := specF (codP [.pure (.lst cTyp)]) 1 (codP [.own cTyp]) F_clT
theorem so_clT : SoundT Tryd.prog 61 s_clT := clone_sound (c := cTyp) (n := 32) (t := 41) (tb := 4) (el := 101) (p0 := "slices.go:355") (p1 := "slices.go:357") (p2 := "slices.go:357") (p3 := "slices.go:358") (rest := cloneR Tryd.f61) mixed Tryd.func61 (by kernel_rfl) (by kernel_rfl) (by kernel_rfl) (by decide) (by kernel_rfl) (by kernel_rfl) (by kernel_rfl) fun l => by kernel_rfl

noncomputable def F_clC (l : List (Int × Int)) : Option (List (Int × Int)) := cond (roomB 0 l.length 16) (some l) none
noncomputable abbrev s_clC : SpecT := specF (codP [.pure (.lst cCor)]) 1 (codP [.own cCor]) F_clC
theorem so_clC : SoundT Tryd.prog 62 s_clC := clone_sound (c := cCor) (n := 16) (t := 42) (tb := 4) (el := 107) (p0 := "slices.go:355") (p1 := "slices.go:357") (p2 := "slices.go:357") (p3 := "slices.go:358") (rest := cloneR Tryd.f62) mixed Tryd.func62 (by kernel_rfl) (by kernel_rfl) (by kernel_rfl) (by decide) (by kernel_rfl) (by kernel_rfl) (by kernel_rfl) fun l => by kernel_rfl

/-! ### horologe/zone.Copy -/
noncomputable abbrev ct_zCopy : List (FuncId × Bool × SpecT) := [(59, false, s_clA), (60, false, s_clB), (61, false, s_clT), (62, false, s_clC)]
theorem cs_zCopy : AllSound Tryd.prog ct_zCopy := ⟨so_clA, so_clB, so_clT, so_clC, trivial⟩
noncomputable def F_zCopy (x : ((List Int × List Int × List (Int × Bool × List UInt8) × List (Int × Int) × Bool × (List UInt8 × List UInt8 × Int × Int × (Int × Int × Int × Int × Int) × (Int × Int × Int × Int × Int))))) : Option (((List Int) × (List Int) × (List (Int × Bool × List UInt8)) × (List (Int × Int)) × (Bool × (List UInt8 × List UInt8 × Int × Int × (Int × Int × Int × Int × Int) × (Int × Int × Int × Int × Int))))) := (evalF Tryd.prog (lookT ct_zCopy) (keepT []) (loopsT []) false false Tryd.f21 (codP [pZone]) 1 (codP [(.aggw [.o cI, .o cI, .o cTyp, .o cCor, .p cTail])]) x).run
noncomputable abbrev s_zCopy : SpecT := specF (codP [pZone]) 1 (codP [(.aggw [.o cI, .o cI, .o cTyp, .o cCor, .p cTail])]) F_zCopy
theorem so_zCopy : SoundT Tryd.prog 21 s_zCopy := (soundG (P := Tryd.prog) mixed (t := ct_zCopy) cs_zCopy (f := 21) (fn := Tryd.f21) Tryd.func21 (by kernel_rfl) (by kernel_rfl) (by kernel_rfl) (ls := []) (by kernel_rfl) (kp := keepT []) (lps := loopsT []) (bump := false) (ice := false) (A := (codP [pZone])) (n := 1) (R := (codP [(.aggw [.o cI, .o cI, .o cTyp, .o cCor, .p cTail])])) fun _ => lps_nil)

theorem e_zCopy (z : List Int × List Int × List (Int × Bool × List UInt8) × List (Int × Int) × Bool × (List UInt8 × List UInt8 × Int × Int × (Int × Int × Int × Int × Int) × (Int × Int × Int × Int × Int))) : F_zCopy z = (
  (F_clA z.fst).bind fun x1 => (F_clB z.snd.fst).bind fun x2 => (F_clT z.snd.snd.fst).bind fun x3 => (F_clC z.snd.snd.snd.fst).bind fun x4 => some (x1, x2, x3, x4, z.snd.snd.snd.snd)) := by kernel_rfl

end Go.Sm
/- Clocks of zones. No condition. -/
set_option linter.unusedVariables false
namespace Go.Sm
open Go.Proofs
/-! ### horologe/look.place -/
noncomputable abbrev ct_lkPlace : List (FuncId × Bool × SpecT) := [(115, false, s_numSplit), (131, false, s_dayFirst), (132, false, s_dayLast)]
theorem cs_lkPlace : AllSound Tryd.prog ct_lkPlace := ⟨so_numSplit, so_dayFirst, so_dayLast, trivial⟩
noncomputable def F_lkPlace (x : (Int)) : Option (Int × Int × Int) := (evalF Tryd.prog (lookT ct_lkPlace) (keepT []) (loopsT []) false false Tryd.f101 (codP [pI]) 3 (codP [pI, pI, pE]) x).run
noncomputable abbrev s_lkPlace : SpecT := specF (codP [pI]) 3 (codP [pI, pI, pE]) F_lkPlace
theorem so_lkPlace : SoundT Tryd.prog 101 s_lkPlace := (soundG (P := Tryd.prog) mixed (t := ct_lkPlace) cs_lkPlace (f := 101) (fn := Tryd.f101) Tryd.func101 (by kernel_rfl) (by kernel_rfl) (by kernel_rfl) (ls := []) (by kernel_rfl) (kp := keepT []) (lps := loopsT []) (bump := false) (ice := false) (A := (codP [pI])) (n := 3) (R := (codP [pI, pI, pE])) fun _ => lps_nil)

/-! ### (*horologe/look.Clock).ask -/
noncomputable abbrev ct_lkAsk : List (FuncId × Bool × SpecT) := [(101, false, s_lkPlace)]
theorem cs_lkAsk : AllSound Tryd.prog ct_lkAsk := ⟨so_lkPlace, trivial⟩
noncomputable def F_lkAsk (x : (((List Int) × (List Int) × (List (Int × Bool × List UInt8)) × (List (Int × Int)) × (Bool × (List UInt8 × List UInt8 × Int × Int × (Int × Int × Int × Int × Int) × (Int × Int × Int × Int × Int))) × (Int × Bool × List UInt8)) × Int)) : Option (Int × ((List Int) × (List Int) × (List (Int × Bool × List UInt8)) × (List (Int × Int)) × (Bool × (List UInt8 × List UInt8 × Int × Int × (Int × Int × Int × Int × Int) × (Int × Int × Int × Int × Int))) × (Int × Bool × List UInt8))) := (evalF Tryd.prog (lookT ct_lkAsk) (keepT []) (loopsT []) false false Tryd.f64 (codP [(.boxw [.o cI, .o cI, .o cTyp, .o cCor, .p cTail, .p cTyp]), pI]) 1 (codP [pE, (.memw [.o cI, .o cI, .o cTyp, .o cCor, .p cTail, .p cTyp])]) x).run
noncomputable abbrev s_lkAsk : SpecT := specF (codP [(.boxw [.o cI, .o cI, .o cTyp, .o cCor, .p cTail, .p cTyp]), pI]) 1 (codP [pE, (.memw [.o cI, .o cI, .o cTyp, .o cCor, .p cTail, .p cTyp])]) F_lkAsk
theorem so_lkAsk : SoundT Tryd.prog 64 s_lkAsk := (soundG (P := Tryd.prog) mixed (t := ct_lkAsk) cs_lkAsk (f := 64) (fn := Tryd.f64) Tryd.func64 (by kernel_rfl) (by kernel_rfl) (by kernel_rfl) (ls := []) (by kernel_rfl) (kp := keepT []) (lps := loopsT []) (bump := false) (ice := false) (A := (codP [(.boxw [.o cI, .o cI, .o cTyp, .o cCor, .p cTail, .p cTyp]), pI])) (n := 1) (R := (codP [pE, (.memw [.o cI, .o cI, .o cTyp, .o cCor, .p cTail, .p cTyp])])) fun _ => lps_nil)

/-! ### (*horologe/look.Clock).behind -/
noncomputable abbrev ct_lkBehind : List (FuncId × Bool × SpecT) := [(102, true, s_slSearch)]
theorem cs_lkBehind : AllSound Tryd.prog ct_lkBehind := ⟨so_slSearch, trivial⟩
noncomputable def F_lkBehind (x : (((List Int) × (List Int) × (List (Int × Bool × List UInt8)) × (List (Int × Int)) × (Bool × (List UInt8 × List UInt8 × Int × Int × (Int × Int × Int × Int × Int) × (Int × Int × Int × Int × Int))) × (Int × Bool × List UInt8)) × Int)) : Option (Int × ((List Int) × (List Int) × (List (Int × Bool × List UInt8)) × (List (Int × Int)) × (Bool × (List UInt8 × List UInt8 × Int × Int × (Int × Int × Int × Int × Int) × (Int × Int × Int × Int × Int))) × (Int × Bool × List UInt8))) := (evalF Tryd.prog (lookT ct_lkBehind) (keepT []) (loopsT []) false false Tryd.f65 (codP [(.boxw [.o cI, .o cI, .o cTyp, .o cCor, .p cTail, .p cTyp]), pI]) 1 (codP [pI, (.memw [.o cI, .o cI, .o cTyp, .o cCor, .p cTail, .p cTyp])]) x).run
noncomputable abbrev s_lkBehind : SpecT := specF (codP [(.boxw [.o cI, .o cI, .o cTyp, .o cCor, .p cTail, .p cTyp]), pI]) 1 (codP [pI, (.memw [.o cI, .o cI, .o cTyp, .o cCor, .p cTail, .p cTyp])]) F_lkBehind
theorem so_lkBehind : SoundT Tryd.prog 65 s_lkBehind := (soundG (P := Tryd.prog) mixed (t := ct_lkBehind) cs_lkBehind (f := 65) (fn := Tryd.f65) Tryd.func65 (by kernel_rfl) (by kernel_rfl) (by kernel_rfl) (ls := []) (by kernel_rfl) (kp := keepT []) (lps := loopsT []) (bump := false) (ice := false) (A := (codP [(.boxw [.o cI, .o cI, .o cTyp, .o cCor, .p cTail, .p cTyp]), pI])) (n := 1) (R := (codP [pI, (.memw [.o cI, .o cI, .o cTyp, .o cCor, .p cTail, .p cTyp])])) fun _ => lps_nil)

/-! ### (*horologe/look.Clock).At -/
noncomputable abbrev ct_lkAt : List (FuncId × Bool × SpecT) := [(64, false, s_lkAsk), (65, false, s_lkBehind), (39, false, s_ftAt)]
theorem cs_lkAt : AllSound Tryd.prog ct_lkAt := ⟨so_lkAsk, so_lkBehind, so_ftAt, trivial⟩
noncomputable def F_lkAt (x : (((List Int) × (List Int) × (List (Int × Bool × List UInt8)) × (List (Int × Int)) × (Bool × (List UInt8 × List UInt8 × Int × Int × (Int × Int × Int × Int × Int) × (Int × Int × Int × Int × Int))) × (Int × Bool × List UInt8)) × Int)) : Option ((Int × Bool × List UInt8) × Int × ((List Int) × (List Int) × (List (Int × Bool × List UInt8)) × (List (Int × Int)) × (Bool × (List UInt8 × List UInt8 × Int × Int × (Int × Int × Int × Int × Int) × (Int × Int × Int × Int × Int))) × (Int × Bool × List UInt8))) := (evalF Tryd.prog (lookT ct_lkAt) (keepT []) (loopsT []) false false Tryd.f25 (codP [(.boxw [.o cI, .o cI, .o cTyp, .o cCor, .p cTail, .p cTyp]), pI]) 2 (codP [pTyp, pE, (.memw [.o cI, .o cI, .o cTyp, .o cCor, .p cTail, .p cTyp])]) x).run
noncomputable abbrev s_lkAt : SpecT := specF (codP [(.boxw [.o cI, .o cI, .o cTyp, .o cCor, .p cTail, .p cTyp]), pI]) 2 (codP [pTyp, pE, (.memw [.o cI, .o cI, .o cTyp, .o cCor, .p cTail, .p cTyp])]) F_lkAt
theorem so_lkAt : SoundT Tryd.prog 25 s_lkAt := (soundG (P := Tryd.prog) mixed (t := ct_lkAt) cs_lkAt (f := 25) (fn := Tryd.f25) Tryd.func25 (by kernel_rfl) (by kernel_rfl) (by kernel_rfl) (ls := []) (by kernel_rfl) (kp := keepT []) (lps := loopsT []) (bump := false) (ice := false) (A := (codP [(.boxw [.o cI, .o cI, .o cTyp, .o cCor, .p cTail, .p cTyp]), pI])) (n := 2) (R := (codP [pTyp, pE, (.memw [.o cI, .o cI, .o cTyp, .o cCor, .p cTail, .p cTyp])])) fun _ => lps_nil)

/-! ### (*horologe/look.Clock).Next -/
noncomputable abbrev ct_lkNext : List (FuncId × Bool × SpecT) := [(64, false, s_lkAsk), (65, false, s_lkBehind), (40, false, s_ftNext)]
theorem cs_lkNext : AllSound Tryd.prog ct_lkNext := ⟨so_lkAsk, so_lkBehind, so_ftNext, trivial⟩
noncomputable def F_lkNext (x : (((List Int) × (List Int) × (List (Int × Bool × List UInt8)) × (List (Int × Int)) × (Bool × (List UInt8 × List UInt8 × Int × Int × (Int × Int × Int × Int × Int) × (Int × Int × Int × Int × Int))) × (Int × Bool × List UInt8)) × Int)) : Option (Int × Bool × Int × ((List Int) × (List Int) × (List (Int × Bool × List UInt8)) × (List (Int × Int)) × (Bool × (List UInt8 × List UInt8 × Int × Int × (Int × Int × Int × Int × Int) × (Int × Int × Int × Int × Int))) × (Int × Bool × List UInt8))) := (evalF Tryd.prog (lookT ct_lkNext) (keepT []) (loopsT []) false false Tryd.f26 (codP [(.boxw [.o cI, .o cI, .o cTyp, .o cCor, .p cTail, .p cTyp]), pI]) 3 (codP [pI, pB, pE, (.memw [.o cI, .o cI, .o cTyp, .o cCor, .p cTail, .p cTyp])]) x).run
noncomputable abbrev s_lkNext : SpecT := specF (codP [(.boxw [.o cI, .o cI, .o cTyp, .o cCor, .p cTail, .p cTyp]), pI]) 3 (codP [pI, pB, pE, (.memw [.o cI, .o cI, .o cTyp, .o cCor, .p cTail, .p cTyp])]) F_lkNext
theorem so_lkNext : SoundT Tryd.prog 26 s_lkNext := (soundG (P := Tryd.prog) mixed (t := ct_lkNext) cs_lkNext (f := 26) (fn := Tryd.f26) Tryd.func26 (by kernel_rfl) (by kernel_rfl) (by kernel_rfl) (ls := []) (by kernel_rfl) (kp := keepT []) (lps := loopsT []) (bump := false) (ice := false) (A := (codP [(.boxw [.o cI, .o cI, .o cTyp, .o cCor, .p cTail, .p cTyp]), pI])) (n := 3) (R := (codP [pI, pB, pE, (.memw [.o cI, .o cI, .o cTyp, .o cCor, .p cTail, .p cTyp])])) fun _ => lps_nil)

/-! ### horologe/look.New -/
noncomputable abbrev ct_lkNew : List (FuncId × Bool × SpecT) := [(53, false, s_zCheck), (63, false, s_zFirst), (21, false, s_zCopy)]
theorem cs_lkNew : AllSound Tryd.prog ct_lkNew := ⟨so_zCheck, so_zFirst, so_zCopy, trivial⟩
noncomputable def F_lkNew (x : ((List Int × List Int × List (Int × Bool × List UInt8) × List (Int × Int) × Bool × (List UInt8 × List UInt8 × Int × Int × (Int × Int × Int × Int × Int) × (Int × Int × Int × Int × Int))))) : Option ((Unit × Int) ⊕ (((List Int) × (List Int) × (List (Int × Bool × List UInt8)) × (List (Int × Int)) × (Bool × (List UInt8 × List UInt8 × Int × Int × (Int × Int × Int × Int × Int) × (Int × Int × Int × Int × Int))) × (Int × Bool × List UInt8)) × Int)) := (evalF Tryd.prog (lookT ct_lkNew) (keepT []) (loopsT []) false false Tryd.f24 (codP [pZone]) 2 (codS (codP [.np, pE]) (codP [(.boxw [.o cI, .o cI, .o cTyp, .o cCor, .p cTail, .p cTyp]), pE])) x).run
noncomputable abbrev s_lkNew : SpecT := specS (codP [pZone]) 2 (codP [.np, pE]) (codP [(.boxw [.o cI, .o cI, .o cTyp, .o cCor, .p cTail, .p cTyp]), pE]) F_lkNew
theorem so_lkNew : SoundT Tryd.prog 24 s_lkNew := specS_of (soundG (P := Tryd.prog) mixed (t := ct_lkNew) cs_lkNew (f := 24) (fn := Tryd.f24) Tryd.func24 (by kernel_rfl) (by kernel_rfl) (by kernel_rfl) (ls := []) (by kernel_rfl) (kp := keepT []) (lps := loopsT []) (bump := false) (ice := false) (A := (codP [pZone])) (n := 2) (R := (codS (codP [.np, pE]) (codP [(.boxw [.o cI, .o cI, .o cTyp, .o cCor, .p cTail, .p cTyp]), pE]))) fun _ => lps_nil)

/-! ### horologe/horologelaw22.alive -/
noncomputable abbrev ct_law22alive : List (FuncId × Bool × SpecT) := [(52, false, s_zOf), (24, false, s_lkNew), (25, false, s_lkAt)]
theorem cs_law22alive : AllSound Tryd.prog ct_law22alive := ⟨so_zOf, so_lkNew, so_lkAt, trivial⟩
noncomputable def F_law22alive (x : Unit) : Option (Bool) := (evalF Tryd.prog (lookT ct_law22alive) (keepT []) (loopsT []) false false Tryd.f23 (codP []) 1 (codP [pB]) x).run
noncomputable abbrev s_law22alive : SpecT := specF (codP []) 1 (codP [pB]) F_law22alive
theorem so_law22alive : SoundT Tryd.prog 23 s_law22alive := (soundG (P := Tryd.prog) mixed (t := ct_law22alive) cs_law22alive (f := 23) (fn := Tryd.f23) Tryd.func23 (by kernel_rfl) (by kernel_rfl) (by kernel_rfl) (ls := []) (by kernel_rfl) (kp := keepT []) (lps := loopsT []) (bump := false) (ice := false) (A := (codP [])) (n := 1) (R := (codP [pB])) fun _ => lps_nil)


end Go.Sm
/- Clocks of zones. As trees. No condition. -/
set_option linter.unusedVariables false
namespace Go.Sm
open Go.Proofs
theorem e_lkPlace (t : Int) : F_lkPlace t = (
  (F_numSplit (t, (86400 : Int))).bind fun x1 =>
    bif decide (x1.snd.snd ≠ (0 : Int)) then some ((0 : Int), (0 : Int), x1.snd.snd)
    else
      (F_dayFirst ()).bind fun x2 =>
        bif decide (x1.fst < x2) then some ((0 : Int), (0 : Int), (13 : Int))
        else (F_dayLast ()).bind fun x3 => bif decide (x3 < x1.fst) then some ((0 : Int), (0 : Int), (13 : Int)) else some (x1.fst, x1.snd.fst, (0 : Int))) := by kernel_rfl


theorem e_lkAsk (a b : List Int) (c : List (Int × Bool × List UInt8)) (d : List (Int × Int)) (q : Bool × List UInt8 × List UInt8 × Int × Int × (Int × Int × Int × Int × Int) × (Int × Int × Int × Int × Int)) (f : Int × Bool × List UInt8) (t : Int) : F_lkAsk ((a, b, c, d, q, f), t) = (
  (F_lkPlace t).bind fun x1 => some (x1.snd.snd, a, b, c, d, q, f)) := by kernel_rfl


theorem e_lkBehind (a b : List Int) (c : List (Int × Bool × List UInt8)) (d : List (Int × Int)) (q : Bool × List UInt8 × List UInt8 × Int × Int × (Int × Int × Int × Int × Int) × (Int × Int × Int × Int × Int)) (f : Int × Bool × List UInt8) (t : Int) : F_lkBehind ((a, b, c, d, q, f), t) = (
  (F_slSearch (a, t)).bind fun x1 => bif x1.snd then some (IntKind.i64.wrap (x1.fst + (1 : Int)), a, b, c, d, q, f) else some (x1.fst, a, b, c, d, q, f)) := by kernel_rfl


end Go.Sm
/- Plain Lean: clocks of zones, first part. -/
set_option linter.unusedVariables false
set_option linter.unusedSimpArgs false
namespace Go.Sm
open Go.Proofs

/-- So many of a rising list's numbers aren't behind a number. -/
structure Bh (k : Nat) (l : List Int) (t : Int) : Prop where
  le : k ≤ l.length
  lo : ∀ i (h : i < l.length), i < k → l[i] ≤ t
  hi : ∀ i (h : i < l.length), k ≤ i → t < l[i]
theorem rise_pair {l : List Int} (h : riseB l = true) : l.Pairwise (· < ·) := by
  have hq : ∀ i, 1 ≤ i → (hi : i < l.length) → l[i - 1] < l[i] := by
    intro i h1 hi
    have := (range_all_iff.1 h) i h1 (by omega)
    unfold riseQ at this
    rw [getD_at _ hi, getD_at _ (by omega)] at this
    simpa using this
  rw [List.pairwise_iff_getElem]
  have main : ∀ (d i : Nat) (hi : i < l.length) (hj : i + d + 1 < l.length), l[i] < l[i + d + 1] := by
    intro d
    induction d with
    | zero => intro i hi hj; exact hq (i + 1) (by omega) hj
    | succ d ih =>
      intro i hi hj
      have h1 := ih i hi (by omega)
      have h2 := hq (i + (d + 1) + 1) (by omega) hj
      have h3 : l[i + (d + 1) + 1 - 1] = l[i + d + 1] := by congr 1
      rw [h3] at h2
      omega
  intro i j hi hj hij
  have := main (j - i - 1) i hi (by omega)
  have he : i + (j - i - 1) + 1 = j := by omega
  simpa [he] using this
theorem bh_ex {l : List Int} {t : Int} {c : Nat} (hp : l.Pairwise (· < ·)) (hs : Srt c l t) : Bh (if l[c]? = some t then c + 1 else c) l t := by
  rw [List.pairwise_iff_getElem] at hp
  split
  · rename_i h
    obtain ⟨hc, hct⟩ := List.getElem?_eq_some_iff.1 h
    refine ⟨hc, fun i hi hk => ?_, fun i hi hk => ?_⟩
    · by_cases hic : i = c
      · subst hic; omega
      · have := hs.lo i hi (by omega); omega
    · have := hp c i hc hi (by omega)
      omega
  · rename_i h
    refine ⟨hs.le, fun i hi hk => Int.le_of_lt (hs.lo i hi hk), fun i hi hk => ?_⟩
    have h1 := hs.hi i hi hk
    by_cases hic : i = c
    · subst hic
      have : ¬ l[i] = t := fun he => h (by rw [List.getElem?_eq_getElem hi, he])
      omega
    · have h2 := hp c i (by omega) hi (by omega)
      have h3 := hs.hi c (by omega) (Nat.le_refl _)
      omega
theorem firstAt_eq {γ : Type} (p : γ → Bool) : ∀ (l : List γ) (k : Nat), k ≤ l.length → (∀ i (h : i < l.length), i < k → p l[i] = false) → (∀ h : k < l.length, p l[k] = true) → firstAt p l = k
  | [], k, hk, _, _ => by simp at hk; subst hk; rfl
  | x :: l, 0, _, _, h2 => by
    have := h2 (by simp)
    unfold firstAt
    rw [List.takeWhile_cons]
    simp at this
    simp [this]
  | x :: l, k + 1, hk, h1, h2 => by
    have h0 := h1 0 (by simp) (by omega)
    have ih := firstAt_eq p l k (by simpa using hk) (fun i hi hik => h1 (i + 1) (by simpa using hi) (by omega)) (fun h => h2 (by simpa using h))
    unfold firstAt at ih ⊢
    rw [List.takeWhile_cons]
    simp at h0
    simp [h0, ih]
/-! ### The clock's parts -/
theorem numSplit86 (t : Int) (ht : i64 t) : ∃ r, F_numSplit (t, (86400 : Int)) = some (t / 86400, r, 0) := by
  obtain ⟨r, hr⟩ := numMod t
  refine ⟨r, ?_⟩
  rw [e_numSplit, cond_dec, if_neg (by omega), numDiv t ht]
  simp only [Option.bind_some]
  rw [cond_dec, if_neg (by simp), hr]
  rfl
theorem lkPlace (t : Int) (ht : i64 t) : ∃ r, F_lkPlace t = some (if dated t then (t / 86400, r, 0) else (0, 0, 13)) := by
  obtain ⟨r, hr⟩ := numSplit86 t ht
  refine ⟨r, ?_⟩
  rw [e_lkPlace, hr]
  simp only [Option.bind_some]
  rw [cond_dec, if_neg (by simp), dayFirst]
  simp only [Option.bind_some]
  rw [cond_dec, dayLast]
  simp only [Option.bind_some]
  rw [cond_dec]
  unfold dated
  by_cases h1 : t / 86400 < yS (-9999)
  · rw [if_pos h1, if_neg (by omega)]
  · rw [if_neg h1]
    by_cases h2 : yS 10000 - 1 < t / 86400
    · rw [if_pos h2, if_neg (by omega)]
    · rw [if_neg h2, if_pos (by omega)]
abbrev Clk := List Int × List Int × List Typ × List Cor × (Bool × Pln) × Typ
theorem lkAsk (x : Clk) (t : Int) (ht : i64 t) : F_lkAsk (x, t) = some (if dated t then 0 else 13, x) := by
  obtain ⟨a, b, c, d, q, f⟩ := x
  obtain ⟨r, hr⟩ := lkPlace t ht
  rw [e_lkAsk, hr]
  simp only [Option.bind_some]
  split <;> rfl
theorem lkBehind (x : Clk) (t : Int) {k : Nat} (hp : x.1.Pairwise (· < ·)) (hl : x.1.length ≤ 1000000) (hk : Bh k x.1 t) : F_lkBehind (x, t) = some ((k : Int), x) := by
  obtain ⟨a, b, c, d, q, f⟩ := x
  simp only at hp hl hk
  obtain ⟨n, hs⟩ := srt_ex t a hp
  have hb := bh_ex hp hs
  have hu : k = if a[n]? = some t then n + 1 else n := by
    have one : ∀ {i j : Nat}, Bh i a t → Bh j a t → ¬ i < j := by
      intro i j hi hj hij
      have h1 := hj.le
      have h2 := hj.lo i (by omega) hij
      have h3 := hi.hi i (by omega) (Nat.le_refl _)
      omega
    have h1 := one hk hb
    have h2 := one hb hk
    omega
  rw [e_lkBehind, slSearch hs hl]
  simp only [Option.bind_some]
  have hn := hs.le
  rw [cond_dec]
  by_cases h : a[n]? = some t
  · rw [if_pos h] at hu ⊢
    rw [wrap_up (by omega), hu]
  · rw [if_neg h] at hu ⊢
    rw [hu]
/-! ### The reference -/
def kindT (z : Zon) (j : Nat) : Typ := z.2.2.1.getD (z.2.1.getD j 0).toNat (0, false, [])
/-- Kinds are types. -/
def KindsOk (z : Zon) : Prop := z.2.1.length = z.1.length ∧ ∀ j, j < z.1.length → 0 ≤ z.2.1.getD j 0 ∧ z.2.1.getD j 0 < (z.2.2.1.length : Int)
theorem KindsOk.get {z : Zon} (h : KindsOk z) {j : Nat} (hj : j < z.1.length) : ∃ k, getI z.2.1 (j : Int) = some k ∧ getI z.2.2.1 k = some (kindT z j) := by
  have hj2 : j < z.2.1.length := by rw [h.1]; exact hj
  obtain ⟨h1, h2⟩ := h.2 j hj
  refine ⟨z.2.1.getD j 0, by rw [getI_at hj2, getD_at _ hj2], ?_⟩
  unfold kindT
  generalize z.2.1.getD j 0 = k at h1 h2 ⊢
  have hkn : k = ((k.toNat : Nat) : Int) := by omega
  have hlt : k.toNat < z.2.2.1.length := by omega
  exact (congrArg (getI z.2.2.1) hkn).trans (by rw [getI_at hlt, getD_at _ hlt])
def nowT (z : Zon) (k : Nat) : Typ := if k = 0 then firstT z.2.2.1 else kindT z (k - 1)
end Go.Sm
/- Clocks of zones. As trees. No condition. -/
set_option linter.unusedVariables false
namespace Go.Sm
open Go.Proofs
theorem e_lkAt (a b : List Int) (c : List (Int × Bool × List UInt8)) (d : List (Int × Int)) (q : Bool × List UInt8 × List UInt8 × Int × Int × (Int × Int × Int × Int × Int) × (Int × Int × Int × Int × Int)) (f : Int × Bool × List UInt8) (t : Int) : F_lkAt ((a, b, c, d, q, f), t) = (
  (F_lkAsk ((a, b, c, d, q, f), t)).bind fun x1 =>
    bif decide (x1.fst ≠ (0 : Int)) then some (((0 : Int), false, []), x1)
    else
      (F_lkBehind (x1.snd, t)).bind fun x2 =>
        bif x2.snd.snd.snd.snd.snd.fst.fst then
          bif decide (x2.fst = (↑(List.length x2.snd.fst) : Int)) then (F_ftAt (x2.snd.snd.snd.snd.snd.fst.snd, t)).bind fun x3 => some (x3.fst, x3.snd, x2.snd)
          else
            bif decide ((0 : Int) < x2.fst) then
              bif decide ((0 : Int) ≤ IntKind.i64.wrap (x2.fst - (1 : Int)) ∧ IntKind.i64.wrap (x2.fst - (1 : Int)) < (↑(List.length x2.snd.snd.fst) : Int)) then
                x2.snd.snd.fst[(IntKind.i64.wrap (x2.fst - (1 : Int))).toNat]?.bind fun x3 =>
                  bif decide ((0 : Int) ≤ x3 ∧ x3 < (↑(List.length x2.snd.snd.snd.fst) : Int)) then x2.snd.snd.snd.fst[x3.toNat]?.bind fun x4 => some (x4, (0 : Int), x2.snd) else none
              else none
            else some (x2.snd.snd.snd.snd.snd.snd, (0 : Int), x2.snd)
        else
          bif decide ((0 : Int) < x2.fst) then
            bif decide ((0 : Int) ≤ IntKind.i64.wrap (x2.fst - (1 : Int)) ∧ IntKind.i64.wrap (x2.fst - (1 : Int)) < (↑(List.length x2.snd.snd.fst) : Int)) then
              x2.snd.snd.fst[(IntKind.i64.wrap (x2.fst - (1 : Int))).toNat]?.bind fun x3 =>
                bif decide ((0 : Int) ≤ x3 ∧ x3 < (↑(List.length x2.snd.snd.snd.fst) : Int)) then x2.snd.snd.snd.fst[x3.toNat]?.bind fun x4 => some (x4, (0 : Int), x2.snd) else none
            else none
          else some (x2.snd.snd.snd.snd.snd.snd, (0 : Int), x2.snd)) := by kernel_rfl


end Go.Sm
/- Clocks of zones. As trees. No condition. -/
set_option linter.unusedVariables false
namespace Go.Sm
open Go.Proofs
theorem e_lkNext (a b : List Int) (c : List (Int × Bool × List UInt8)) (d : List (Int × Int)) (q : Bool × List UInt8 × List UInt8 × Int × Int × (Int × Int × Int × Int × Int) × (Int × Int × Int × Int × Int)) (f : Int × Bool × List UInt8) (t : Int) : F_lkNext ((a, b, c, d, q, f), t) = (
  (F_lkAsk ((a, b, c, d, q, f), t)).bind fun x1 =>
    bif decide (x1.fst ≠ (0 : Int)) then some ((0 : Int), false, x1)
    else
      (F_lkBehind (x1.snd, t)).bind fun x2 =>
        bif decide (x2.fst < (↑(List.length x2.snd.fst) : Int)) then
          bif decide ((0 : Int) ≤ x2.fst ∧ x2.fst < (↑(List.length x2.snd.fst) : Int)) then x2.snd.fst[Int.toNat x2.fst]?.bind fun x3 => some (x3, true, (0 : Int), x2.snd) else none
        else
          bif x2.snd.snd.snd.snd.snd.fst.fst then (F_ftNext (x2.snd.snd.snd.snd.snd.fst.snd, t)).bind fun x3 => some (x3.fst, x3.snd.fst, x3.snd.snd, x2.snd)
          else some ((0 : Int), false, (0 : Int), x2.snd)) := by kernel_rfl


end Go.Sm
/- Clocks of zones. As trees. No condition. -/
set_option linter.unusedVariables false
namespace Go.Sm
open Go.Proofs
theorem e_lkNew (z : List Int × List Int × List (Int × Bool × List UInt8) × List (Int × Int) × Bool × (List UInt8 × List UInt8 × Int × Int × (Int × Int × Int × Int × Int) × (Int × Int × Int × Int × Int))) : F_lkNew z = (
  (F_zCheck z).bind fun x1 =>
    bif decide (x1 ≠ (0 : Int)) then some (Sum.inl ((), x1))
    else
      (F_zFirst z).bind fun x2 =>
        bif decide (x2.snd ≠ (0 : Int)) then some (Sum.inl ((), x2.snd))
        else (F_zCopy z).bind fun x3 => some (Sum.inr ((x3.fst, x3.snd.fst, x3.snd.snd.fst, x3.snd.snd.snd.fst, x3.snd.snd.snd.snd, x2.fst), (0 : Int)))) := by kernel_rfl


theorem e_law22alive  : F_law22alive () = (
  (F_zOf ([(85 : UInt8), (84 : UInt8), (67 : UInt8)], [], (0 : Int), (0 : Int), ((0 : Int), (0 : Int), (0 : Int), (0 : Int), (0 : Int)), (0 : Int), (0 : Int), (0 : Int), (0 : Int), (0 : Int))).bind
    fun x1 =>
    (F_lkNew x1.fst).bind fun x2 =>
      Sum.elim (fun x3 => bif decide (x1.snd ≠ (0 : Int)) then some false else bif decide (x3.snd ≠ (0 : Int)) then some false else some false)
        (fun x3 =>
          bif decide (x1.snd ≠ (0 : Int)) then some false
          else
            bif decide (x3.snd ≠ (0 : Int)) then some false
            else
              (F_lkAt (x3.fst, (5 : Int))).bind fun x4 =>
                bif decide (x4.snd.fst = (0 : Int)) then bif decide (x4.fst.snd.snd = [(85 : UInt8), (84 : UInt8), (67 : UInt8)]) then some (decide (x4.fst.fst = (0 : Int))) else some false
                else some false)
        x2) := by kernel_rfl


end Go.Sm
/- Plain Lean: clocks of right zones. -/
set_option linter.unusedVariables false
set_option linter.unusedSimpArgs false
namespace Go.Sm
open Go.Proofs

/-- A right zone that is looked at. -/
structure RightZ (z : Zon) : Prop where
  short : Short z
  wf : wfT z
  zp : zpB z = 0
  plan : z.2.2.2.2.1 = true → pck z.2.2.2.2.2 = 0
theorem right_of {z : Zon} (h : Short z) (hw : wfT z) (hc : F_zCheck z = some 0) : RightZ z := by
  obtain ⟨v, c1, c3⟩ := check_some h hw
  rw [hc] at c1
  obtain rfl := Option.some.inj c1
  have hz : zpB z = 0 := by
    apply Classical.byContradiction
    intro hne
    exact hne (c3 hne).symm
  refine ⟨h, hw, hz, fun hr => ?_⟩
  rw [e_zCheck, zParts h, hz] at hc
  simp only [Option.bind_some] at hc
  have h1 := h.n1
  have h2 := h.n2
  rw [cond_dec, if_neg (by simp), hr, pxCheck _ (by unfold small; omega) (by unfold small; omega)] at hc
  simp only [Bool.not_true, cond_false, Option.bind_some] at hc
  rw [cond_dec] at hc
  by_cases hp : pck z.2.2.2.2.2 = 0
  · exact hp
  · rw [if_pos hp] at hc
    exact absurd (Option.some.inj hc) hp
theorem RightZ.kinds {z : Zon} (h : RightZ z) : KindsOk z := by
  obtain ⟨_, _, _, _, a5, a6, _⟩ := zpB_zero h.zp
  refine ⟨a5, fun j hj => ?_⟩
  have hj2 : j < z.2.1.length := by omega
  rw [getD_at _ hj2]
  cases hq : strangeB z.2.2.1.length z.2.1[j] with
  | true =>
    have := List.any_eq_true.2 ⟨_, List.getElem_mem hj2, hq⟩
    rw [a6] at this
    cases this
  | false =>
    unfold strangeB at hq
    simp only [Bool.or_eq_false_iff, decide_eq_false_iff_not] at hq
    omega
theorem RightZ.rise {z : Zon} (h : RightZ z) : z.1.Pairwise (· < ·) := rise_pair (zpB_zero h.zp).2.2.2.2.2.2.2.2.2.2.1
theorem RightZ.bh {z : Zon} (h : RightZ z) (t : Int) : ∃ k, Bh k z.1 t := by
  obtain ⟨c, hc⟩ := srt_ex t z.1 h.rise
  exact ⟨_, bh_ex h.rise hc⟩
theorem RightZ.small {z : Zon} (h : RightZ z) : small z.2.2.2.2.2.1 ∧ small z.2.2.2.2.2.2.1 := by
  have h1 := h.short.n1
  have h2 := h.short.n2
  unfold Sm.small
  omega
/-- The clock of a zone. -/
def lkC (z : Zon) : Clk := (z.1, z.2.1, z.2.2.1, z.2.2.2.1, z.2.2.2.2, firstT z.2.2.1)
theorem room_any {n m : Nat} (hn : n ≤ 1000000) (hm : m ≤ 32) : roomB 0 n m = true := by
  unfold roomB
  rw [decide_eq_true_eq]
  have : (0 + n) * m ≤ 1000000 * 32 := Nat.mul_le_mul (by omega) hm
  omega
theorem zCopy {z : Zon} (h : Short z) : F_zCopy z = some z := by
  have h1 := h.trans
  have h2 := h.kinds
  have h3 := h.types
  have h4 := h.leaps
  rw [e_zCopy]
  unfold F_clA F_clB F_clT F_clC
  rw [room_any (by omega) (by omega), room_any (by omega) (by omega), room_any (by omega) (by omega), room_any (by omega) (by omega)]
  rfl
theorem lkNew_ok {z : Zon} (h : Short z) (hw : wfT z) (hc : F_zCheck z = some 0) : F_lkNew z = some (.inr (lkC z, 0)) := by
  have hr := right_of h hw hc
  have h3 := h.types
  have h0 : z.2.2.1 ≠ [] := by
    intro hq
    have := (zpB_zero hr.zp).1
    rw [hq] at this
    exact this rfl
  rw [e_lkNew, hc]
  simp only [Option.bind_some]
  rw [cond_dec, if_neg (by simp), zFirst z (by unfold midL; omega), if_neg h0]
  simp only [Option.bind_some]
  rw [cond_dec, if_neg (by simp), zCopy h]
  rfl
theorem lkNew_bad {z : Zon} {v : Int} (hc : F_zCheck z = some v) (hv : v ≠ 0) : F_lkNew z = some (.inl ((), v)) := by
  rw [e_lkNew, hc]
  simp only [Option.bind_some]
  rw [cond_dec, if_pos hv]
theorem lkNext_bad {z : Zon} {t : Int} (ht : i64 t) (hd : ¬ dated t) : F_lkNext (lkC z, t) = some (0, false, 13, lkC z) := by
  unfold lkC
  rw [e_lkNext, lkAsk _ t ht, if_neg hd]
  rfl
theorem lkNext_ok {z : Zon} (h : RightZ z) {t : Int} (ht : i64 t) (hd : dated t) {k : Nat} (hk : Bh k z.1 t) :
    F_lkNext (lkC z, t) = if k < z.1.length then some (z.1.getD k 0, true, 0, lkC z) else if z.2.2.2.2.1 = true then (F_ftNext (z.2.2.2.2.2, t)).bind fun x => some (x.1, x.2.1, x.2.2, lkC z) else some (0, false, 0, lkC z) := by
  have h1 := h.short.trans
  have hle := hk.le
  show F_lkNext ((z.1, z.2.1, z.2.2.1, z.2.2.2.1, z.2.2.2.2, firstT z.2.2.1), t) = _
  rw [e_lkNext, lkAsk _ t ht, if_pos hd]
  simp only [Option.bind_some]
  rw [cond_dec, if_neg (by simp), lkBehind _ t h.rise (by show z.1.length ≤ 1000000; omega) hk]
  simp only [Option.bind_some]
  rw [cond_dec]
  by_cases hkl : k < z.1.length
  · rw [if_pos (by omega), if_pos hkl, cond_dec, if_pos (by omega), Int.toNat_natCast, List.getElem?_eq_getElem hkl, getD_at _ hkl]
    rfl
  · rw [if_neg (by omega), if_neg hkl]
    cases hq : z.2.2.2.2.1 with
    | false => rw [cond_false, if_neg (by decide)]; rfl
    | true => rw [cond_true, if_pos rfl]; rfl
theorem lkAt_bad {z : Zon} {t : Int} (ht : i64 t) (hd : ¬ dated t) : F_lkAt (lkC z, t) = some ((0, false, []), 13, lkC z) := by
  unfold lkC
  rw [e_lkAt, lkAsk _ t ht, if_neg hd]
  rfl
theorem lkAt_ok {z : Zon} (h : RightZ z) {t : Int} (ht : i64 t) (hd : dated t) {k : Nat} (hk : Bh k z.1 t) :
    F_lkAt (lkC z, t) = if z.2.2.2.2.1 = true ∧ z.1.length = k then (F_ftAt (z.2.2.2.2.2, t)).bind fun x => some (x.1, x.2, lkC z) else some (nowT z k, 0, lkC z) := by
  have h1 := h.short.trans
  have hle := hk.le
  have hK := h.kinds
  have tail : (bif decide ((0 : Int) < (k : Int)) then
              bif decide ((0 : Int) ≤ IntKind.i64.wrap ((k : Int) - (1 : Int)) ∧ IntKind.i64.wrap ((k : Int) - (1 : Int)) < (z.2.1.length : Int)) then
                z.2.1[(IntKind.i64.wrap ((k : Int) - (1 : Int))).toNat]?.bind fun x3 =>
                  bif decide ((0 : Int) ≤ x3 ∧ x3 < (z.2.2.1.length : Int)) then z.2.2.1[x3.toNat]?.bind fun x4 => some (x4, (0 : Int), lkC z) else none
              else none
            else some (firstT z.2.2.1, (0 : Int), lkC z)) = some (nowT z k, 0, lkC z) := by
    rw [cond_dec]
    by_cases h0 : k = 0
    · subst h0
      rw [if_neg (by omega)]
      rfl
    · have hj : k - 1 < z.1.length := by omega
      have hj2 : k - 1 < z.2.1.length := by rw [hK.1]; exact hj
      obtain ⟨g1, g2⟩ := hK.2 (k - 1) hj
      rw [getD_at _ hj2] at g1 g2
      rw [if_pos (by omega), wrap_i64 (by omega) (by omega), cond_dec, if_pos (by omega), show ((k : Int) - 1).toNat = k - 1 by omega, List.getElem?_eq_getElem hj2, Option.bind_some, cond_dec, if_pos ⟨g1, g2⟩]
      have hlt : (z.2.1[k - 1]).toNat < z.2.2.1.length := by omega
      rw [List.getElem?_eq_getElem hlt, Option.bind_some]
      unfold nowT kindT
      rw [if_neg h0, getD_at _ hj2, getD_at _ hlt]
  show F_lkAt ((z.1, z.2.1, z.2.2.1, z.2.2.2.1, z.2.2.2.2, firstT z.2.2.1), t) = _
  rw [e_lkAt, lkAsk _ t ht, if_pos hd]
  simp only [Option.bind_some]
  rw [cond_dec, if_neg (by simp), lkBehind _ t h.rise (by show z.1.length ≤ 1000000; omega) hk]
  simp only [Option.bind_some]
  cases hq : z.2.2.2.2.1 with
  | false =>
    rw [if_neg (fun hh => by cases hh.1), cond_false]
    exact tail
  | true =>
    rw [cond_true, cond_dec]
    by_cases hkl : z.1.length = k
    · rw [if_pos (by omega), if_pos ⟨rfl, hkl⟩]
      rfl
    · rw [if_neg (by omega), if_neg (fun hh => hkl hh.2)]
      exact tail
end Go.Sm
/- The same zones, copies; the law ZoneSame. No condition. -/
set_option linter.unusedVariables false
namespace Go.Sm
open Go.Proofs
/-! ### slices.Equal[[]int64,int64] -/
noncomputable abbrev ct_eqA : List (FuncId × Bool × SpecT) := []
theorem cs_eqA : AllSound Tryd.prog ct_eqA := trivial
-- loop 0 (key 4) exit 0: [0, 1, 12, 13]
-- loop 0 (key 4) exit 2: [4]
-- loop 0 (key 4) exit 3: []
abbrev kp_eqA : Keep := keepT [(4, 0, [(0, none), (1, none), (12, none), (13, none)]), (4, 2, [(4, none)]), (4, 3, [])]
noncomputable abbrev b_eqA_0 : Code := loopAt Tryd.f54 0
noncomputable def sp_eqA_0 (x : ((List Int) × (List Int) × Int × Int)) : Option (((List Int) × (List Int) × Int × Int) ⊕ ((Bool) ⊕ Unit)) := (stepL Tryd.prog (lookT ct_eqA) kp_eqA (loopsT []) 0 false b_eqA_0 (codP [pL, pL, pI, pI]) (exS (exO .ret (codP [pB])) (exO (.ext 0) (codP []))) x).run
noncomputable def w_eqA_0 : ((List Int) × (List Int) × Int × Int) → Option ((Bool) ⊕ Unit) := whileO sp_eqA_0
theorem ew_eqA_0 (x : ((List Int) × (List Int) × Int × Int)) : w_eqA_0 x = (sp_eqA_0 x).bind (Sum.elim w_eqA_0 some) := whileO_eq _ _
noncomputable abbrev l_eqA_0 : LT := ltF (codP [pL, pL, pI, pI]) (exS (exO .ret (codP [pB])) (exO (.ext 0) (codP []))) w_eqA_0
theorem lo_eqA_0 : LoopOk Tryd.prog Tryd.f54.ntmps kp_eqA 0 false b_eqA_0 l_eqA_0 := loopG mixed cs_eqA (lps := loopsT []) (by kernel_rfl) (ls := []) (by kernel_rfl) lps_nil
noncomputable def F_eqA (x : ((List Int) × (List Int))) : Option (Bool) := (evalF Tryd.prog (lookT ct_eqA) (kp_eqA) (loopsT [(4, l_eqA_0)]) false false Tryd.f54 (codP [pL, pL]) 1 (codP [pB]) x).run
noncomputable abbrev s_eqA : SpecT := specF (codP [pL, pL]) 1 (codP [pB]) F_eqA
theorem so_eqA : SoundT Tryd.prog 54 s_eqA := (soundG (P := Tryd.prog) mixed (t := ct_eqA) cs_eqA (f := 54) (fn := Tryd.f54) Tryd.func54 (by kernel_rfl) (by kernel_rfl) (by kernel_rfl) (ls := [b_eqA_0]) (by kernel_rfl) (kp := kp_eqA) (lps := loopsT [(4, l_eqA_0)]) (bump := false) (ice := false) (A := (codP [pL, pL])) (n := 1) (R := (codP [pB])) fun _ => (lps_cons l_eqA_0 (by kernel_rfl) lo_eqA_0 lps_nil))

/-! ### slices.Equal[[]int,int] -/
noncomputable abbrev ct_eqB : List (FuncId × Bool × SpecT) := []
theorem cs_eqB : AllSound Tryd.prog ct_eqB := trivial
-- loop 0 (key 4) exit 0: [0, 1, 12, 13]
-- loop 0 (key 4) exit 2: [4]
-- loop 0 (key 4) exit 3: []
abbrev kp_eqB : Keep := keepT [(4, 0, [(0, none), (1, none), (12, none), (13, none)]), (4, 2, [(4, none)]), (4, 3, [])]
noncomputable abbrev b_eqB_0 : Code := loopAt Tryd.f55 0
noncomputable def sp_eqB_0 (x : ((List Int) × (List Int) × Int × Int)) : Option (((List Int) × (List Int) × Int × Int) ⊕ ((Bool) ⊕ Unit)) := (stepL Tryd.prog (lookT ct_eqB) kp_eqB (loopsT []) 0 false b_eqB_0 (codP [pL, pL, pI, pI]) (exS (exO .ret (codP [pB])) (exO (.ext 0) (codP []))) x).run
noncomputable def w_eqB_0 : ((List Int) × (List Int) × Int × Int) → Option ((Bool) ⊕ Unit) := whileO sp_eqB_0
theorem ew_eqB_0 (x : ((List Int) × (List Int) × Int × Int)) : w_eqB_0 x = (sp_eqB_0 x).bind (Sum.elim w_eqB_0 some) := whileO_eq _ _
noncomputable abbrev l_eqB_0 : LT := ltF (codP [pL, pL, pI, pI]) (exS (exO .ret (codP [pB])) (exO (.ext 0) (codP []))) w_eqB_0
theorem lo_eqB_0 : LoopOk Tryd.prog Tryd.f55.ntmps kp_eqB 0 false b_eqB_0 l_eqB_0 := loopG mixed cs_eqB (lps := loopsT []) (by kernel_rfl) (ls := []) (by kernel_rfl) lps_nil
noncomputable def F_eqB (x : ((List Int) × (List Int))) : Option (Bool) := (evalF Tryd.prog (lookT ct_eqB) (kp_eqB) (loopsT [(4, l_eqB_0)]) false false Tryd.f55 (codP [pL, pL]) 1 (codP [pB]) x).run
noncomputable abbrev s_eqB : SpecT := specF (codP [pL, pL]) 1 (codP [pB]) F_eqB
theorem so_eqB : SoundT Tryd.prog 55 s_eqB := (soundG (P := Tryd.prog) mixed (t := ct_eqB) cs_eqB (f := 55) (fn := Tryd.f55) Tryd.func55 (by kernel_rfl) (by kernel_rfl) (by kernel_rfl) (ls := [b_eqB_0]) (by kernel_rfl) (kp := kp_eqB) (lps := loopsT [(4, l_eqB_0)]) (bump := false) (ice := false) (A := (codP [pL, pL])) (n := 1) (R := (codP [pB])) fun _ => (lps_cons l_eqB_0 (by kernel_rfl) lo_eqB_0 lps_nil))

/-! ### slices.Equal[[]horologe/zone.Type,horologe/zone.Type] -/
noncomputable abbrev ct_eqT : List (FuncId × Bool × SpecT) := []
theorem cs_eqT : AllSound Tryd.prog ct_eqT := trivial
-- loop 0 (key 4) exit 0: [0, 1, 12, 13]
-- loop 0 (key 4) exit 2: [4]
-- loop 0 (key 4) exit 3: []
abbrev kp_eqT : Keep := keepT [(4, 0, [(0, none), (1, none), (12, none), (13, none)]), (4, 2, [(4, none)]), (4, 3, [])]
noncomputable abbrev b_eqT_0 : Code := loopAt Tryd.f56 0
noncomputable def sp_eqT_0 (x : ((List (Int × Bool × List UInt8)) × (List (Int × Bool × List UInt8)) × Int × Int)) : Option (((List (Int × Bool × List UInt8)) × (List (Int × Bool × List UInt8)) × Int × Int) ⊕ ((Bool) ⊕ Unit)) := (stepL Tryd.prog (lookT ct_eqT) kp_eqT (loopsT []) 0 false b_eqT_0 (codP [(.pure (.lst cTyp)), (.pure (.lst cTyp)), pI, pI]) (exS (exO .ret (codP [pB])) (exO (.ext 0) (codP []))) x).run
noncomputable def w_eqT_0 : ((List (Int × Bool × List UInt8)) × (List (Int × Bool × List UInt8)) × Int × Int) → Option ((Bool) ⊕ Unit) := whileO sp_eqT_0
theorem ew_eqT_0 (x : ((List (Int × Bool × List UInt8)) × (List (Int × Bool × List UInt8)) × Int × Int)) : w_eqT_0 x = (sp_eqT_0 x).bind (Sum.elim w_eqT_0 some) := whileO_eq _ _
noncomputable abbrev l_eqT_0 : LT := ltF (codP [(.pure (.lst cTyp)), (.pure (.lst cTyp)), pI, pI]) (exS (exO .ret (codP [pB])) (exO (.ext 0) (codP []))) w_eqT_0
theorem lo_eqT_0 : LoopOk Tryd.prog Tryd.f56.ntmps kp_eqT 0 false b_eqT_0 l_eqT_0 := loopG mixed cs_eqT (lps := loopsT []) (by kernel_rfl) (ls := []) (by kernel_rfl) lps_nil
noncomputable def F_eqT (x : ((List (Int × Bool × List UInt8)) × (List (Int × Bool × List UInt8)))) : Option (Bool) := (evalF Tryd.prog (lookT ct_eqT) (kp_eqT) (loopsT [(4, l_eqT_0)]) false false Tryd.f56 (codP [(.pure (.lst cTyp)), (.pure (.lst cTyp))]) 1 (codP [pB]) x).run
noncomputable abbrev s_eqT : SpecT := specF (codP [(.pure (.lst cTyp)), (.pure (.lst cTyp))]) 1 (codP [pB]) F_eqT
theorem so_eqT : SoundT Tryd.prog 56 s_eqT := (soundG (P := Tryd.prog) mixed (t := ct_eqT) cs_eqT (f := 56) (fn := Tryd.f56) Tryd.func56 (by kernel_rfl) (by kernel_rfl) (by kernel_rfl) (ls := [b_eqT_0]) (by kernel_rfl) (kp := kp_eqT) (lps := loopsT [(4, l_eqT_0)]) (bump := false) (ice := false) (A := (codP [(.pure (.lst cTyp)), (.pure (.lst cTyp))])) (n := 1) (R := (codP [pB])) fun _ => (lps_cons l_eqT_0 (by kernel_rfl) lo_eqT_0 lps_nil))

/-! ### slices.Equal[[]horologe/zone.Correction,horologe/zone.Correction] -/
noncomputable abbrev ct_eqC : List (FuncId × Bool × SpecT) := []
theorem cs_eqC : AllSound Tryd.prog ct_eqC := trivial
-- loop 0 (key 4) exit 0: [0, 1, 12, 13]
-- loop 0 (key 4) exit 2: [4]
-- loop 0 (key 4) exit 3: []
abbrev kp_eqC : Keep := keepT [(4, 0, [(0, none), (1, none), (12, none), (13, none)]), (4, 2, [(4, none)]), (4, 3, [])]
noncomputable abbrev b_eqC_0 : Code := loopAt Tryd.f57 0
noncomputable def sp_eqC_0 (x : ((List (Int × Int)) × (List (Int × Int)) × Int × Int)) : Option (((List (Int × Int)) × (List (Int × Int)) × Int × Int) ⊕ ((Bool) ⊕ Unit)) := (stepL Tryd.prog (lookT ct_eqC) kp_eqC (loopsT []) 0 false b_eqC_0 (codP [(.pure (.lst cCor)), (.pure (.lst cCor)), pI, pI]) (exS (exO .ret (codP [pB])) (exO (.ext 0) (codP []))) x).run
noncomputable def w_eqC_0 : ((List (Int × Int)) × (List (Int × Int)) × Int × Int) → Option ((Bool) ⊕ Unit) := whileO sp_eqC_0
theorem ew_eqC_0 (x : ((List (Int × Int)) × (List (Int × Int)) × Int × Int)) : w_eqC_0 x = (sp_eqC_0 x).bind (Sum.elim w_eqC_0 some) := whileO_eq _ _
noncomputable abbrev l_eqC_0 : LT := ltF (codP [(.pure (.lst cCor)), (.pure (.lst cCor)), pI, pI]) (exS (exO .ret (codP [pB])) (exO (.ext 0) (codP []))) w_eqC_0
theorem lo_eqC_0 : LoopOk Tryd.prog Tryd.f57.ntmps kp_eqC 0 false b_eqC_0 l_eqC_0 := loopG mixed cs_eqC (lps := loopsT []) (by kernel_rfl) (ls := []) (by kernel_rfl) lps_nil
noncomputable def F_eqC (x : ((List (Int × Int)) × (List (Int × Int)))) : Option (Bool) := (evalF Tryd.prog (lookT ct_eqC) (kp_eqC) (loopsT [(4, l_eqC_0)]) false false Tryd.f57 (codP [(.pure (.lst cCor)), (.pure (.lst cCor))]) 1 (codP [pB]) x).run
noncomputable abbrev s_eqC : SpecT := specF (codP [(.pure (.lst cCor)), (.pure (.lst cCor))]) 1 (codP [pB]) F_eqC
theorem so_eqC : SoundT Tryd.prog 57 s_eqC := (soundG (P := Tryd.prog) mixed (t := ct_eqC) cs_eqC (f := 57) (fn := Tryd.f57) Tryd.func57 (by kernel_rfl) (by kernel_rfl) (by kernel_rfl) (ls := [b_eqC_0]) (by kernel_rfl) (kp := kp_eqC) (lps := loopsT [(4, l_eqC_0)]) (bump := false) (ice := false) (A := (codP [(.pure (.lst cCor)), (.pure (.lst cCor))])) (n := 1) (R := (codP [pB])) fun _ => (lps_cons l_eqC_0 (by kernel_rfl) lo_eqC_0 lps_nil))

/-! ### horologe/zone.Same -/
noncomputable abbrev ct_zSame : List (FuncId × Bool × SpecT) := [(54, false, s_eqA), (55, false, s_eqB), (56, false, s_eqT), (57, false, s_eqC)]
theorem cs_zSame : AllSound Tryd.prog ct_zSame := ⟨so_eqA, so_eqB, so_eqT, so_eqC, trivial⟩
noncomputable def F_zSame (x : ((List Int × List Int × List (Int × Bool × List UInt8) × List (Int × Int) × Bool × (List UInt8 × List UInt8 × Int × Int × (Int × Int × Int × Int × Int) × (Int × Int × Int × Int × Int))) × (List Int × List Int × List (Int × Bool × List UInt8) × List (Int × Int) × Bool × (List UInt8 × List UInt8 × Int × Int × (Int × Int × Int × Int × Int) × (Int × Int × Int × Int × Int))))) : Option (Bool) := (evalF Tryd.prog (lookT ct_zSame) (keepT []) (loopsT []) false false Tryd.f17 (codP [pZone, pZone]) 1 (codP [pB]) x).run
noncomputable abbrev s_zSame : SpecT := specF (codP [pZone, pZone]) 1 (codP [pB]) F_zSame
theorem so_zSame : SoundT Tryd.prog 17 s_zSame := (soundG (P := Tryd.prog) mixed (t := ct_zSame) cs_zSame (f := 17) (fn := Tryd.f17) Tryd.func17 (by kernel_rfl) (by kernel_rfl) (by kernel_rfl) (ls := []) (by kernel_rfl) (kp := keepT []) (lps := loopsT []) (bump := false) (ice := false) (A := (codP [pZone, pZone])) (n := 1) (R := (codP [pB])) fun _ => lps_nil)

/-! ### horologe/horologelaw19.own -/
noncomputable abbrev ct_law19own : List (FuncId × Bool × SpecT) := []
theorem cs_law19own : AllSound Tryd.prog ct_law19own := trivial
noncomputable def F_law19own (x : ((List Int × List Int × List (Int × Bool × List UInt8) × List (Int × Int) × Bool × (List UInt8 × List UInt8 × Int × Int × (Int × Int × Int × Int × Int) × (Int × Int × Int × Int × Int))))) : Option (((List Int) × (List Int) × (List (Int × Bool × List UInt8)) × (List (Int × Int)) × (Bool × (List UInt8 × List UInt8 × Int × Int × (Int × Int × Int × Int × Int) × (Int × Int × Int × Int × Int))))) := (evalF Tryd.prog (lookT ct_law19own) (keepT []) (loopsT []) false false Tryd.f20 (codP [pZone]) 1 (codP [(.aggw [.o cI, .o cI, .o cTyp, .o cCor, .p cTail])]) x).run
noncomputable abbrev s_law19own : SpecT := specF (codP [pZone]) 1 (codP [(.aggw [.o cI, .o cI, .o cTyp, .o cCor, .p cTail])]) F_law19own
theorem so_law19own : SoundT Tryd.prog 20 s_law19own := (soundG (P := Tryd.prog) mixed (t := ct_law19own) cs_law19own (f := 20) (fn := Tryd.f20) Tryd.func20 (by kernel_rfl) (by kernel_rfl) (by kernel_rfl) (ls := []) (by kernel_rfl) (kp := keepT []) (lps := loopsT []) (bump := false) (ice := false) (A := (codP [pZone])) (n := 1) (R := (codP [(.aggw [.o cI, .o cI, .o cTyp, .o cCor, .p cTail])])) fun _ => lps_nil)

/-! ### horologe/horologelaw19.spoil -/
noncomputable abbrev ct_law19spoil : List (FuncId × Bool × SpecT) := []
theorem cs_law19spoil : AllSound Tryd.prog ct_law19spoil := trivial
-- loop 0 (key 2) exit 0: [1, 8, 9]
-- loop 0 (key 2) exit 3: [1]
-- loop 1 (key 7) exit 0: [1, 22, 23]
-- loop 1 (key 7) exit 5: [1]
-- loop 2 (key 12) exit 0: [1, 36, 37]
-- loop 2 (key 12) exit 7: [1]
-- loop 3 (key 17) exit 0: [1, 52, 53]
-- loop 3 (key 17) exit 9: []
abbrev kp_law19spoil : Keep := keepT [(2, 0, [(1, none), (8, none), (9, none)]), (2, 3, [(1, none)]), (7, 0, [(1, none), (22, none), (23, none)]), (7, 5, [(1, none)]), (12, 0, [(1, none), (36, none), (37, none)]), (12, 7, [(1, none)]), (17, 0, [(1, none), (52, none), (53, none)]), (17, 9, [])]
noncomputable abbrev b_law19spoil_0 : Code := loopAt Tryd.f22 0
noncomputable abbrev b_law19spoil_1 : Code := loopAt Tryd.f22 1
noncomputable abbrev b_law19spoil_2 : Code := loopAt Tryd.f22 2
noncomputable abbrev b_law19spoil_3 : Code := loopAt Tryd.f22 3
noncomputable def sp_law19spoil_3 (x : ((List Int) × (List Int) × (List (Int × Bool × List UInt8)) × (List (Int × Int)) × (Unit × Unit × Unit × Unit × (Bool × (List UInt8 × List UInt8 × Int × Int × (Int × Int × Int × Int × Int) × (Int × Int × Int × Int × Int)))) × Int × Int)) : Option (((List Int) × (List Int) × (List (Int × Bool × List UInt8)) × (List (Int × Int)) × (Unit × Unit × Unit × Unit × (Bool × (List UInt8 × List UInt8 × Int × Int × (Int × Int × Int × Int × Int) × (Int × Int × Int × Int × Int)))) × Int × Int) ⊕ ((List Int) × (List Int) × (List (Int × Bool × List UInt8)) × (List (Int × Int)))) := (stepL Tryd.prog (lookT ct_law19spoil) kp_law19spoil (loopsT []) 4 false b_law19spoil_3 (codP [(.mem cI), (.mem cI), (.mem cTyp), (.mem cCor), (.boxw [.r 0, .r 1, .r 2, .r 3, .p cTail]), pI, pI]) (exO (.ext 6) (codP [(.mem cI), (.mem cI), (.mem cTyp), (.mem cCor)])) x).run
noncomputable def w_law19spoil_3 : ((List Int) × (List Int) × (List (Int × Bool × List UInt8)) × (List (Int × Int)) × (Unit × Unit × Unit × Unit × (Bool × (List UInt8 × List UInt8 × Int × Int × (Int × Int × Int × Int × Int) × (Int × Int × Int × Int × Int)))) × Int × Int) → Option ((List Int) × (List Int) × (List (Int × Bool × List UInt8)) × (List (Int × Int))) := whileO sp_law19spoil_3
theorem ew_law19spoil_3 (x : ((List Int) × (List Int) × (List (Int × Bool × List UInt8)) × (List (Int × Int)) × (Unit × Unit × Unit × Unit × (Bool × (List UInt8 × List UInt8 × Int × Int × (Int × Int × Int × Int × Int) × (Int × Int × Int × Int × Int)))) × Int × Int)) : w_law19spoil_3 x = (sp_law19spoil_3 x).bind (Sum.elim w_law19spoil_3 some) := whileO_eq _ _
noncomputable abbrev l_law19spoil_3 : LT := ltF (codP [(.mem cI), (.mem cI), (.mem cTyp), (.mem cCor), (.boxw [.r 0, .r 1, .r 2, .r 3, .p cTail]), pI, pI]) (exO (.ext 6) (codP [(.mem cI), (.mem cI), (.mem cTyp), (.mem cCor)])) w_law19spoil_3
theorem lo_law19spoil_3 : LoopOk Tryd.prog Tryd.f22.ntmps kp_law19spoil 4 false b_law19spoil_3 l_law19spoil_3 := loopG mixed cs_law19spoil (lps := loopsT []) (by kernel_rfl) (ls := []) (by kernel_rfl) lps_nil
noncomputable def sp_law19spoil_2 (x : ((List Int) × (List Int) × (List (Int × Bool × List UInt8)) × (List (Int × Int)) × (Unit × Unit × Unit × Unit × (Bool × (List UInt8 × List UInt8 × Int × Int × (Int × Int × Int × Int × Int) × (Int × Int × Int × Int × Int)))) × Int × Int)) : Option (((List Int) × (List Int) × (List (Int × Bool × List UInt8)) × (List (Int × Int)) × (Unit × Unit × Unit × Unit × (Bool × (List UInt8 × List UInt8 × Int × Int × (Int × Int × Int × Int × Int) × (Int × Int × Int × Int × Int)))) × Int × Int) ⊕ ((List Int) × (List Int) × (List (Int × Bool × List UInt8)) × (List (Int × Int)) × (Unit × Unit × Unit × Unit × (Bool × (List UInt8 × List UInt8 × Int × Int × (Int × Int × Int × Int × Int) × (Int × Int × Int × Int × Int)))))) := (stepL Tryd.prog (lookT ct_law19spoil) kp_law19spoil (loopsT []) 4 false b_law19spoil_2 (codP [(.mem cI), (.mem cI), (.mem cTyp), (.mem cCor), (.boxw [.r 0, .r 1, .r 2, .r 3, .p cTail]), pI, pI]) (exO (.ext 4) (codP [(.mem cI), (.mem cI), (.mem cTyp), (.mem cCor), (.boxw [.r 0, .r 1, .r 2, .r 3, .p cTail])])) x).run
noncomputable def w_law19spoil_2 : ((List Int) × (List Int) × (List (Int × Bool × List UInt8)) × (List (Int × Int)) × (Unit × Unit × Unit × Unit × (Bool × (List UInt8 × List UInt8 × Int × Int × (Int × Int × Int × Int × Int) × (Int × Int × Int × Int × Int)))) × Int × Int) → Option ((List Int) × (List Int) × (List (Int × Bool × List UInt8)) × (List (Int × Int)) × (Unit × Unit × Unit × Unit × (Bool × (List UInt8 × List UInt8 × Int × Int × (Int × Int × Int × Int × Int) × (Int × Int × Int × Int × Int))))) := whileO sp_law19spoil_2
theorem ew_law19spoil_2 (x : ((List Int) × (List Int) × (List (Int × Bool × List UInt8)) × (List (Int × Int)) × (Unit × Unit × Unit × Unit × (Bool × (List UInt8 × List UInt8 × Int × Int × (Int × Int × Int × Int × Int) × (Int × Int × Int × Int × Int)))) × Int × Int)) : w_law19spoil_2 x = (sp_law19spoil_2 x).bind (Sum.elim w_law19spoil_2 some) := whileO_eq _ _
noncomputable abbrev l_law19spoil_2 : LT := ltF (codP [(.mem cI), (.mem cI), (.mem cTyp), (.mem cCor), (.boxw [.r 0, .r 1, .r 2, .r 3, .p cTail]), pI, pI]) (exO (.ext 4) (codP [(.mem cI), (.mem cI), (.mem cTyp), (.mem cCor), (.boxw [.r 0, .r 1, .r 2, .r 3, .p cTail])])) w_law19spoil_2
theorem lo_law19spoil_2 : LoopOk Tryd.prog Tryd.f22.ntmps kp_law19spoil 4 false b_law19spoil_2 l_law19spoil_2 := loopG mixed cs_law19spoil (lps := loopsT []) (by kernel_rfl) (ls := []) (by kernel_rfl) lps_nil
noncomputable def sp_law19spoil_1 (x : ((List Int) × (List Int) × (List (Int × Bool × List UInt8)) × (List (Int × Int)) × (Unit × Unit × Unit × Unit × (Bool × (List UInt8 × List UInt8 × Int × Int × (Int × Int × Int × Int × Int) × (Int × Int × Int × Int × Int)))) × Int × Int)) : Option (((List Int) × (List Int) × (List (Int × Bool × List UInt8)) × (List (Int × Int)) × (Unit × Unit × Unit × Unit × (Bool × (List UInt8 × List UInt8 × Int × Int × (Int × Int × Int × Int × Int) × (Int × Int × Int × Int × Int)))) × Int × Int) ⊕ ((List Int) × (List Int) × (List (Int × Bool × List UInt8)) × (List (Int × Int)) × (Unit × Unit × Unit × Unit × (Bool × (List UInt8 × List UInt8 × Int × Int × (Int × Int × Int × Int × Int) × (Int × Int × Int × Int × Int)))))) := (stepL Tryd.prog (lookT ct_law19spoil) kp_law19spoil (loopsT []) 4 false b_law19spoil_1 (codP [(.mem cI), (.mem cI), (.mem cTyp), (.mem cCor), (.boxw [.r 0, .r 1, .r 2, .r 3, .p cTail]), pI, pI]) (exO (.ext 2) (codP [(.mem cI), (.mem cI), (.mem cTyp), (.mem cCor), (.boxw [.r 0, .r 1, .r 2, .r 3, .p cTail])])) x).run
noncomputable def w_law19spoil_1 : ((List Int) × (List Int) × (List (Int × Bool × List UInt8)) × (List (Int × Int)) × (Unit × Unit × Unit × Unit × (Bool × (List UInt8 × List UInt8 × Int × Int × (Int × Int × Int × Int × Int) × (Int × Int × Int × Int × Int)))) × Int × Int) → Option ((List Int) × (List Int) × (List (Int × Bool × List UInt8)) × (List (Int × Int)) × (Unit × Unit × Unit × Unit × (Bool × (List UInt8 × List UInt8 × Int × Int × (Int × Int × Int × Int × Int) × (Int × Int × Int × Int × Int))))) := whileO sp_law19spoil_1
theorem ew_law19spoil_1 (x : ((List Int) × (List Int) × (List (Int × Bool × List UInt8)) × (List (Int × Int)) × (Unit × Unit × Unit × Unit × (Bool × (List UInt8 × List UInt8 × Int × Int × (Int × Int × Int × Int × Int) × (Int × Int × Int × Int × Int)))) × Int × Int)) : w_law19spoil_1 x = (sp_law19spoil_1 x).bind (Sum.elim w_law19spoil_1 some) := whileO_eq _ _
noncomputable abbrev l_law19spoil_1 : LT := ltF (codP [(.mem cI), (.mem cI), (.mem cTyp), (.mem cCor), (.boxw [.r 0, .r 1, .r 2, .r 3, .p cTail]), pI, pI]) (exO (.ext 2) (codP [(.mem cI), (.mem cI), (.mem cTyp), (.mem cCor), (.boxw [.r 0, .r 1, .r 2, .r 3, .p cTail])])) w_law19spoil_1
theorem lo_law19spoil_1 : LoopOk Tryd.prog Tryd.f22.ntmps kp_law19spoil 4 false b_law19spoil_1 l_law19spoil_1 := loopG mixed cs_law19spoil (lps := loopsT []) (by kernel_rfl) (ls := []) (by kernel_rfl) lps_nil
noncomputable def sp_law19spoil_0 (x : ((List Int) × (List Int) × (List (Int × Bool × List UInt8)) × (List (Int × Int)) × (Unit × Unit × Unit × Unit × (Bool × (List UInt8 × List UInt8 × Int × Int × (Int × Int × Int × Int × Int) × (Int × Int × Int × Int × Int)))) × Int × Int)) : Option (((List Int) × (List Int) × (List (Int × Bool × List UInt8)) × (List (Int × Int)) × (Unit × Unit × Unit × Unit × (Bool × (List UInt8 × List UInt8 × Int × Int × (Int × Int × Int × Int × Int) × (Int × Int × Int × Int × Int)))) × Int × Int) ⊕ ((List Int) × (List Int) × (List (Int × Bool × List UInt8)) × (List (Int × Int)) × (Unit × Unit × Unit × Unit × (Bool × (List UInt8 × List UInt8 × Int × Int × (Int × Int × Int × Int × Int) × (Int × Int × Int × Int × Int)))))) := (stepL Tryd.prog (lookT ct_law19spoil) kp_law19spoil (loopsT []) 4 false b_law19spoil_0 (codP [(.mem cI), (.mem cI), (.mem cTyp), (.mem cCor), (.boxw [.r 0, .r 1, .r 2, .r 3, .p cTail]), pI, pI]) (exO (.ext 0) (codP [(.mem cI), (.mem cI), (.mem cTyp), (.mem cCor), (.boxw [.r 0, .r 1, .r 2, .r 3, .p cTail])])) x).run
noncomputable def w_law19spoil_0 : ((List Int) × (List Int) × (List (Int × Bool × List UInt8)) × (List (Int × Int)) × (Unit × Unit × Unit × Unit × (Bool × (List UInt8 × List UInt8 × Int × Int × (Int × Int × Int × Int × Int) × (Int × Int × Int × Int × Int)))) × Int × Int) → Option ((List Int) × (List Int) × (List (Int × Bool × List UInt8)) × (List (Int × Int)) × (Unit × Unit × Unit × Unit × (Bool × (List UInt8 × List UInt8 × Int × Int × (Int × Int × Int × Int × Int) × (Int × Int × Int × Int × Int))))) := whileO sp_law19spoil_0
theorem ew_law19spoil_0 (x : ((List Int) × (List Int) × (List (Int × Bool × List UInt8)) × (List (Int × Int)) × (Unit × Unit × Unit × Unit × (Bool × (List UInt8 × List UInt8 × Int × Int × (Int × Int × Int × Int × Int) × (Int × Int × Int × Int × Int)))) × Int × Int)) : w_law19spoil_0 x = (sp_law19spoil_0 x).bind (Sum.elim w_law19spoil_0 some) := whileO_eq _ _
noncomputable abbrev l_law19spoil_0 : LT := ltF (codP [(.mem cI), (.mem cI), (.mem cTyp), (.mem cCor), (.boxw [.r 0, .r 1, .r 2, .r 3, .p cTail]), pI, pI]) (exO (.ext 0) (codP [(.mem cI), (.mem cI), (.mem cTyp), (.mem cCor), (.boxw [.r 0, .r 1, .r 2, .r 3, .p cTail])])) w_law19spoil_0
theorem lo_law19spoil_0 : LoopOk Tryd.prog Tryd.f22.ntmps kp_law19spoil 4 false b_law19spoil_0 l_law19spoil_0 := loopG mixed cs_law19spoil (lps := loopsT []) (by kernel_rfl) (ls := []) (by kernel_rfl) lps_nil
noncomputable def F_law19spoil (x : (((List Int) × (List Int) × (List (Int × Bool × List UInt8)) × (List (Int × Int)) × (Bool × (List UInt8 × List UInt8 × Int × Int × (Int × Int × Int × Int × Int) × (Int × Int × Int × Int × Int)))))) : Option ((List Int) × (List Int) × (List (Int × Bool × List UInt8)) × (List (Int × Int))) := (evalF Tryd.prog (lookT ct_law19spoil) (kp_law19spoil) (loopsT [(2, l_law19spoil_0), (7, l_law19spoil_1), (12, l_law19spoil_2), (17, l_law19spoil_3)]) false false Tryd.f22 (codP [(.aggw [.o cI, .o cI, .o cTyp, .o cCor, .p cTail])]) 0 (codP [(.mem cI), (.mem cI), (.mem cTyp), (.mem cCor)]) x).run
noncomputable abbrev s_law19spoil : SpecT := specF (codP [(.aggw [.o cI, .o cI, .o cTyp, .o cCor, .p cTail])]) 0 (codP [(.mem cI), (.mem cI), (.mem cTyp), (.mem cCor)]) F_law19spoil
theorem so_law19spoil : SoundT Tryd.prog 22 s_law19spoil := (soundG (P := Tryd.prog) mixed (t := ct_law19spoil) cs_law19spoil (f := 22) (fn := Tryd.f22) Tryd.func22 (by kernel_rfl) (by kernel_rfl) (by kernel_rfl) (ls := [b_law19spoil_0, b_law19spoil_1, b_law19spoil_2, b_law19spoil_3]) (by kernel_rfl) (kp := kp_law19spoil) (lps := loopsT [(2, l_law19spoil_0), (7, l_law19spoil_1), (12, l_law19spoil_2), (17, l_law19spoil_3)]) (bump := false) (ice := false) (A := (codP [(.aggw [.o cI, .o cI, .o cTyp, .o cCor, .p cTail])])) (n := 0) (R := (codP [(.mem cI), (.mem cI), (.mem cTyp), (.mem cCor)])) fun _ => (lps_cons l_law19spoil_0 (by kernel_rfl) lo_law19spoil_0 (lps_cons l_law19spoil_1 (by kernel_rfl) lo_law19spoil_1 (lps_cons l_law19spoil_2 (by kernel_rfl) lo_law19spoil_2 (lps_cons l_law19spoil_3 (by kernel_rfl) lo_law19spoil_3 lps_nil)))))

/-! ### horologe/horologeref19.Same -/
noncomputable abbrev ct_r9Same : List (FuncId × Bool × SpecT) := []
theorem cs_r9Same : AllSound Tryd.prog ct_r9Same := trivial
-- loop 0 (key 4) exit 0: [2, 3, 5]
-- loop 0 (key 4) exit 2: [4]
-- loop 0 (key 4) exit 3: [2, 3]
-- loop 1 (key 9) exit 0: [2, 3, 6]
-- loop 1 (key 9) exit 2: [4]
-- loop 1 (key 9) exit 5: [2, 3]
-- loop 2 (key 14) exit 0: [2, 3, 7]
-- loop 2 (key 14) exit 2: [4]
-- loop 2 (key 14) exit 7: [2, 3]
-- loop 3 (key 19) exit 0: [2, 3, 8]
-- loop 3 (key 19) exit 2: [4]
-- loop 3 (key 19) exit 9: []
abbrev kp_r9Same : Keep := keepT [(4, 0, [(2, none), (3, none), (5, none)]), (4, 2, [(4, none)]), (4, 3, [(2, none), (3, none)]), (9, 0, [(2, none), (3, none), (6, none)]), (9, 2, [(4, none)]), (9, 5, [(2, none), (3, none)]), (14, 0, [(2, none), (3, none), (7, none)]), (14, 2, [(4, none)]), (14, 7, [(2, none), (3, none)]), (19, 0, [(2, none), (3, none), (8, none)]), (19, 2, [(4, none)]), (19, 9, [])]
noncomputable abbrev b_r9Same_0 : Code := loopAt Tryd.f18 0
noncomputable abbrev b_r9Same_1 : Code := loopAt Tryd.f18 1
noncomputable abbrev b_r9Same_2 : Code := loopAt Tryd.f18 2
noncomputable abbrev b_r9Same_3 : Code := loopAt Tryd.f18 3
noncomputable def sp_r9Same_3 (x : ((List Int × List Int × List (Int × Bool × List UInt8) × List (Int × Int) × Bool × (List UInt8 × List UInt8 × Int × Int × (Int × Int × Int × Int × Int) × (Int × Int × Int × Int × Int))) × (List Int × List Int × List (Int × Bool × List UInt8) × List (Int × Int) × Bool × (List UInt8 × List UInt8 × Int × Int × (Int × Int × Int × Int × Int) × (Int × Int × Int × Int × Int))) × Int)) : Option (((List Int × List Int × List (Int × Bool × List UInt8) × List (Int × Int) × Bool × (List UInt8 × List UInt8 × Int × Int × (Int × Int × Int × Int × Int) × (Int × Int × Int × Int × Int))) × (List Int × List Int × List (Int × Bool × List UInt8) × List (Int × Int) × Bool × (List UInt8 × List UInt8 × Int × Int × (Int × Int × Int × Int × Int) × (Int × Int × Int × Int × Int))) × Int) ⊕ ((Bool) ⊕ Unit)) := (stepL Tryd.prog (lookT ct_r9Same) kp_r9Same (loopsT []) 0 false b_r9Same_3 (codP [(.boxw [.p cZone]), (.boxw [.p cZone]), pI]) (exS (exO .ret (codP [pB])) (exO (.ext 6) (codP []))) x).run
noncomputable def w_r9Same_3 : ((List Int × List Int × List (Int × Bool × List UInt8) × List (Int × Int) × Bool × (List UInt8 × List UInt8 × Int × Int × (Int × Int × Int × Int × Int) × (Int × Int × Int × Int × Int))) × (List Int × List Int × List (Int × Bool × List UInt8) × List (Int × Int) × Bool × (List UInt8 × List UInt8 × Int × Int × (Int × Int × Int × Int × Int) × (Int × Int × Int × Int × Int))) × Int) → Option ((Bool) ⊕ Unit) := whileO sp_r9Same_3
theorem ew_r9Same_3 (x : ((List Int × List Int × List (Int × Bool × List UInt8) × List (Int × Int) × Bool × (List UInt8 × List UInt8 × Int × Int × (Int × Int × Int × Int × Int) × (Int × Int × Int × Int × Int))) × (List Int × List Int × List (Int × Bool × List UInt8) × List (Int × Int) × Bool × (List UInt8 × List UInt8 × Int × Int × (Int × Int × Int × Int × Int) × (Int × Int × Int × Int × Int))) × Int)) : w_r9Same_3 x = (sp_r9Same_3 x).bind (Sum.elim w_r9Same_3 some) := whileO_eq _ _
noncomputable abbrev l_r9Same_3 : LT := ltF (codP [(.boxw [.p cZone]), (.boxw [.p cZone]), pI]) (exS (exO .ret (codP [pB])) (exO (.ext 6) (codP []))) w_r9Same_3
theorem lo_r9Same_3 : LoopOk Tryd.prog Tryd.f18.ntmps kp_r9Same 0 false b_r9Same_3 l_r9Same_3 := loopG mixed cs_r9Same (lps := loopsT []) (by kernel_rfl) (ls := []) (by kernel_rfl) lps_nil
noncomputable def sp_r9Same_2 (x : ((List Int × List Int × List (Int × Bool × List UInt8) × List (Int × Int) × Bool × (List UInt8 × List UInt8 × Int × Int × (Int × Int × Int × Int × Int) × (Int × Int × Int × Int × Int))) × (List Int × List Int × List (Int × Bool × List UInt8) × List (Int × Int) × Bool × (List UInt8 × List UInt8 × Int × Int × (Int × Int × Int × Int × Int) × (Int × Int × Int × Int × Int))) × Int)) : Option (((List Int × List Int × List (Int × Bool × List UInt8) × List (Int × Int) × Bool × (List UInt8 × List UInt8 × Int × Int × (Int × Int × Int × Int × Int) × (Int × Int × Int × Int × Int))) × (List Int × List Int × List (Int × Bool × List UInt8) × List (Int × Int) × Bool × (List UInt8 × List UInt8 × Int × Int × (Int × Int × Int × Int × Int) × (Int × Int × Int × Int × Int))) × Int) ⊕ ((Bool) ⊕ ((List Int × List Int × List (Int × Bool × List UInt8) × List (Int × Int) × Bool × (List UInt8 × List UInt8 × Int × Int × (Int × Int × Int × Int × Int) × (Int × Int × Int × Int × Int))) × (List Int × List Int × List (Int × Bool × List UInt8) × List (Int × Int) × Bool × (List UInt8 × List UInt8 × Int × Int × (Int × Int × Int × Int × Int) × (Int × Int × Int × Int × Int)))))) := (stepL Tryd.prog (lookT ct_r9Same) kp_r9Same (loopsT []) 0 false b_r9Same_2 (codP [(.boxw [.p cZone]), (.boxw [.p cZone]), pI]) (exS (exO .ret (codP [pB])) (exO (.ext 4) (codP [(.boxw [.p cZone]), (.boxw [.p cZone])]))) x).run
noncomputable def w_r9Same_2 : ((List Int × List Int × List (Int × Bool × List UInt8) × List (Int × Int) × Bool × (List UInt8 × List UInt8 × Int × Int × (Int × Int × Int × Int × Int) × (Int × Int × Int × Int × Int))) × (List Int × List Int × List (Int × Bool × List UInt8) × List (Int × Int) × Bool × (List UInt8 × List UInt8 × Int × Int × (Int × Int × Int × Int × Int) × (Int × Int × Int × Int × Int))) × Int) → Option ((Bool) ⊕ ((List Int × List Int × List (Int × Bool × List UInt8) × List (Int × Int) × Bool × (List UInt8 × List UInt8 × Int × Int × (Int × Int × Int × Int × Int) × (Int × Int × Int × Int × Int))) × (List Int × List Int × List (Int × Bool × List UInt8) × List (Int × Int) × Bool × (List UInt8 × List UInt8 × Int × Int × (Int × Int × Int × Int × Int) × (Int × Int × Int × Int × Int))))) := whileO sp_r9Same_2
theorem ew_r9Same_2 (x : ((List Int × List Int × List (Int × Bool × List UInt8) × List (Int × Int) × Bool × (List UInt8 × List UInt8 × Int × Int × (Int × Int × Int × Int × Int) × (Int × Int × Int × Int × Int))) × (List Int × List Int × List (Int × Bool × List UInt8) × List (Int × Int) × Bool × (List UInt8 × List UInt8 × Int × Int × (Int × Int × Int × Int × Int) × (Int × Int × Int × Int × Int))) × Int)) : w_r9Same_2 x = (sp_r9Same_2 x).bind (Sum.elim w_r9Same_2 some) := whileO_eq _ _
noncomputable abbrev l_r9Same_2 : LT := ltF (codP [(.boxw [.p cZone]), (.boxw [.p cZone]), pI]) (exS (exO .ret (codP [pB])) (exO (.ext 4) (codP [(.boxw [.p cZone]), (.boxw [.p cZone])]))) w_r9Same_2
theorem lo_r9Same_2 : LoopOk Tryd.prog Tryd.f18.ntmps kp_r9Same 0 false b_r9Same_2 l_r9Same_2 := loopG mixed cs_r9Same (lps := loopsT []) (by kernel_rfl) (ls := []) (by kernel_rfl) lps_nil
noncomputable def sp_r9Same_1 (x : ((List Int × List Int × List (Int × Bool × List UInt8) × List (Int × Int) × Bool × (List UInt8 × List UInt8 × Int × Int × (Int × Int × Int × Int × Int) × (Int × Int × Int × Int × Int))) × (List Int × List Int × List (Int × Bool × List UInt8) × List (Int × Int) × Bool × (List UInt8 × List UInt8 × Int × Int × (Int × Int × Int × Int × Int) × (Int × Int × Int × Int × Int))) × Int)) : Option (((List Int × List Int × List (Int × Bool × List UInt8) × List (Int × Int) × Bool × (List UInt8 × List UInt8 × Int × Int × (Int × Int × Int × Int × Int) × (Int × Int × Int × Int × Int))) × (List Int × List Int × List (Int × Bool × List UInt8) × List (Int × Int) × Bool × (List UInt8 × List UInt8 × Int × Int × (Int × Int × Int × Int × Int) × (Int × Int × Int × Int × Int))) × Int) ⊕ ((Bool) ⊕ ((List Int × List Int × List (Int × Bool × List UInt8) × List (Int × Int) × Bool × (List UInt8 × List UInt8 × Int × Int × (Int × Int × Int × Int × Int) × (Int × Int × Int × Int × Int))) × (List Int × List Int × List (Int × Bool × List UInt8) × List (Int × Int) × Bool × (List UInt8 × List UInt8 × Int × Int × (Int × Int × Int × Int × Int) × (Int × Int × Int × Int × Int)))))) := (stepL Tryd.prog (lookT ct_r9Same) kp_r9Same (loopsT []) 0 false b_r9Same_1 (codP [(.boxw [.p cZone]), (.boxw [.p cZone]), pI]) (exS (exO .ret (codP [pB])) (exO (.ext 2) (codP [(.boxw [.p cZone]), (.boxw [.p cZone])]))) x).run
noncomputable def w_r9Same_1 : ((List Int × List Int × List (Int × Bool × List UInt8) × List (Int × Int) × Bool × (List UInt8 × List UInt8 × Int × Int × (Int × Int × Int × Int × Int) × (Int × Int × Int × Int × Int))) × (List Int × List Int × List (Int × Bool × List UInt8) × List (Int × Int) × Bool × (List UInt8 × List UInt8 × Int × Int × (Int × Int × Int × Int × Int) × (Int × Int × Int × Int × Int))) × Int) → Option ((Bool) ⊕ ((List Int × List Int × List (Int × Bool × List UInt8) × List (Int × Int) × Bool × (List UInt8 × List UInt8 × Int × Int × (Int × Int × Int × Int × Int) × (Int × Int × Int × Int × Int))) × (List Int × List Int × List (Int × Bool × List UInt8) × List (Int × Int) × Bool × (List UInt8 × List UInt8 × Int × Int × (Int × Int × Int × Int × Int) × (Int × Int × Int × Int × Int))))) := whileO sp_r9Same_1
theorem ew_r9Same_1 (x : ((List Int × List Int × List (Int × Bool × List UInt8) × List (Int × Int) × Bool × (List UInt8 × List UInt8 × Int × Int × (Int × Int × Int × Int × Int) × (Int × Int × Int × Int × Int))) × (List Int × List Int × List (Int × Bool × List UInt8) × List (Int × Int) × Bool × (List UInt8 × List UInt8 × Int × Int × (Int × Int × Int × Int × Int) × (Int × Int × Int × Int × Int))) × Int)) : w_r9Same_1 x = (sp_r9Same_1 x).bind (Sum.elim w_r9Same_1 some) := whileO_eq _ _
noncomputable abbrev l_r9Same_1 : LT := ltF (codP [(.boxw [.p cZone]), (.boxw [.p cZone]), pI]) (exS (exO .ret (codP [pB])) (exO (.ext 2) (codP [(.boxw [.p cZone]), (.boxw [.p cZone])]))) w_r9Same_1
theorem lo_r9Same_1 : LoopOk Tryd.prog Tryd.f18.ntmps kp_r9Same 0 false b_r9Same_1 l_r9Same_1 := loopG mixed cs_r9Same (lps := loopsT []) (by kernel_rfl) (ls := []) (by kernel_rfl) lps_nil
noncomputable def sp_r9Same_0 (x : ((List Int × List Int × List (Int × Bool × List UInt8) × List (Int × Int) × Bool × (List UInt8 × List UInt8 × Int × Int × (Int × Int × Int × Int × Int) × (Int × Int × Int × Int × Int))) × (List Int × List Int × List (Int × Bool × List UInt8) × List (Int × Int) × Bool × (List UInt8 × List UInt8 × Int × Int × (Int × Int × Int × Int × Int) × (Int × Int × Int × Int × Int))) × Int)) : Option (((List Int × List Int × List (Int × Bool × List UInt8) × List (Int × Int) × Bool × (List UInt8 × List UInt8 × Int × Int × (Int × Int × Int × Int × Int) × (Int × Int × Int × Int × Int))) × (List Int × List Int × List (Int × Bool × List UInt8) × List (Int × Int) × Bool × (List UInt8 × List UInt8 × Int × Int × (Int × Int × Int × Int × Int) × (Int × Int × Int × Int × Int))) × Int) ⊕ ((Bool) ⊕ ((List Int × List Int × List (Int × Bool × List UInt8) × List (Int × Int) × Bool × (List UInt8 × List UInt8 × Int × Int × (Int × Int × Int × Int × Int) × (Int × Int × Int × Int × Int))) × (List Int × List Int × List (Int × Bool × List UInt8) × List (Int × Int) × Bool × (List UInt8 × List UInt8 × Int × Int × (Int × Int × Int × Int × Int) × (Int × Int × Int × Int × Int)))))) := (stepL Tryd.prog (lookT ct_r9Same) kp_r9Same (loopsT []) 0 false b_r9Same_0 (codP [(.boxw [.p cZone]), (.boxw [.p cZone]), pI]) (exS (exO .ret (codP [pB])) (exO (.ext 0) (codP [(.boxw [.p cZone]), (.boxw [.p cZone])]))) x).run
noncomputable def w_r9Same_0 : ((List Int × List Int × List (Int × Bool × List UInt8) × List (Int × Int) × Bool × (List UInt8 × List UInt8 × Int × Int × (Int × Int × Int × Int × Int) × (Int × Int × Int × Int × Int))) × (List Int × List Int × List (Int × Bool × List UInt8) × List (Int × Int) × Bool × (List UInt8 × List UInt8 × Int × Int × (Int × Int × Int × Int × Int) × (Int × Int × Int × Int × Int))) × Int) → Option ((Bool) ⊕ ((List Int × List Int × List (Int × Bool × List UInt8) × List (Int × Int) × Bool × (List UInt8 × List UInt8 × Int × Int × (Int × Int × Int × Int × Int) × (Int × Int × Int × Int × Int))) × (List Int × List Int × List (Int × Bool × List UInt8) × List (Int × Int) × Bool × (List UInt8 × List UInt8 × Int × Int × (Int × Int × Int × Int × Int) × (Int × Int × Int × Int × Int))))) := whileO sp_r9Same_0
theorem ew_r9Same_0 (x : ((List Int × List Int × List (Int × Bool × List UInt8) × List (Int × Int) × Bool × (List UInt8 × List UInt8 × Int × Int × (Int × Int × Int × Int × Int) × (Int × Int × Int × Int × Int))) × (List Int × List Int × List (Int × Bool × List UInt8) × List (Int × Int) × Bool × (List UInt8 × List UInt8 × Int × Int × (Int × Int × Int × Int × Int) × (Int × Int × Int × Int × Int))) × Int)) : w_r9Same_0 x = (sp_r9Same_0 x).bind (Sum.elim w_r9Same_0 some) := whileO_eq _ _
noncomputable abbrev l_r9Same_0 : LT := ltF (codP [(.boxw [.p cZone]), (.boxw [.p cZone]), pI]) (exS (exO .ret (codP [pB])) (exO (.ext 0) (codP [(.boxw [.p cZone]), (.boxw [.p cZone])]))) w_r9Same_0
theorem lo_r9Same_0 : LoopOk Tryd.prog Tryd.f18.ntmps kp_r9Same 0 false b_r9Same_0 l_r9Same_0 := loopG mixed cs_r9Same (lps := loopsT []) (by kernel_rfl) (ls := []) (by kernel_rfl) lps_nil
noncomputable def F_r9Same (x : ((List Int × List Int × List (Int × Bool × List UInt8) × List (Int × Int) × Bool × (List UInt8 × List UInt8 × Int × Int × (Int × Int × Int × Int × Int) × (Int × Int × Int × Int × Int))) × (List Int × List Int × List (Int × Bool × List UInt8) × List (Int × Int) × Bool × (List UInt8 × List UInt8 × Int × Int × (Int × Int × Int × Int × Int) × (Int × Int × Int × Int × Int))))) : Option (Bool) := (evalF Tryd.prog (lookT ct_r9Same) (kp_r9Same) (loopsT [(4, l_r9Same_0), (9, l_r9Same_1), (14, l_r9Same_2), (19, l_r9Same_3)]) false false Tryd.f18 (codP [pZone, pZone]) 1 (codP [pB]) x).run
noncomputable abbrev s_r9Same : SpecT := specF (codP [pZone, pZone]) 1 (codP [pB]) F_r9Same
theorem so_r9Same : SoundT Tryd.prog 18 s_r9Same := (soundG (P := Tryd.prog) mixed (t := ct_r9Same) cs_r9Same (f := 18) (fn := Tryd.f18) Tryd.func18 (by kernel_rfl) (by kernel_rfl) (by kernel_rfl) (ls := [b_r9Same_0, b_r9Same_1, b_r9Same_2, b_r9Same_3]) (by kernel_rfl) (kp := kp_r9Same) (lps := loopsT [(4, l_r9Same_0), (9, l_r9Same_1), (14, l_r9Same_2), (19, l_r9Same_3)]) (bump := false) (ice := false) (A := (codP [pZone, pZone])) (n := 1) (R := (codP [pB])) fun _ => (lps_cons l_r9Same_0 (by kernel_rfl) lo_r9Same_0 (lps_cons l_r9Same_1 (by kernel_rfl) lo_r9Same_1 (lps_cons l_r9Same_2 (by kernel_rfl) lo_r9Same_2 (lps_cons l_r9Same_3 (by kernel_rfl) lo_r9Same_3 lps_nil)))))

/-! ### horologe/horologelaw19.ZoneSame -/
noncomputable abbrev ct_lawZoneSame : List (FuncId × Bool × SpecT) := [(15, false, s_law19alive), (16, false, s_law19Long), (19, false, s_law19Document), (17, true, s_zSame), (18, false, s_r9Same), (20, false, s_law19own), (21, true, s_zCopy), (22, false, s_law19spoil)]
theorem cs_lawZoneSame : AllSound Tryd.prog ct_lawZoneSame := ⟨so_law19alive, so_law19Long, so_law19Document, so_zSame, so_r9Same, so_law19own, so_zCopy, so_law19spoil, trivial⟩
noncomputable def F_lawZoneSame (x : ((List Int × List Int × List (Int × Bool × List UInt8) × List (Int × Int) × Bool × (List UInt8 × List UInt8 × Int × Int × (Int × Int × Int × Int × Int) × (Int × Int × Int × Int × Int))) × (List Int × List Int × List (Int × Bool × List UInt8) × List (Int × Int) × Bool × (List UInt8 × List UInt8 × Int × Int × (Int × Int × Int × Int × Int) × (Int × Int × Int × Int × Int))))) : Option (Bool) := (evalF Tryd.prog (lookT ct_lawZoneSame) (keepT []) (loopsT []) false false Tryd.f4 (codP [pZone, pZone]) 1 (codP [pB]) x).run
noncomputable abbrev s_lawZoneSame : SpecT := specF (codP [pZone, pZone]) 1 (codP [pB]) F_lawZoneSame
theorem so_lawZoneSame : SoundT Tryd.prog 4 s_lawZoneSame := (soundG (P := Tryd.prog) mixed (t := ct_lawZoneSame) cs_lawZoneSame (f := 4) (fn := Tryd.f4) Tryd.func4 (by kernel_rfl) (by kernel_rfl) (by kernel_rfl) (ls := []) (by kernel_rfl) (kp := keepT []) (lps := loopsT []) (bump := false) (ice := false) (A := (codP [pZone, pZone])) (n := 1) (R := (codP [pB])) fun _ => lps_nil)


end Go.Sm
/- The same zones, copies; the law ZoneSame. As trees. No condition. -/
set_option linter.unusedVariables false
namespace Go.Sm
open Go.Proofs
theorem es_eqA_0 (a b : List Int) (n i : Int) : sp_eqA_0 (a, b, n, i) = (
  bif decide (i < n) then (getI a i).bind fun x1 => (getI b i).bind fun x2 => bif decide (x1 ≠ x2) then some (Sum.inr (Sum.inl false)) else some (Sum.inl (a, b, n, IntKind.i64.wrap (i + (1 : Int))))
  else some (Sum.inr (Sum.inr ()))) := by kernel_rfl


theorem e_eqA (a b : List Int) : F_eqA (a, b) = (
  bif decide ((↑a.length : Int) ≠ (↑b.length : Int)) then some false else (w_eqA_0 (a, b, (↑a.length : Int), (0 : Int))).bind fun x1 => Sum.elim (fun x2 => some x2) (fun x2 => some true) x1) := by kernel_rfl


theorem es_eqB_0 (a b : List Int) (n i : Int) : sp_eqB_0 (a, b, n, i) = (
  bif decide (i < n) then (getI a i).bind fun x1 => (getI b i).bind fun x2 => bif decide (x1 ≠ x2) then some (Sum.inr (Sum.inl false)) else some (Sum.inl (a, b, n, IntKind.i64.wrap (i + (1 : Int))))
  else some (Sum.inr (Sum.inr ()))) := by kernel_rfl


theorem e_eqB (a b : List Int) : F_eqB (a, b) = (
  bif decide ((↑a.length : Int) ≠ (↑b.length : Int)) then some false else (w_eqB_0 (a, b, (↑a.length : Int), (0 : Int))).bind fun x1 => Sum.elim (fun x2 => some x2) (fun x2 => some true) x1) := by kernel_rfl


theorem es_eqT_0 (a b : List (Int × Bool × List UInt8)) (n i : Int) : sp_eqT_0 (a, b, n, i) = (
  bif decide (i < n) then
    (getI a i).bind fun x1 =>
      (getI b i).bind fun x2 =>
        bif !(decide (x1.fst = x2.fst) && (x1.snd.fst == x2.snd.fst && (decide (x1.snd.snd = x2.snd.snd) && true))) then some (Sum.inr (Sum.inl false))
        else some (Sum.inl (a, b, n, IntKind.i64.wrap (i + (1 : Int))))
  else some (Sum.inr (Sum.inr ()))) := by kernel_rfl


theorem e_eqT (a b : List (Int × Bool × List UInt8)) : F_eqT (a, b) = (
  bif decide ((↑a.length : Int) ≠ (↑b.length : Int)) then some false else (w_eqT_0 (a, b, (↑a.length : Int), (0 : Int))).bind fun x1 => Sum.elim (fun x2 => some x2) (fun x2 => some true) x1) := by kernel_rfl


theorem es_eqC_0 (a b : List (Int × Int)) (n i : Int) : sp_eqC_0 (a, b, n, i) = (
  bif decide (i < n) then
    (getI a i).bind fun x1 =>
      (getI b i).bind fun x2 => bif !(decide (x1.fst = x2.fst) && (decide (x1.snd = x2.snd) && true)) then some (Sum.inr (Sum.inl false)) else some (Sum.inl (a, b, n, IntKind.i64.wrap (i + (1 : Int))))
  else some (Sum.inr (Sum.inr ()))) := by kernel_rfl


theorem e_eqC (a b : List (Int × Int)) : F_eqC (a, b) = (
  bif decide ((↑a.length : Int) ≠ (↑b.length : Int)) then some false else (w_eqC_0 (a, b, (↑a.length : Int), (0 : Int))).bind fun x1 => Sum.elim (fun x2 => some x2) (fun x2 => some true) x1) := by kernel_rfl


theorem e_zSame (y z : List Int × List Int × List (Int × Bool × List UInt8) × List (Int × Int) × Bool × (List UInt8 × List UInt8 × Int × Int × (Int × Int × Int × Int × Int) × (Int × Int × Int × Int × Int))) : F_zSame (y, z) = (
  (F_eqA (y.fst, z.fst)).bind fun x1 =>
    bif x1 then
      (F_eqB (y.snd.fst, z.snd.fst)).bind fun x2 =>
        bif x2 then
          (F_eqT (y.snd.snd.fst, z.snd.snd.fst)).bind fun x3 =>
            bif x3 then
              (F_eqC (y.snd.snd.snd.fst, z.snd.snd.snd.fst)).bind fun x4 =>
                bif x4 then
                  bif y.snd.snd.snd.snd.fst == z.snd.snd.snd.snd.fst then
                    some
                      (decide (y.snd.snd.snd.snd.snd.fst = z.snd.snd.snd.snd.snd.fst) &&
                        (decide (y.snd.snd.snd.snd.snd.snd.fst = z.snd.snd.snd.snd.snd.snd.fst) &&
                          (decide (y.snd.snd.snd.snd.snd.snd.snd.fst = z.snd.snd.snd.snd.snd.snd.snd.fst) &&
                            (decide (y.snd.snd.snd.snd.snd.snd.snd.snd.fst = z.snd.snd.snd.snd.snd.snd.snd.snd.fst) &&
                              (decide (y.snd.snd.snd.snd.snd.snd.snd.snd.snd.fst.fst = z.snd.snd.snd.snd.snd.snd.snd.snd.snd.fst.fst) &&
                                  (decide (y.snd.snd.snd.snd.snd.snd.snd.snd.snd.fst.snd.fst = z.snd.snd.snd.snd.snd.snd.snd.snd.snd.fst.snd.fst) &&
                                    (decide (y.snd.snd.snd.snd.snd.snd.snd.snd.snd.fst.snd.snd.fst = z.snd.snd.snd.snd.snd.snd.snd.snd.snd.fst.snd.snd.fst) &&
                                      (decide (y.snd.snd.snd.snd.snd.snd.snd.snd.snd.fst.snd.snd.snd.fst = z.snd.snd.snd.snd.snd.snd.snd.snd.snd.fst.snd.snd.snd.fst) &&
                                        (decide (y.snd.snd.snd.snd.snd.snd.snd.snd.snd.fst.snd.snd.snd.snd = z.snd.snd.snd.snd.snd.snd.snd.snd.snd.fst.snd.snd.snd.snd) && true)))) &&
                                (decide (y.snd.snd.snd.snd.snd.snd.snd.snd.snd.snd.fst = z.snd.snd.snd.snd.snd.snd.snd.snd.snd.snd.fst) &&
                                    (decide (y.snd.snd.snd.snd.snd.snd.snd.snd.snd.snd.snd.fst = z.snd.snd.snd.snd.snd.snd.snd.snd.snd.snd.snd.fst) &&
                                      (decide (y.snd.snd.snd.snd.snd.snd.snd.snd.snd.snd.snd.snd.fst = z.snd.snd.snd.snd.snd.snd.snd.snd.snd.snd.snd.snd.fst) &&
                                        (decide (y.snd.snd.snd.snd.snd.snd.snd.snd.snd.snd.snd.snd.snd.fst = z.snd.snd.snd.snd.snd.snd.snd.snd.snd.snd.snd.snd.snd.fst) &&
                                          (decide (y.snd.snd.snd.snd.snd.snd.snd.snd.snd.snd.snd.snd.snd.snd = z.snd.snd.snd.snd.snd.snd.snd.snd.snd.snd.snd.snd.snd.snd) && true)))) &&
                                  true))))))
                  else some false
                else some false
            else some false
        else some false
    else some false) := by kernel_rfl


end Go.Sm
/- The same zones, copies; the law ZoneSame. As trees. No condition. -/
set_option linter.unusedVariables false
namespace Go.Sm
open Go.Proofs
theorem es_r9Same_0 (y z : List Int × List Int × List (Int × Bool × List UInt8) × List (Int × Int) × Bool × (List UInt8 × List UInt8 × Int × Int × (Int × Int × Int × Int × Int) × (Int × Int × Int × Int × Int))) (i : Int) : sp_r9Same_0 (y, z, i) = (
  bif decide (i < (↑(List.length y.fst) : Int)) then
    (getI y.fst i).bind fun x1 => (getI z.fst i).bind fun x2 => bif decide (x1 ≠ x2) then some (Sum.inr (Sum.inl false)) else some (Sum.inl (y, z, IntKind.i64.wrap (i + (1 : Int))))
  else some (Sum.inr (Sum.inr (y, z)))) := by kernel_rfl


theorem es_r9Same_1 (y z : List Int × List Int × List (Int × Bool × List UInt8) × List (Int × Int) × Bool × (List UInt8 × List UInt8 × Int × Int × (Int × Int × Int × Int × Int) × (Int × Int × Int × Int × Int))) (i : Int) : sp_r9Same_1 (y, z, i) = (
  bif decide (i < (↑(List.length y.snd.fst) : Int)) then
    (getI y.snd.fst i).bind fun x1 => (getI z.snd.fst i).bind fun x2 => bif decide (x1 ≠ x2) then some (Sum.inr (Sum.inl false)) else some (Sum.inl (y, z, IntKind.i64.wrap (i + (1 : Int))))
  else some (Sum.inr (Sum.inr (y, z)))) := by kernel_rfl


theorem es_r9Same_2 (y z : List Int × List Int × List (Int × Bool × List UInt8) × List (Int × Int) × Bool × (List UInt8 × List UInt8 × Int × Int × (Int × Int × Int × Int × Int) × (Int × Int × Int × Int × Int))) (i : Int) : sp_r9Same_2 (y, z, i) = (
  bif decide (i < (↑(List.length y.snd.snd.fst) : Int)) then
    (getI y.snd.snd.fst i).bind fun x1 =>
      (getI z.snd.snd.fst i).bind fun x2 =>
        bif !(decide (x1.fst = x2.fst) && (x1.snd.fst == x2.snd.fst && (decide (x1.snd.snd = x2.snd.snd) && true))) then some (Sum.inr (Sum.inl false))
        else some (Sum.inl (y, z, IntKind.i64.wrap (i + (1 : Int))))
  else some (Sum.inr (Sum.inr (y, z)))) := by kernel_rfl


theorem es_r9Same_3 (y z : List Int × List Int × List (Int × Bool × List UInt8) × List (Int × Int) × Bool × (List UInt8 × List UInt8 × Int × Int × (Int × Int × Int × Int × Int) × (Int × Int × Int × Int × Int))) (i : Int) : sp_r9Same_3 (y, z, i) = (
  bif decide (i < (↑(List.length y.snd.snd.snd.fst) : Int)) then
    (getI y.snd.snd.snd.fst i).bind fun x1 =>
      (getI z.snd.snd.snd.fst i).bind fun x2 =>
        bif !(decide (x1.fst = x2.fst) && (decide (x1.snd = x2.snd) && true)) then some (Sum.inr (Sum.inl false)) else some (Sum.inl (y, z, IntKind.i64.wrap (i + (1 : Int))))
  else some (Sum.inr (Sum.inr ()))) := by kernel_rfl


theorem e_r9Same (y z : List Int × List Int × List (Int × Bool × List UInt8) × List (Int × Int) × Bool × (List UInt8 × List UInt8 × Int × Int × (Int × Int × Int × Int × Int) × (Int × Int × Int × Int × Int))) : F_r9Same (y, z) = (
  bif decide ((↑(List.length y.fst) : Int) ≠ (↑(List.length z.fst) : Int)) then some false
  else
    bif decide ((↑(List.length y.snd.fst) : Int) ≠ (↑(List.length z.snd.fst) : Int)) then some false
    else
      bif decide ((↑(List.length y.snd.snd.fst) : Int) ≠ (↑(List.length z.snd.snd.fst) : Int)) then some false
      else
        bif decide ((↑(List.length y.snd.snd.snd.fst) : Int) ≠ (↑(List.length z.snd.snd.snd.fst) : Int)) then some false
        else
          bif !y.snd.snd.snd.snd.fst == z.snd.snd.snd.snd.fst then some false
          else
            bif
                !(decide (y.snd.snd.snd.snd.snd.fst = z.snd.snd.snd.snd.snd.fst) &&
                    (decide (y.snd.snd.snd.snd.snd.snd.fst = z.snd.snd.snd.snd.snd.snd.fst) &&
                      (decide (y.snd.snd.snd.snd.snd.snd.snd.fst = z.snd.snd.snd.snd.snd.snd.snd.fst) &&
                        (decide (y.snd.snd.snd.snd.snd.snd.snd.snd.fst = z.snd.snd.snd.snd.snd.snd.snd.snd.fst) &&
                          (decide (y.snd.snd.snd.snd.snd.snd.snd.snd.snd.fst.fst = z.snd.snd.snd.snd.snd.snd.snd.snd.snd.fst.fst) &&
                              (decide (y.snd.snd.snd.snd.snd.snd.snd.snd.snd.fst.snd.fst = z.snd.snd.snd.snd.snd.snd.snd.snd.snd.fst.snd.fst) &&
                                (decide (y.snd.snd.snd.snd.snd.snd.snd.snd.snd.fst.snd.snd.fst = z.snd.snd.snd.snd.snd.snd.snd.snd.snd.fst.snd.snd.fst) &&
                                  (decide (y.snd.snd.snd.snd.snd.snd.snd.snd.snd.fst.snd.snd.snd.fst = z.snd.snd.snd.snd.snd.snd.snd.snd.snd.fst.snd.snd.snd.fst) &&
                                    (decide (y.snd.snd.snd.snd.snd.snd.snd.snd.snd.fst.snd.snd.snd.snd = z.snd.snd.snd.snd.snd.snd.snd.snd.snd.fst.snd.snd.snd.snd) && true)))) &&
                            (decide (y.snd.snd.snd.snd.snd.snd.snd.snd.snd.snd.fst = z.snd.snd.snd.snd.snd.snd.snd.snd.snd.snd.fst) &&
                                (decide (y.snd.snd.snd.snd.snd.snd.snd.snd.snd.snd.snd.fst = z.snd.snd.snd.snd.snd.snd.snd.snd.snd.snd.snd.fst) &&
                                  (decide (y.snd.snd.snd.snd.snd.snd.snd.snd.snd.snd.snd.snd.fst = z.snd.snd.snd.snd.snd.snd.snd.snd.snd.snd.snd.snd.fst) &&
                                    (decide (y.snd.snd.snd.snd.snd.snd.snd.snd.snd.snd.snd.snd.snd.fst = z.snd.snd.snd.snd.snd.snd.snd.snd.snd.snd.snd.snd.snd.fst) &&
                                      (decide (y.snd.snd.snd.snd.snd.snd.snd.snd.snd.snd.snd.snd.snd.snd = z.snd.snd.snd.snd.snd.snd.snd.snd.snd.snd.snd.snd.snd.snd) && true)))) &&
                              true)))))) then
              some false
            else
              (w_r9Same_0 (y, z, (0 : Int))).bind fun x1 =>
                Sum.elim (fun x2 => some x2)
                  (fun x2 =>
                    (w_r9Same_1 (x2.fst, x2.snd, (0 : Int))).bind fun x3 =>
                      Sum.elim (fun x4 => some x4)
                        (fun x4 =>
                          (w_r9Same_2 (x4.fst, x4.snd, (0 : Int))).bind fun x5 =>
                            Sum.elim (fun x6 => some x6) (fun x6 => (w_r9Same_3 (x6.fst, x6.snd, (0 : Int))).bind fun x7 => Sum.elim (fun x8 => some x8) (fun x8 => some true) x7) x5)
                        x3)
                  x1) := by kernel_rfl


end Go.Sm
/- Plain Lean: the same zones (program and reference). -/
set_option linter.unusedVariables false
set_option linter.unusedSimpArgs false
namespace Go.Sm
open Go.Proofs

noncomputable instance plnDec : DecidableEq Pln := fun a b => Classical.propDecidable (a = b)
noncomputable instance zonDec : DecidableEq Zon := fun a b => Classical.propDecidable (a = b)
theorem typ_eq (x y : Typ) : (decide (x.1 = y.1) && (x.2.1 == y.2.1 && (decide (x.2.2 = y.2.2) && true))) = decide (x = y) := by
  obtain ⟨a, b, c⟩ := x
  obtain ⟨d, e, f⟩ := y
  rw [Bool.eq_iff_iff]
  simp
theorem cor_eq (x y : Cor) : (decide (x.1 = y.1) && (decide (x.2 = y.2) && true)) = decide (x = y) := by
  obtain ⟨a, b⟩ := x
  obtain ⟨d, e⟩ := y
  rw [Bool.eq_iff_iff]
  simp
theorem pln_eq (p q : Pln) : (decide (p.1 = q.1) &&
                        (decide (p.2.1 = q.2.1) &&
                          (decide (p.2.2.1 = q.2.2.1) &&
                            (decide (p.2.2.2.1 = q.2.2.2.1) &&
                              (decide (p.2.2.2.2.1.1 = q.2.2.2.2.1.1) &&
                                  (decide (p.2.2.2.2.1.2.1 = q.2.2.2.2.1.2.1) &&
                                    (decide (p.2.2.2.2.1.2.2.1 = q.2.2.2.2.1.2.2.1) &&
                                      (decide (p.2.2.2.2.1.2.2.2.1 = q.2.2.2.2.1.2.2.2.1) &&
                                        (decide (p.2.2.2.2.1.2.2.2.2 = q.2.2.2.2.1.2.2.2.2) && true)))) &&
                                (decide (p.2.2.2.2.2.1 = q.2.2.2.2.2.1) &&
                                    (decide (p.2.2.2.2.2.2.1 = q.2.2.2.2.2.2.1) &&
                                      (decide (p.2.2.2.2.2.2.2.1 = q.2.2.2.2.2.2.2.1) &&
                                        (decide (p.2.2.2.2.2.2.2.2.1 = q.2.2.2.2.2.2.2.2.1) &&
                                          (decide (p.2.2.2.2.2.2.2.2.2 = q.2.2.2.2.2.2.2.2.2) && true)))) &&
                                  true)))))) = decide (p = q) := by
  obtain ⟨a1, a2, a3, a4, ⟨b1, b2, b3, b4, b5⟩, c1, c2, c3, c4, c5⟩ := p
  obtain ⟨d1, d2, d3, d4, ⟨e1, e2, e3, e4, e5⟩, f1, f2, f3, f4, f5⟩ := q
  rw [Bool.eq_iff_iff]
  simp [and_assoc]
/-- A loop over two lists of one length. -/
theorem two_loop {σ γ α β : Type} [DecidableEq γ] {step : σ → Option (σ ⊕ (α ⊕ β))} (st : Nat → σ) (a b : List γ) (hab : a.length = b.length) (x : α) (y : β)
    (h : ∀ i (h1 : i < a.length) (h2 : i < b.length), step (st i) = if decide (a[i] = b[i]) then some (.inl (st (i + 1))) else some (.inr (.inl x))) (h3 : step (st a.length) = some (.inr (.inr y))) :
    whileO step (st 0) = some (if a = b then .inr y else .inl x) := by
  have := scan_ix (step := step) st (fun i => decide (a[i]? = b[i]?)) (.inl x) (.inr y) 0 a.length (fun i _ hi _ => by
    have hi2 : i < b.length := by omega
    rw [h i hi hi2, List.getElem?_eq_getElem hi, List.getElem?_eq_getElem hi2]
    simp) h3 a.length 0 (by omega) (by omega) (fun j _ _ => by omega)
  rw [this]
  congr 1
  have hiff : (List.range' 0 a.length).all (fun i => decide (a[i]? = b[i]?)) = true ↔ a = b := by
    rw [range_all_iff]
    constructor
    · intro hh
      apply List.ext_getElem? 
      intro i
      by_cases hi : i < a.length
      · exact of_decide_eq_true (hh i (by omega) (by omega))
      · rw [List.getElem?_eq_none (by omega), List.getElem?_eq_none (by omega)]
    · rintro rfl
      simp
  by_cases hq : a = b
  · rw [if_pos (hiff.2 hq), if_pos hq]
  · rw [if_neg (fun hh => hq (hiff.1 hh)), if_neg hq]
theorem len_ne {γ : Type} {a b : List γ} (h : (a.length : Int) ≠ (b.length : Int)) : a ≠ b := fun he => h (by rw [he])
theorem eqA (a b : List Int) (hl : midL a.length) : F_eqA (a, b) = some (decide (a = b)) := by
  rw [e_eqA, cond_dec]
  by_cases h : (a.length : Int) ≠ (b.length : Int)
  · rw [if_pos h, decide_eq_false (len_ne h)]
  · have hab : a.length = b.length := by omega
    rw [if_neg h]
    have : w_eqA_0 (a, b, (a.length : Int), 0) = _ := two_loop (step := sp_eqA_0) (fun i => (a, b, (a.length : Int), (i : Int))) a b hab false () (fun i h1 h2 => by
      rw [es_eqA_0, cond_dec, if_pos (by omega), getI_at h1, getI_at h2]
      simp only [Option.bind_some]
      rw [cond_dec, wrap_up (by omega)]
      by_cases he : a[i] = b[i] <;> simp [he]) (by rw [es_eqA_0, cond_dec, if_neg (by omega)])
    rw [this]
    by_cases he : a = b <;> simp [he]
theorem eqB (a b : List Int) (hl : midL a.length) : F_eqB (a, b) = some (decide (a = b)) := by
  rw [e_eqB, cond_dec]
  by_cases h : (a.length : Int) ≠ (b.length : Int)
  · rw [if_pos h, decide_eq_false (len_ne h)]
  · have hab : a.length = b.length := by omega
    rw [if_neg h]
    have : w_eqB_0 (a, b, (a.length : Int), 0) = _ := two_loop (step := sp_eqB_0) (fun i => (a, b, (a.length : Int), (i : Int))) a b hab false () (fun i h1 h2 => by
      rw [es_eqB_0, cond_dec, if_pos (by omega), getI_at h1, getI_at h2]
      simp only [Option.bind_some]
      rw [cond_dec, wrap_up (by omega)]
      by_cases he : a[i] = b[i] <;> simp [he]) (by rw [es_eqB_0, cond_dec, if_neg (by omega)])
    rw [this]
    by_cases he : a = b <;> simp [he]
theorem eqT (a b : List Typ) (hl : midL a.length) : F_eqT (a, b) = some (decide (a = b)) := by
  rw [e_eqT, cond_dec]
  by_cases h : (a.length : Int) ≠ (b.length : Int)
  · rw [if_pos h, decide_eq_false (len_ne h)]
  · have hab : a.length = b.length := by omega
    rw [if_neg h]
    have : w_eqT_0 (a, b, (a.length : Int), 0) = _ := two_loop (step := sp_eqT_0) (fun i => (a, b, (a.length : Int), (i : Int))) a b hab false () (fun i h1 h2 => by
      rw [es_eqT_0, cond_dec, if_pos (by omega), getI_at h1, getI_at h2]
      simp only [Option.bind_some]
      rw [typ_eq, wrap_up (by omega)]
      by_cases he : a[i] = b[i] <;> simp [he]) (by rw [es_eqT_0, cond_dec, if_neg (by omega)])
    rw [this]
    by_cases he : a = b <;> simp [he]
theorem eqC (a b : List Cor) (hl : midL a.length) : F_eqC (a, b) = some (decide (a = b)) := by
  rw [e_eqC, cond_dec]
  by_cases h : (a.length : Int) ≠ (b.length : Int)
  · rw [if_pos h, decide_eq_false (len_ne h)]
  · have hab : a.length = b.length := by omega
    rw [if_neg h]
    have : w_eqC_0 (a, b, (a.length : Int), 0) = _ := two_loop (step := sp_eqC_0) (fun i => (a, b, (a.length : Int), (i : Int))) a b hab false () (fun i h1 h2 => by
      rw [es_eqC_0, cond_dec, if_pos (by omega), getI_at h1, getI_at h2]
      simp only [Option.bind_some]
      rw [cor_eq, wrap_up (by omega)]
      by_cases he : a[i] = b[i] <;> simp [he]) (by rw [es_eqC_0, cond_dec, if_neg (by omega)])
    rw [this]
    by_cases he : a = b <;> simp [he]
structure MidZ (z : Zon) : Prop where
  a : midL z.1.length
  b : midL z.2.1.length
  c : midL z.2.2.1.length
  d : midL z.2.2.2.1.length
theorem zSame (y z : Zon) (h : MidZ y) : F_zSame (y, z) = some (decide (y = z)) := by
  rw [e_zSame, eqA _ _ h.a, eqB _ _ h.b, eqT _ _ h.c, eqC _ _ h.d]
  simp only [Option.bind_some]
  rw [pln_eq]
  obtain ⟨a, b, c, d, r, p⟩ := y
  obtain ⟨a', b', c', d', r', p'⟩ := z
  simp only
  by_cases h1 : a = a' <;> by_cases h2 : b = b' <;> by_cases h3 : c = c' <;> by_cases h4 : d = d' <;> by_cases h6 : p = p' <;> cases r <;> cases r' <;> simp [h1, h2, h3, h4, h6]
theorem r9Same (y z : Zon) (h : MidZ y) : F_r9Same (y, z) = some (decide (y = z)) := by
  rw [e_r9Same, pln_eq]
  have l0 : y.1.length = z.1.length → w_r9Same_0 (y, z, 0) = some (if y.1 = z.1 then .inr (y, z) else .inl false) := fun hab =>
    two_loop (step := sp_r9Same_0) (fun i => (y, z, (i : Int))) y.1 z.1 hab false (y, z) (fun i h1 h2 => by
      have := h.a
      rw [es_r9Same_0, cond_dec, if_pos (by omega), getI_at h1, getI_at h2]
      simp only [Option.bind_some]
      rw [cond_dec, wrap_up (by omega)]
      by_cases he : y.1[i] = z.1[i] <;> simp [he]) (by rw [es_r9Same_0, cond_dec, if_neg (by omega)])
  have l1 : y.2.1.length = z.2.1.length → w_r9Same_1 (y, z, 0) = some (if y.2.1 = z.2.1 then .inr (y, z) else .inl false) := fun hab =>
    two_loop (step := sp_r9Same_1) (fun i => (y, z, (i : Int))) y.2.1 z.2.1 hab false (y, z) (fun i h1 h2 => by
      have := h.b
      rw [es_r9Same_1, cond_dec, if_pos (by omega), getI_at h1, getI_at h2]
      simp only [Option.bind_some]
      rw [cond_dec, wrap_up (by omega)]
      by_cases he : y.2.1[i] = z.2.1[i] <;> simp [he]) (by rw [es_r9Same_1, cond_dec, if_neg (by omega)])
  have l2 : y.2.2.1.length = z.2.2.1.length → w_r9Same_2 (y, z, 0) = some (if y.2.2.1 = z.2.2.1 then .inr (y, z) else .inl false) := fun hab =>
    two_loop (step := sp_r9Same_2) (fun i => (y, z, (i : Int))) y.2.2.1 z.2.2.1 hab false (y, z) (fun i h1 h2 => by
      have := h.c
      rw [es_r9Same_2, cond_dec, if_pos (by omega), getI_at h1, getI_at h2]
      simp only [Option.bind_some]
      rw [typ_eq, wrap_up (by omega)]
      by_cases he : y.2.2.1[i] = z.2.2.1[i] <;> simp [he]) (by rw [es_r9Same_2, cond_dec, if_neg (by omega)])
  have l3 : y.2.2.2.1.length = z.2.2.2.1.length → w_r9Same_3 (y, z, 0) = some (if y.2.2.2.1 = z.2.2.2.1 then .inr () else .inl false) := fun hab =>
    two_loop (step := sp_r9Same_3) (fun i => (y, z, (i : Int))) y.2.2.2.1 z.2.2.2.1 hab false () (fun i h1 h2 => by
      have := h.d
      rw [es_r9Same_3, cond_dec, if_pos (by omega), getI_at h1, getI_at h2]
      simp only [Option.bind_some]
      rw [cor_eq, wrap_up (by omega)]
      by_cases he : y.2.2.2.1[i] = z.2.2.2.1[i] <;> simp [he]) (by rw [es_r9Same_3, cond_dec, if_neg (by omega)])
  have ne : ∀ {X Y : Prop}, (y = z → X) → ¬ X → some false = some (decide (y = z)) := fun hx hn => by rw [decide_eq_false (fun he => hn (hx he))]
  rw [cond_dec]
  by_cases c1 : (y.1.length : Int) ≠ (z.1.length : Int)
  · rw [if_pos c1]
    exact ne (X := y.1 = z.1) (Y := True) (fun he => by rw [he]) (len_ne c1)
  rw [if_neg c1, cond_dec]
  by_cases c2 : (y.2.1.length : Int) ≠ (z.2.1.length : Int)
  · rw [if_pos c2]
    exact ne (X := y.2.1 = z.2.1) (Y := True) (fun he => by rw [he]) (len_ne c2)
  rw [if_neg c2, cond_dec]
  by_cases c3 : (y.2.2.1.length : Int) ≠ (z.2.2.1.length : Int)
  · rw [if_pos c3]
    exact ne (X := y.2.2.1 = z.2.2.1) (Y := True) (fun he => by rw [he]) (len_ne c3)
  rw [if_neg c3, cond_dec]
  by_cases c4 : (y.2.2.2.1.length : Int) ≠ (z.2.2.2.1.length : Int)
  · rw [if_pos c4]
    exact ne (X := y.2.2.2.1 = z.2.2.2.1) (Y := True) (fun he => by rw [he]) (len_ne c4)
  rw [if_neg c4, l0 (by omega)]
  by_cases c5 : y.2.2.2.2.1 = z.2.2.2.2.1
  case neg =>
    have : (!y.2.2.2.2.1 == z.2.2.2.2.1) = true := by simpa using c5
    rw [this, cond_true]
    exact ne (X := y.2.2.2.2.1 = z.2.2.2.2.1) (Y := True) (fun he => by rw [he]) c5
  have : (!y.2.2.2.2.1 == z.2.2.2.2.1) = false := by simpa using c5
  rw [this, cond_false]
  by_cases c6 : y.2.2.2.2.2 = z.2.2.2.2.2
  case neg =>
    rw [decide_eq_false c6, Bool.not_false, cond_true]
    exact ne (X := y.2.2.2.2.2 = z.2.2.2.2.2) (Y := True) (fun he => by rw [he]) c6
  rw [decide_eq_true c6, Bool.not_true, cond_false, Option.bind_some]
  by_cases d1 : y.1 = z.1
  case neg =>
    rw [if_neg d1]
    exact ne (X := y.1 = z.1) (Y := True) (fun he => by rw [he]) d1
  rw [if_pos d1, Sum.elim_inr, l1 (by omega), Option.bind_some]
  by_cases d2 : y.2.1 = z.2.1
  case neg =>
    rw [if_neg d2]
    exact ne (X := y.2.1 = z.2.1) (Y := True) (fun he => by rw [he]) d2
  rw [if_pos d2, Sum.elim_inr, l2 (by omega), Option.bind_some]
  by_cases d3 : y.2.2.1 = z.2.2.1
  case neg =>
    rw [if_neg d3]
    exact ne (X := y.2.2.1 = z.2.2.1) (Y := True) (fun he => by rw [he]) d3
  rw [if_pos d3, Sum.elim_inr, l3 (by omega), Option.bind_some]
  by_cases d4 : y.2.2.2.1 = z.2.2.2.1
  case neg =>
    rw [if_neg d4]
    exact ne (X := y.2.2.2.1 = z.2.2.2.1) (Y := True) (fun he => by rw [he]) d4
  rw [if_pos d4, Sum.elim_inr]
  congr 1
  symm
  apply decide_eq_true
  exact Prod.ext d1 (Prod.ext d2 (Prod.ext d3 (Prod.ext d4 (Prod.ext c5 c6))))
end Go.Sm
/- The same zones, copies; the law ZoneSame. As trees. No condition. -/
set_option linter.unusedVariables false
namespace Go.Sm
open Go.Proofs
theorem e_law19own (z : List Int × List Int × List (Int × Bool × List UInt8) × List (Int × Int) × Bool × (List UInt8 × List UInt8 × Int × Int × (Int × Int × Int × Int × Int) × (Int × Int × Int × Int × Int))) : F_law19own z = (
  bif roomB (0 : Nat) (List.length z.fst) (8 : Nat) then
    bif roomB (0 : Nat) (List.length z.snd.fst) (8 : Nat) then
      bif roomB (0 : Nat) (List.length z.snd.snd.fst) (32 : Nat) then bif roomB (0 : Nat) (List.length z.snd.snd.snd.fst) (16 : Nat) then some z else none else none
    else none
  else none) := by kernel_rfl


theorem es_law19spoil_0 (a b : List Int) (c : List (Int × Bool × List UInt8)) (d : List (Int × Int)) (q : Bool × List UInt8 × List UInt8 × Int × Int × (Int × Int × Int × Int × Int) × (Int × Int × Int × Int × Int)) (n i : Int) : sp_law19spoil_0 (a, b, c, d, ((), (), (), (), q), n, i) = (
  bif decide (i < n) then
    bif decide ((0 : Int) ≤ i ∧ i < (↑a.length : Int)) then
      a[i.toNat]?.bind fun x1 =>
        bif decide ((0 : Int) ≤ i ∧ i < (↑a.length : Int)) then
          a[i.toNat]?.bind fun x2 => some (Sum.inl (a.set i.toNat (IntKind.i64.wrap (x1 + (1 : Int))), b, c, d, ((), (), (), (), q), n, IntKind.i64.wrap (i + (1 : Int))))
        else none
    else none
  else some (Sum.inr (a, b, c, d, (), (), (), (), q))) := by kernel_rfl


theorem es_law19spoil_1 (a b : List Int) (c : List (Int × Bool × List UInt8)) (d : List (Int × Int)) (q : Bool × List UInt8 × List UInt8 × Int × Int × (Int × Int × Int × Int × Int) × (Int × Int × Int × Int × Int)) (n i : Int) : sp_law19spoil_1 (a, b, c, d, ((), (), (), (), q), n, i) = (
  bif decide (i < n) then
    bif decide ((0 : Int) ≤ i ∧ i < (↑b.length : Int)) then
      b[i.toNat]?.bind fun x1 =>
        bif decide ((0 : Int) ≤ i ∧ i < (↑b.length : Int)) then
          b[i.toNat]?.bind fun x2 => some (Sum.inl (a, b.set i.toNat (IntKind.i64.wrap (x1 + (1 : Int))), c, d, ((), (), (), (), q), n, IntKind.i64.wrap (i + (1 : Int))))
        else none
    else none
  else some (Sum.inr (a, b, c, d, (), (), (), (), q))) := by kernel_rfl


theorem es_law19spoil_2 (a b : List Int) (c : List (Int × Bool × List UInt8)) (d : List (Int × Int)) (q : Bool × List UInt8 × List UInt8 × Int × Int × (Int × Int × Int × Int × Int) × (Int × Int × Int × Int × Int)) (n i : Int) : sp_law19spoil_2 (a, b, c, d, ((), (), (), (), q), n, i) = (
  bif decide (i < n) then
    bif decide ((0 : Int) ≤ i ∧ i < (↑c.length : Int)) then
      c[i.toNat]?.bind fun x1 =>
        bif decide ((0 : Int) ≤ i ∧ i < (↑c.length : Int)) then
          c[i.toNat]?.bind fun x2 => some (Sum.inl (a, b, c.set i.toNat (IntKind.i64.wrap (x1.fst + (1 : Int)), x2.snd.fst, x2.snd.snd), d, ((), (), (), (), q), n, IntKind.i64.wrap (i + (1 : Int))))
        else none
    else none
  else some (Sum.inr (a, b, c, d, (), (), (), (), q))) := by kernel_rfl


theorem es_law19spoil_3 (a b : List Int) (c : List (Int × Bool × List UInt8)) (d : List (Int × Int)) (q : Bool × List UInt8 × List UInt8 × Int × Int × (Int × Int × Int × Int × Int) × (Int × Int × Int × Int × Int)) (n i : Int) : sp_law19spoil_3 (a, b, c, d, ((), (), (), (), q), n, i) = (
  bif decide (i < n) then
    bif decide ((0 : Int) ≤ i ∧ i < (↑d.length : Int)) then
      d[i.toNat]?.bind fun x1 =>
        bif decide ((0 : Int) ≤ i ∧ i < (↑d.length : Int)) then
          d[i.toNat]?.bind fun x2 => some (Sum.inl (a, b, c, d.set i.toNat (IntKind.i64.wrap (x1.fst + (1 : Int)), x2.snd), ((), (), (), (), q), n, IntKind.i64.wrap (i + (1 : Int))))
        else none
    else none
  else some (Sum.inr (a, b, c, d))) := by kernel_rfl


theorem e_law19spoil (a b : List Int) (c : List (Int × Bool × List UInt8)) (d : List (Int × Int)) (q : Bool × List UInt8 × List UInt8 × Int × Int × (Int × Int × Int × Int × Int) × (Int × Int × Int × Int × Int)) : F_law19spoil (a, b, c, d, q) = (
  (w_law19spoil_0 (a, b, c, d, ((), (), (), (), q), (↑a.length : Int), (0 : Int))).bind fun x1 =>
    (w_law19spoil_1 (x1.fst, x1.snd.fst, x1.snd.snd.fst, x1.snd.snd.snd.fst, ((), (), (), (), x1.snd.snd.snd.snd.snd.snd.snd.snd), (↑(List.length x1.snd.fst) : Int), (0 : Int))).bind fun x2 =>
      (w_law19spoil_2 (x2.fst, x2.snd.fst, x2.snd.snd.fst, x2.snd.snd.snd.fst, ((), (), (), (), x2.snd.snd.snd.snd.snd.snd.snd.snd), (↑(List.length x2.snd.snd.fst) : Int), (0 : Int))).bind fun x3 =>
        (w_law19spoil_3 (x3.fst, x3.snd.fst, x3.snd.snd.fst, x3.snd.snd.snd.fst, ((), (), (), (), x3.snd.snd.snd.snd.snd.snd.snd.snd), (↑(List.length x3.snd.snd.snd.fst) : Int), (0 : Int))).bind
          fun x4 => some x4) := by kernel_rfl


end Go.Sm
