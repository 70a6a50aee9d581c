/- Plain Lean: plans as texts and their checks (program and reference). -/
import Derived.Test.YtllddkbfeienhaaDoorFooterSteps2
import Derived.Test.YtllddkbfeienhaaDoorFooterSteps1
set_option linter.unusedVariables false
set_option linter.unusedSimpArgs false
namespace Go.Sm
open Go.Proofs

/-- A name's text. -/
def quo (s : List UInt8) : List UInt8 := if s.all (fun c => letters.contains c) then s else [60] ++ s ++ [62]
theorem quo_len (s : List UInt8) : (quo s).length ≤ s.length + 2 := by
  unfold quo
  split <;> simp
theorem pxText (s : List UInt8) (hs : s.length ≤ 1000) : F_pxText s = some (quo s) := by
  have h := pxOf s letters (by unfold small; omega) low_letters
  unfold letters at h
  rw [e_pxText, h]
  simp only [Option.bind_some]
  unfold quo letters
  cases s.all _ with
  | true => rfl
  | false =>
    simp only [cond_false, Bool.false_eq_true, if_false]
    rw [cond_dec, if_pos (by omega), cond_dec, if_pos (by simp; omega)]
theorem r7quoted (s : List UInt8) (hs : s.length ≤ 1000) : F_r7quoted s = some (quo s) := by
  have h := scan_loop (step := sp_r7quoted_0) (fun i => (s, (i : Int))) (fun i => if i < s.length then Sum.inl ([60] ++ s ++ [62]) else Sum.inr s) s (fun c => letters.contains c)
    (fun i h hp => by
      rw [es_r7quoted_0, cond_dec, if_pos (by omega), getI_at h]
      simp only [Option.bind_some]
      rw [r7letter, hp]
      simp only [Option.bind_some, Bool.not_true, cond_false]
      rw [wrap_succ (by omega)])
    (fun i h hp => by
      rw [es_r7quoted_0, cond_dec, if_pos (by omega), getI_at h]
      simp only [Option.bind_some]
      rw [r7letter, hp]
      simp only [Option.bind_some, Bool.not_false, cond_true]
      rw [cond_dec, if_pos (by omega), cond_dec, if_pos (by simp; omega), if_pos h])
    (by rw [es_r7quoted_0, cond_dec, if_neg (by omega), if_neg (by omega)]) 0 (by omega)
  have h : w_r7quoted_0 (s, (0 : Int)) = _ := h
  rw [e_r7quoted, h]
  simp only [Option.bind_some, Nat.zero_add, List.drop_zero]
  have hle := (List.takeWhile_prefix (p := fun c => letters.contains c) (l := s)).length_le
  have hfull := tw_full (fun c => letters.contains c) s
  unfold quo
  by_cases hq : (s.takeWhile fun c => letters.contains c).length < s.length
  · rw [if_pos hq, if_neg (fun hb => by have := hfull.2 hb; omega)]
    rfl
  · rw [if_neg hq, if_pos (hfull.1 (by omega))]
    rfl
theorem roomB_str {n m : Nat} (h : n + m ≤ 1000000) : roomB n m 16 = true := by
  unfold roomB
  simp
  omega
theorem pwPut (l : List (List UInt8)) (s : List UInt8) (h : l.length ≤ 1000) : F_pwPut ((l, (0 : Int)), (), s, (0 : Int)) = some ((l ++ [s], 0), ()) := by
  rw [e_pwPut, roomB_str (by simp; omega)]
  rfl
def rulR (r : Rul) : List UInt8 := rulS r.1 r.2.1.toNat r.2.2.1.toNat r.2.2.2.1.toNat r.2.2.2.2
theorem rul_nat {r : Rul} (h : rckR r = 0) : r = (r.1, ((r.2.1.toNat : Nat) : Int), ((r.2.2.1.toNat : Nat) : Int), ((r.2.2.2.1.toNat : Nat) : Int), r.2.2.2.2) := by
  obtain ⟨k, m, w, d, t⟩ := r
  have := rck_zero (show rck k m w d t = 0 from h)
  simp only [Prod.mk.injEq, true_and, and_true]
  omega
theorem rulePutR {r : Rul} (h : rckR r = 0) : F_rulePut r = some (rulR r, 0) := by
  have hn := rul_nat h
  have := rulePut r.1 r.2.1.toNat r.2.2.1.toNat r.2.2.2.1.toNat r.2.2.2.2 (by rw [hn] at h; exact h)
  rw [← hn] at this
  exact this
theorem r6PutR {r : Rul} (h : rckR r = 0) : F_r6Put r = some (rulR r) := by
  have hn := rul_nat h
  have := r6Put r.1 r.2.1.toNat r.2.2.1.toNat r.2.2.2.1.toNat r.2.2.2.2 (by rw [hn] at h; exact h)
  rw [← hn] at this
  exact this
theorem rulR_len {r : Rul} (h : rckR r = 0) : (rulR r).length ≤ 60 := by
  have := rck_zero (show rck r.1 r.2.1 r.2.2.1 r.2.2.2.1 r.2.2.2.2 = 0 from h)
  exact rulS_len (by omega) (by omega) (by omega) (by omega)
/-- The text of a right plan. -/
def plnS (p : Pln) : List UInt8 :=
  quo p.1 ++ (clkS (-p.2.2.1) ++ (if p.2.1 ≠ [] then quo p.2.1 ++ ((if p.2.2.2.1 ≠ p.2.2.1 + 3600 then clkS (-p.2.2.2.1) else []) ++ ([44] ++ (rulR p.2.2.2.2.1 ++ ([44] ++ rulR p.2.2.2.2.2)))) else []))
theorem pck_zero {p : Pln} (h : pck p = 0) : nameB p.1 = true ∧ (-89999 ≤ p.2.2.1 ∧ p.2.2.1 ≤ 89999) ∧ (-89999 ≤ p.2.2.2.1 ∧ p.2.2.2.1 ≤ 89999) ∧
    ((p.2.1 = [] ∧ p.2.2.2.1 = 0 ∧ isNo p.2.2.2.2.1 = true ∧ isNo p.2.2.2.2.2 = true) ∨ (p.2.1 ≠ [] ∧ nameB p.2.1 = true ∧ rckR p.2.2.2.2.1 = 0 ∧ rckR p.2.2.2.2.2 = 0)) := by
  unfold pck at h
  split at h
  · cases h
  · rename_i h1
    have h1 : nameB p.1 = true := by simpa using h1
    split at h
    · rename_i h2
      split at h
      · cases h
      · rename_i h3
        have h3 : nameB p.2.1 = true := by simpa using h3
        split at h
        · cases h
        · rename_i h4
          have h4 : -89999 ≤ p.2.2.1 ∧ p.2.2.1 ≤ 89999 := by simpa [shB] using h4
          split at h
          · cases h
          · rename_i h5
            have h5 : -89999 ≤ p.2.2.2.1 ∧ p.2.2.2.1 ≤ 89999 := by simpa [shB] using h5
            split at h
            · rename_i h6; exact absurd h h6
            · rename_i h6
              exact ⟨h1, h4, h5, .inr ⟨h2, h3, Decidable.not_not.1 h6, h⟩⟩
    · rename_i h2
      have h2 : p.2.1 = [] := by simpa using h2
      split at h
      · cases h
      · rename_i h3
        split at h
        · cases h
        · rename_i h4
          have h4 : -89999 ≤ p.2.2.1 ∧ p.2.2.1 ≤ 89999 := by simpa [shB] using h4
          split at h
          · cases h
          · rename_i h5
            have h5 : -89999 ≤ p.2.2.2.1 ∧ p.2.2.2.1 ≤ 89999 := by simpa [shB] using h5
            have h3 : p.2.2.2.1 = 0 ∧ isNo p.2.2.2.2.1 = true ∧ isNo p.2.2.2.2.2 = true := by
              have : idleB p.2.2.2.1 p.2.2.2.2.1 p.2.2.2.2.2 = true := by simpa using h3
              unfold idleB at this
              simpa using this
            exact ⟨h1, h4, h5, .inl ⟨h2, h3⟩⟩
theorem nameB_len {s : List UInt8} (h : nameB s = true) : s.length ≤ 16 := by
  unfold nameB at h
  rw [Bool.and_eq_true, decide_eq_true_eq] at h
  exact h.1.2
theorem put_loop (l : List (List UInt8)) (b c : Rul) (hl : l.length ≤ 100) (hb : rckR b = 0) (hc : rckR c = 0) : w_pxPut_0 ((l, (0 : Int)), (), (b, c), (0 : Int)) = some ((l ++ [[44]] ++ [rulR b] ++ [[44]] ++ [rulR c], 0), ()) := by
  rw [ew_pxPut_0, es_pxPut_0, cond_dec, if_pos (by omega), cond_dec, if_pos rfl, pwPut _ _ (by omega)]
  simp only [Option.bind_some]
  rw [rulePutR hb]
  simp only [Option.bind_some]
  rw [pwPut _ _ (by simp; omega)]
  simp only [Option.bind_some, Sum.elim_inl]
  rw [show IntKind.i64.wrap ((0 : Int) + 1) = 1 by decide, ew_pxPut_0, es_pxPut_0, cond_dec, if_pos (by omega), cond_dec, if_neg (by omega), cond_dec, if_pos rfl, pwPut _ _ (by simp; omega)]
  simp only [Option.bind_some]
  rw [rulePutR hc]
  simp only [Option.bind_some]
  rw [pwPut _ _ (by simp; omega)]
  simp only [Option.bind_some, Sum.elim_inl]
  rw [show IntKind.i64.wrap ((1 : Int) + 1) = 2 by decide, ew_pxPut_0, es_pxPut_0, cond_dec, if_neg (by omega)]
  rfl
theorem join_nil (xs : List (List UInt8)) : Lib.join xs [] = xs.flatten := by
  unfold Lib.join List.intercalate
  induction xs with
  | nil => rfl
  | cons a r ih =>
    cases r with
    | nil => rfl
    | cons b r =>
      rw [List.intersperse_cons_cons]
      simp only [List.flatten_cons, List.nil_append] at ih ⊢
      rw [ih]
theorem pxPut_bad (p : Pln) (h1 : small p.1) (h2 : small p.2.1) (h : pck p ≠ 0) : F_pxPut p = some ([], pck p) := by
  rw [e_pxPut, pxCheck p h1 h2]
  simp only [Option.bind_some]
  rw [cond_dec, if_pos h]
theorem pxPut (p : Pln) (h1 : small p.1) (h2 : small p.2.1) (h : pck p = 0) : F_pxPut p = some (plnS p, 0) := by
  obtain ⟨hn, ho, ha, hq⟩ := pck_zero h
  have l1 := nameB_len hn
  have lq1 := quo_len p.1
  have lc1 := clkS_len (t := -p.2.2.1) (by omega)
  have lc2 := clkS_len (t := -p.2.2.2.1) (by omega)
  have hch : F_pxChanges p = some (decide (p.2.1 ≠ [])) := e_pxChanges p
  have fin : ∀ l : List (List UInt8), l.length ≤ 10 → l.flatten.length ≤ 1000 → (bif decide (l.length ≤ (140737488355328 : Nat) ∧ (Lib.join l []).length ≤ (140737488355328 : Nat)) then some (Lib.join l [], (0 : Int)) else none) = some (l.flatten, 0) := by
    intro l q1 q2
    rw [join_nil, cond_dec, if_pos ⟨by omega, by omega⟩]
  rw [e_pxPut, pxCheck p h1 h2]
  simp only [Option.bind_some]
  rw [h, cond_dec, if_neg (by omega), pxText _ (by omega)]
  simp only [Option.bind_some]
  rw [wrap_i64 (x := 0 - p.2.2.1) (by omega) (by omega), Int.zero_sub, PutClock _ 24 (by omega) (by omega) (by omega) (by omega)]
  simp only [Option.bind_some]
  rw [pwPut _ _ (by simp)]
  simp only [Option.bind_some]
  rw [hch]
  simp only [Option.bind_some]
  unfold plnS
  by_cases hs : p.2.1 ≠ []
  · rw [decide_eq_true hs, if_pos hs]
    rcases hq with ⟨q, _⟩ | ⟨_, hn2, hb, hc⟩
    · exact absurd q hs
    have l2 := nameB_len hn2
    have lq2 := quo_len p.2.1
    have lb := rulR_len hb
    have lcc := rulR_len hc
    simp only [cond_true]
    rw [pxText _ (by omega)]
    simp only [Option.bind_some]
    rw [pwPut _ _ (by simp)]
    simp only [Option.bind_some]
    rw [wrap_i64 (x := p.2.2.1 + 3600) (by omega) (by omega), cond_dec]
    have hloop := fun l hl => put_loop l p.2.2.2.2.1 p.2.2.2.2.2 hl hb hc
    by_cases hd : p.2.2.2.1 ≠ p.2.2.1 + 3600
    · rw [if_pos hd, if_pos hd, wrap_i64 (x := 0 - p.2.2.2.1) (by omega) (by omega), Int.zero_sub, PutClock _ 24 (by omega) (by omega) (by omega) (by omega)]
      simp only [Option.bind_some]
      rw [pwPut _ _ (by simp)]
      simp only [Option.bind_some]
      have := hloop ([quo p.1] ++ [clkS (-p.2.2.1)] ++ [quo p.2.1] ++ [clkS (-p.2.2.2.1)]) (by simp)
      rw [this]
      simp only [Option.bind_some]
      rw [fin _ (by simp) (by simp; omega)]
      simp
    · rw [if_neg hd, if_neg hd]
      have := hloop ([quo p.1] ++ [clkS (-p.2.2.1)] ++ [quo p.2.1]) (by simp)
      rw [this]
      simp only [Option.bind_some]
      rw [fin _ (by simp) (by simp; omega)]
      simp
  · rw [decide_eq_false hs, if_neg hs]
    simp only [cond_false]
    rw [fin _ (by simp) (by simp; omega)]
    simp
theorem r7Put (p : Pln) (h : pck p = 0) : F_r7Put p = some (plnS p) := by
  obtain ⟨hn, ho, ha, hq⟩ := pck_zero h
  have l1 := nameB_len hn
  have lq1 := quo_len p.1
  have lc1 := clkS_len (t := -p.2.2.1) (by omega)
  have lc2 := clkS_len (t := -p.2.2.2.1) (by omega)
  rw [e_r7Put, r7quoted _ (by omega)]
  simp only [Option.bind_some]
  rw [wrap_i64 (x := 0 - p.2.2.1) (by omega) (by omega), Int.zero_sub, r6Clock _ (by omega)]
  simp only [Option.bind_some]
  rw [cond_dec, if_pos (by omega), cond_dec]
  unfold plnS
  by_cases hs : p.2.1 ≠ []
  · have hl : 0 < p.2.1.length := List.length_pos_iff.2 hs
    rcases hq with ⟨q, _⟩ | ⟨_, hn2, hb, hc⟩
    · exact absurd q hs
    have l2 := nameB_len hn2
    have lq2 := quo_len p.2.1
    have lb := rulR_len hb
    have lcc := rulR_len hc
    rw [if_neg (by omega), if_pos hs, r7quoted _ (by omega)]
    simp only [Option.bind_some]
    rw [cond_dec, if_pos (by simp; omega), wrap_i64 (x := p.2.2.2.1 - p.2.2.1) (by omega) (by omega), cond_dec]
    by_cases hd : p.2.2.2.1 ≠ p.2.2.1 + 3600
    · rw [if_pos (by omega), if_pos hd, wrap_i64 (x := 0 - p.2.2.2.1) (by omega) (by omega), Int.zero_sub, r6Clock _ (by omega)]
      simp only [Option.bind_some]
      rw [cond_dec, if_pos (by simp; omega), cond_dec, if_pos (by simp; omega), r6PutR hb]
      simp only [Option.bind_some]
      rw [cond_dec, if_pos (by simp; omega), cond_dec, if_pos (by simp; omega), r6PutR hc]
      simp only [Option.bind_some]
      rw [cond_dec, if_pos (by simp; omega)]
      simp
    · rw [if_neg (by omega), if_neg hd]
      rw [cond_dec, if_pos (by simp; omega), r6PutR hb]
      simp only [Option.bind_some]
      rw [cond_dec, if_pos (by simp; omega), cond_dec, if_pos (by simp; omega), r6PutR hc]
      simp only [Option.bind_some]
      rw [cond_dec, if_pos (by simp; omega)]
      simp
  · have hl : p.2.1 = [] := by simpa using hs
    rw [if_pos (by rw [hl]; rfl), if_neg hs]
    simp
end Go.Sm
/- Plain Lean: clocks by a plan at any second (program). -/
set_option linter.unusedVariables false
set_option linter.unusedSimpArgs false
namespace Go.Sm
open Go.Proofs

/-! ### Rising lists -/
/-- So many of a list's numbers are below a number. -/
structure Srt (c : Nat) (l : List Int) (t : Int) : Prop where
  le : c ≤ l.length
  lo : ∀ i (h : i < l.length), i < c → l[i] < t
  hi : ∀ i (h : i < l.length), c ≤ i → t ≤ l[i]
theorem srt_ex (t : Int) : ∀ l : List Int, l.Pairwise (· < ·) → ∃ c, Srt c l t
  | [], _ => ⟨0, Nat.le_refl _, fun i h => by simp at h, fun i h => by simp at h⟩
  | x :: l, hp => by
    rw [List.pairwise_cons] at hp
    by_cases hx : x < t
    · obtain ⟨c, h⟩ := srt_ex t l hp.2
      refine ⟨c + 1, by simpa using h.le, fun i hi hc => ?_, fun i hi hc => ?_⟩
      · cases i with
        | zero => exact hx
        | succ i => exact h.lo i (by simpa using hi) (by omega)
      · cases i with
        | zero => omega
        | succ i => exact h.hi i (by simpa using hi) (by omega)
    · refine ⟨0, by omega, fun i hi hc => by omega, fun i hi _ => ?_⟩
      cases i with
      | zero => show t ≤ x; omega
      | succ i =>
        have := hp.1 (l[i]'(by simpa using hi)) (List.getElem_mem _)
        show t ≤ l[i]'(by simpa using hi)
        omega
theorem cmpLess (x y : Int) : F_cmpLess (x, y) = some (decide (x < y)) := by
  have h : F_cmpIsNaN x = some false := by rw [e_cmpIsNaN]; simp
  rw [e_cmpLess, h]
  rfl
theorem slSearch_loop {l : List Int} {t : Int} {c : Nat} (hs : Srt c l t) (hl : l.length ≤ 1000000) (n : Int) : ∀ (k i j : Nat), j - i = k → i ≤ c → c ≤ j → j ≤ l.length → w_slSearch_0 (l, t, n, (i : Int), (j : Int)) = some (l, t, n, (c : Int)) := by
  intro k
  induction k using Nat.strongRecOn with
  | _ k ih =>
    intro i j hk hi hj hjl
    by_cases h0 : i < j
    · have hw : IntKind.u64.wrap (IntKind.i64.wrap ((i : Int) + (j : Int))) = ((i + j : Nat) : Int) := by
        rw [wrap_i64 (by omega) (by omega), wrap_u64 (by omega) (by omega)]
        simp
      have hf : (((i + j : Nat) : Int)).fdiv 2 = (((i + j) / 2 : Nat) : Int) := by
        rw [Int.fdiv_eq_ediv_of_nonneg _ (by omega)]
        rfl
      have hlt : (i + j) / 2 < l.length := by omega
      rw [ew_slSearch_0, es_slSearch_0, cond_dec, if_pos (by omega), hw, hf, wrap_i64 (x := (((i + j) / 2 : Nat) : Int)) (by omega) (by omega), getI_at hlt]
      simp only [Option.bind_some]
      rw [cmpLess]
      simp only [Option.bind_some]
      rw [cond_dec]
      by_cases hc : l[(i + j) / 2] < t
      · rw [if_pos hc, wrap_succ (by omega)]
        simp only [Option.bind_some, Sum.elim_inl]
        have : (i + j) / 2 < c := by
          by_cases hq : (i + j) / 2 < c
          · exact hq
          · have := hs.hi _ hlt (by omega); omega
        exact ih (j - ((i + j) / 2 + 1)) (by omega) _ _ rfl (by omega) hj hjl
      · rw [if_neg hc]
        simp only [Option.bind_some, Sum.elim_inl]
        have : c ≤ (i + j) / 2 := by
          by_cases hq : c ≤ (i + j) / 2
          · exact hq
          · have := hs.lo _ hlt (by omega); omega
        exact ih ((i + j) / 2 - i) (by omega) _ _ rfl hi (by omega) (by omega)
    · rw [ew_slSearch_0, es_slSearch_0, cond_dec, if_neg (by omega)]
      simp only [Option.bind_some, Sum.elim_inr]
      have : i = c := by omega
      rw [this]
theorem slSearch {l : List Int} {t : Int} {c : Nat} (hs : Srt c l t) (hl : l.length ≤ 1000000) : F_slSearch (l, t) = some ((c : Int), decide (l[c]? = some t)) := by
  have h := slSearch_loop hs hl (l.length : Int) _ 0 l.length rfl (by omega) hs.le (Nat.le_refl _)
  have h : w_slSearch_0 (l, t, (l.length : Int), (0 : Int), (l.length : Int)) = _ := h
  have hn : ∀ x, F_slIsNaN x = some false := fun x => by rw [e_slIsNaN]; simp
  rw [e_slSearch, h]
  simp only [Option.bind_some]
  rw [cond_dec]
  have hle := hs.le
  by_cases hc : c < l.length
  · rw [if_pos (by omega), getI_at hc, List.getElem?_eq_getElem hc]
    simp only [Option.bind_some]
    rw [cond_dec]
    by_cases he : l[c] = t
    · rw [if_pos he, decide_eq_true (by rw [he])]
    · rw [if_neg he, hn, decide_eq_false (by simpa using he)]
      rfl
  · rw [if_neg (by omega), List.getElem?_eq_none (by omega)]
    rfl
/-- The last one that isn't behind a number, of a rising list whose first one isn't. -/
theorem ftLast {l : List Int} {t x : Int} {k : Nat} (hp : l.Pairwise (· < ·)) (hl : l.length ≤ 1000000) (hk : l[k]? = some x) (h1 : x ≤ t) (h2 : ∀ y, l[k + 1]? = some y → t < y) : F_ftLast (l, t) = some x := by
  obtain ⟨c, hs⟩ := srt_ex t l hp
  have hkl := (List.getElem?_eq_some_iff.1 hk).1
  have hx := (List.getElem?_eq_some_iff.1 hk).2
  have hle := hs.le
  have hnext : ∀ i (h : i < l.length), k < i → t < l[i] := by
    intro i h hi
    have h3 := h2 (l[k + 1]'(by omega)) (List.getElem?_eq_getElem (by omega))
    by_cases he : i = k + 1
    · subst he; exact h3
    · have := List.pairwise_iff_getElem.1 hp (k + 1) i (by omega) h (by omega)
      omega
  rw [e_ftLast, slSearch hs hl]
  simp only [Option.bind_some]
  by_cases hf : l[c]? = some t
  · have hcl := (List.getElem?_eq_some_iff.1 hf).1
    have hct := (List.getElem?_eq_some_iff.1 hf).2
    have : c = k := by
      rcases Nat.lt_trichotomy c k with h | h | h
      · have := List.pairwise_iff_getElem.1 hp c k hcl hkl h
        omega
      · exact h
      · have := hnext c hcl h
        omega
    subst this
    rw [decide_eq_true hf]
    simp only [Bool.not_true, cond_false]
    rw [show max ((c : Int)) 0 = (c : Int) by omega, getI_nat, hk]
    rfl
  · rw [decide_eq_false hf]
    simp only [Bool.not_false, cond_true]
    have hc : c = k + 1 := by
      have h3 : k < c := by
        by_cases hq : k < c
        · exact hq
        · exfalso
          have h4 := hs.hi k hkl (by omega)
          have h5 : l[k] = t := by omega
          by_cases he : c = k
          · subst he
            exact hf (by rw [List.getElem?_eq_getElem hkl, h5])
          · have h6 := hs.hi c (by omega) (Nat.le_refl _)
            have h7 := List.pairwise_iff_getElem.1 hp c k (by omega) hkl (by omega)
            omega
      by_cases he : c = k + 1
      · exact he
      · exfalso
        have h4 := hs.lo (k + 1) (by omega) (by omega)
        have h5 := hnext (k + 1) (by omega) (by omega)
        omega
    rw [hc, wrap_i64 (by omega) (by omega), show max (((k + 1 : Nat) : Int) - 1) 0 = (k : Int) by omega, getI_nat, hk]
    rfl

/-! ### Turns -/
/-- Begin and End of a year. -/
def tB (p : Pln) (y : Int) : Int := rA p.2.2.2.2.1 y - p.2.2.1
def tE (p : Pln) (y : Int) : Int := rA p.2.2.2.2.2 y - p.2.2.2.1
/-- A right plan with another time. -/
structure Two (p : Pln) : Prop where
  ok : pck p = 0
  two : p.2.1 ≠ []
theorem Two.b {p : Pln} (h : Two p) : rckR p.2.2.2.2.1 = 0 ∧ rckR p.2.2.2.2.2 = 0 ∧ (-89999 ≤ p.2.2.1 ∧ p.2.2.1 ≤ 89999) ∧ (-89999 ≤ p.2.2.2.1 ∧ p.2.2.2.1 ≤ 89999) := by
  obtain ⟨_, ho, ha, hq⟩ := pck_zero h.ok
  rcases hq with ⟨q, _⟩ | ⟨_, _, hb, hc⟩
  · exact absurd q h.two
  · exact ⟨hb, hc, ho, ha⟩
theorem rA_range {r : Rul} (h : rckR r = 0) (y : Int) : (yS y - 13) * 86400 ≤ rA r y ∧ rA r y ≤ (yS y + 373) * 86400 := by
  have := rD_range h y
  obtain ⟨_, ht⟩ := rck_may h
  unfold rA
  omega
theorem rA_next {r : Rul} (h : rckR r = 0) (y : Int) : rA r y + 330 * 86400 ≤ rA r (y + 1) := by
  have := rD_next h y
  unfold rA
  omega
theorem tB_range {p : Pln} (h : Two p) (y : Int) : (yS y - 15) * 86400 ≤ tB p y ∧ tB p y ≤ (yS y + 375) * 86400 := by
  obtain ⟨hb, hc, ho, ha⟩ := h.b
  have := rA_range hb y
  unfold tB
  omega
theorem tE_range {p : Pln} (h : Two p) (y : Int) : (yS y - 15) * 86400 ≤ tE p y ∧ tE p y ≤ (yS y + 375) * 86400 := by
  obtain ⟨hb, hc, ho, ha⟩ := h.b
  have := rA_range hc y
  unfold tE
  omega
theorem tB_next {p : Pln} (h : Two p) (y : Int) : tB p y + 330 * 86400 ≤ tB p (y + 1) := by
  have := rA_next h.b.1 y
  unfold tB
  omega
theorem tE_next {p : Pln} (h : Two p) (y : Int) : tE p y + 330 * 86400 ≤ tE p (y + 1) := by
  have := rA_next h.b.2.1 y
  unfold tE
  omega
theorem rise {f : Int → Int} (hf : ∀ y, f y + 330 * 86400 ≤ f (y + 1)) {x y : Int} (h : x < y) : f x < f y := by
  obtain ⟨k, rfl⟩ : ∃ k : Nat, y = x + k + 1 := ⟨(y - x - 1).toNat, by omega⟩
  clear h
  induction k with
  | zero => have := hf x; simp; omega
  | succ k ih =>
    have := hf (x + k + 1)
    rw [show x + ((k + 1 : Nat) : Int) + 1 = x + k + 1 + 1 by omega]
    omega
theorem rise_le {f : Int → Int} (hf : ∀ y, f y + 330 * 86400 ≤ f (y + 1)) {x y : Int} (h : f x ≤ f y) : x ≤ y := by
  by_cases hc : x ≤ y
  · exact hc
  · have := rise hf (show y < x by omega)
    omega
theorem rise_uniq {f : Int → Int} (hf : ∀ y, f y + 330 * 86400 ≤ f (y + 1)) {x y t : Int} (h1 : f x ≤ t) (h2 : t < f (x + 1)) (h3 : f y ≤ t) (h4 : t < f (y + 1)) : x = y := by
  rcases Int.lt_trichotomy x y with h | h | h
  · have : f (x + 1) ≤ f y := by
      by_cases he : x + 1 = y
      · rw [he]; omega
      · have := rise hf (show x + 1 < y by omega); omega
    omega
  · exact h
  · have : f (y + 1) ≤ f x := by
      by_cases he : y + 1 = x
      · rw [he]; omega
      · have := rise hf (show y + 1 < x by omega); omega
    omega
theorem ftTurns {p : Pln} (h : Two p) {y : Int} (hy : -10001 ≤ y ∧ y ≤ 10001) : F_ftTurns (p, y) = some (tB p y, tE p y, 0) := by
  obtain ⟨hb, hc, ho, ha⟩ := h.b
  have hS := yS_big (y := y) (by omega)
  have h1 := rA_range hb y
  have h2 := rA_range hc y
  rw [e_ftTurns, ruleAt hb hy]
  simp only [Option.bind_some]
  rw [cond_dec, if_neg (by simp), ruleAt hc hy]
  simp only [Option.bind_some]
  rw [cond_dec, if_neg (by simp), wrap_i64 (by omega) (by omega), wrap_i64 (by omega) (by omega)]
  rfl
theorem FtTurns {p : Pln} (h : Two p) (h1 : small p.1) (h2 : small p.2.1) (y : Int) : F_FtTurns (p, y) = some (if -10001 ≤ y ∧ y ≤ 10001 then (tB p y, tE p y, 0) else (0, 0, 13)) := by
  have hch : F_pxChanges p = some (decide (p.2.1 ≠ [])) := e_pxChanges p
  rw [e_FtTurns, pxCheck p h1 h2, h.ok]
  simp only [Option.bind_some]
  rw [cond_dec, if_neg (by simp), hch, decide_eq_true h.two]
  simp only [Option.bind_some, Bool.not_true, cond_false]
  rw [cond_dec]
  by_cases hlo : y < -10001
  · rw [if_pos hlo, if_neg (by omega)]
  · rw [if_neg hlo, cond_dec]
    by_cases hhi : 10001 < y
    · rw [if_pos hhi, if_neg (by omega)]
    · rw [if_neg hhi, if_pos (by omega), ftTurns h (by omega)]
      rfl
theorem about_round {p : Pln} (h : Two p) (y : Int) (hy : -9999 ≤ y ∧ y ≤ 9999) (b e : List Int) (k k' : Int) (h1 : y - 2 ≤ k) (h2 : k ≤ y + 2) (hk : k' = k + 1) (hb : b.length ≤ 20) (he : e.length ≤ 20) :
    w_ftAbout_0 (y, p, b, e, k) = w_ftAbout_0 (y, p, b ++ [tB p k], e ++ [tE p k], k') := by
  subst hk
  have r8 : ∀ l : List Int, l.length ≤ 20 → roomB l.length 1 8 = true := fun l hl => by unfold roomB; simp; omega
  rw [ew_ftAbout_0, es_ftAbout_0, wrap_i64 (x := y + 2) (by omega) (by omega), cond_dec, if_pos (by omega), ftTurns h (by omega)]
  simp only [Option.bind_some]
  rw [cond_dec, if_neg (by simp), show ([tB p k] : List Int).length = 1 from rfl, show ([tE p k] : List Int).length = 1 from rfl, r8 b hb, r8 e he, wrap_i64 (x := k + 1) (by omega) (by omega)]
  rfl
theorem ftAbout {p : Pln} (h : Two p) (y : Int) (hy : -9999 ≤ y ∧ y ≤ 9999) :
    F_ftAbout (p, y) = some ([tB p (y - 2), tB p (y - 1), tB p y, tB p (y + 1), tB p (y + 2)], [tE p (y - 2), tE p (y - 1), tE p y, tE p (y + 1), tE p (y + 2)], 0) := by
  rw [e_ftAbout, wrap_i64 (x := y - 2) (by omega) (by omega)]
  rw [about_round h y hy [] [] (y - 2) (y - 1) (by omega) (by omega) (by omega) (by simp) (by simp)]
  rw [about_round h y hy _ _ (y - 1) y (by omega) (by omega) (by omega) (by simp) (by simp)]
  rw [about_round h y hy _ _ y (y + 1) (by omega) (by omega) (by omega) (by simp) (by simp)]
  rw [about_round h y hy _ _ (y + 1) (y + 2) (by omega) (by omega) (by omega) (by simp) (by simp)]
  rw [about_round h y hy _ _ (y + 2) (y + 3) (by omega) (by omega) (by omega) (by simp) (by simp)]
  rw [ew_ftAbout_0, es_ftAbout_0, wrap_i64 (x := y + 2) (by omega) (by omega), cond_dec, if_neg (by omega)]
  rfl
theorem five {f : Int → Int} (hf : ∀ y, f y + 330 * 86400 ≤ f (y + 1)) (y : Int) : [f (y - 2), f (y - 1), f y, f (y + 1), f (y + 2)].Pairwise (· < ·) := by
  have h1 := rise hf (show y - 2 < y - 1 by omega)
  have h2 := rise hf (show y - 1 < y by omega)
  have h3 := rise hf (show y < y + 1 by omega)
  have h4 := rise hf (show y + 1 < y + 2 by omega)
  simp only [List.pairwise_cons, List.mem_cons, List.not_mem_nil, or_false, forall_eq_or_imp, forall_eq, false_implies, implies_true, List.Pairwise.nil, and_true]
  omega
/-- The last of five turns that isn't behind a second. -/
theorem last_five {f : Int → Int} (hf : ∀ y, f y + 330 * 86400 ≤ f (y + 1)) (y k t : Int) (h1 : f k ≤ t) (h2 : t < f (k + 1)) (hk1 : y - 2 ≤ k) (hk2 : k ≤ y + 1) : F_ftLast ([f (y - 2), f (y - 1), f y, f (y + 1), f (y + 2)], t) = some (f k) := by
  rcases (by omega : k = y - 2 ∨ k = y - 1 ∨ k = y ∨ k = y + 1) with rfl | rfl | rfl | rfl
  · exact ftLast (k := 0) (five hf y) (by simp) rfl h1 (fun z hz => by obtain rfl := Option.some.inj hz; rwa [show y - 2 + 1 = y - 1 by omega] at h2)
  · exact ftLast (k := 1) (five hf y) (by simp) rfl h1 (fun z hz => by obtain rfl := Option.some.inj hz; rwa [show y - 1 + 1 = y by omega] at h2)
  · exact ftLast (k := 2) (five hf k) (by simp) rfl h1 (fun z hz => by obtain rfl := Option.some.inj hz; exact h2)
  · exact ftLast (k := 3) (five hf y) (by simp) rfl h1 (fun z hz => by obtain rfl := Option.some.inj hz; rwa [show y + 1 + 1 = y + 2 by omega] at h2)
/-- A turn's year, near the second's. -/
theorem near {f : Int → Int} (hr : ∀ y, (yS y - 15) * 86400 ≤ f y ∧ f y ≤ (yS y + 375) * 86400) {y k t : Int} (h1 : f k ≤ t) (h2 : t < f (k + 1)) (hy1 : yS y ≤ t / 86400) (hy2 : t / 86400 < yS (y + 1)) : y - 2 ≤ k ∧ k ≤ y + 1 := by
  have a := hr k
  have b := hr (k + 1)
  constructor
  · by_cases hc : y - 2 ≤ k
    · exact hc
    · have := (yS_mono (x := k + 1) (y := y - 2) (by omega)).1
      have := (yS_mono (x := y - 2) (y := y) (by omega)).1
      omega
  · by_cases hc : k ≤ y + 1
    · exact hc
    · have := (yS_mono (x := y + 2) (y := k) (by omega)).1
      have := (yS_mono (x := y + 1) (y := y + 2) (by omega)).1
      omega
theorem near_ex {f : Int → Int} (hf : ∀ y, f y + 330 * 86400 ≤ f (y + 1)) (hr : ∀ y, (yS y - 15) * 86400 ≤ f y ∧ f y ≤ (yS y + 375) * 86400) {y t : Int} (hy1 : yS y ≤ t / 86400) (hy2 : t / 86400 < yS (y + 1)) : ∃ k, f k ≤ t ∧ t < f (k + 1) := by
  have a := hr (y - 2)
  have b := hr (y + 2)
  have m1 := (yS_mono (x := y - 2) (y := y) (by omega)).1
  have m2 := (yS_mono (x := y + 1) (y := y + 2) (by omega)).1
  by_cases h1 : t < f (y - 1)
  · exact ⟨y - 2, by omega, by rw [show y - 2 + 1 = y - 1 by omega]; exact h1⟩
  · by_cases h2 : t < f y
    · exact ⟨y - 1, by omega, by rw [show y - 1 + 1 = y by omega]; exact h2⟩
    · by_cases h3 : t < f (y + 1)
      · exact ⟨y, by omega, h3⟩
      · exact ⟨y + 1, by omega, by rw [show y + 1 + 1 = y + 2 by omega]; omega⟩
abbrev Loc := Int × Bool × List UInt8
/-- How clocks stand, by the last Begin and the last End. -/
theorem ftAt_two {p : Pln} (h : Two p) (h1 : small p.1) (h2 : small p.2.1) {t kB kE : Int} (ht : i64 t) (hd : dated t) (b1 : tB p kB ≤ t) (b2 : t < tB p (kB + 1)) (e1 : tE p kE ≤ t) (e2 : t < tE p (kE + 1)) :
    F_ftAt (p, t) = some (if tE p kE ≤ tB p kB then (p.2.2.2.1, true, p.2.1) else (p.2.2.1, false, p.1), 0) := by
  obtain ⟨y, hy, hy1, hy2⟩ := year_ex _ hd
  have hch : F_pxChanges p = some (decide (p.2.1 ≠ [])) := e_pxChanges p
  obtain ⟨n1, n2⟩ := near (tB_range h) b1 b2 hy1 hy2
  obtain ⟨n3, n4⟩ := near (tE_range h) e1 e2 hy1 hy2
  have hs : F_ftSummer (p, t, y) = some (decide (tE p kE ≤ tB p kB), 0) := by
    rw [e_ftSummer, hch, decide_eq_true h.two]
    simp only [Option.bind_some, Bool.not_true, cond_false]
    rw [ftAbout h y hy]
    simp only [Option.bind_some]
    rw [cond_dec, if_neg (by simp), last_five (tB_next h) y kB t b1 b2 n1 n2]
    simp only [Option.bind_some]
    rw [last_five (tE_next h) y kE t e1 e2 n3 n4]
    rfl
  rw [e_ftAt, pxCheck p h1 h2, h.ok]
  simp only [Option.bind_some]
  rw [cond_dec, if_neg (by simp), ftYear_ok t y ht hy hy1 hy2]
  simp only [Option.bind_some]
  rw [cond_dec, if_neg (by simp), hs]
  simp only [Option.bind_some]
  rw [cond_dec, if_neg (by simp), cond_dec]
  by_cases hq : tE p kE ≤ tB p kB
  · rw [if_pos hq, if_pos hq]
  · rw [if_neg hq, if_neg hq]
theorem ftAt_bad {p : Pln} (h : pck p = 0) (h1 : small p.1) (h2 : small p.2.1) {t : Int} (ht : i64 t) (hd : ¬ dated t) : F_ftAt (p, t) = some ((0, false, []), 13) := by
  rw [e_ftAt, pxCheck p h1 h2, h]
  simp only [Option.bind_some]
  rw [cond_dec, if_neg (by simp), ftYear_bad t ht hd]
  rfl
theorem ftAt_wrong {p : Pln} (h : pck p ≠ 0) (h1 : small p.1) (h2 : small p.2.1) (t : Int) : F_ftAt (p, t) = some ((0, false, []), pck p) := by
  rw [e_ftAt, pxCheck p h1 h2]
  simp only [Option.bind_some]
  rw [cond_dec, if_pos h]
theorem ftAt_one {p : Pln} (h : pck p = 0) (hs : p.2.1 = []) (h1 : small p.1) {t : Int} (ht : i64 t) (hd : dated t) : F_ftAt (p, t) = some ((p.2.2.1, false, p.1), 0) := by
  obtain ⟨y, hy, hy1, hy2⟩ := year_ex _ hd
  have hch : F_pxChanges p = some (decide (p.2.1 ≠ [])) := e_pxChanges p
  have hsm : F_ftSummer (p, t, y) = some (false, 0) := by
    rw [e_ftSummer, hch, decide_eq_false (by simp [hs])]
    rfl
  rw [e_ftAt, pxCheck p h1 (by rw [hs]; simp [small]), h]
  simp only [Option.bind_some]
  rw [cond_dec, if_neg (by simp), ftYear_ok t y ht hy hy1 hy2]
  simp only [Option.bind_some]
  rw [cond_dec, if_neg (by simp), hsm]
  rfl
end Go.Sm
/- The reference of plans; the law PosixParses. No condition. -/
set_option linter.unusedVariables false
namespace Go.Sm
open Go.Proofs
/-! ### horologe/horologeref17.Parse -/
noncomputable abbrev ct_r7Parse : List (FuncId × Bool × SpecT) := [(47, false, s_r7name), (48, false, s_r7clock), (49, false, s_r6ParseClock), (50, false, s_r6Parse)]
theorem cs_r7Parse : AllSound Tryd.prog ct_r7Parse := ⟨so_r7name, so_r7clock, so_r6ParseClock, so_r6Parse, trivial⟩
-- loop 0 (key 26) exit 0: [0, 2, 4, 6, 10]
-- loop 0 (key 26) exit 2: [2, 3]
-- loop 0 (key 26) exit 3: [0, 2, 4, 6]
-- loop 1 (key 32) exit 0: [0, 2, 4, 6, 7, 10]
-- loop 1 (key 32) exit 5: [0, 2, 4, 6, 7, 10]
abbrev kp_r7Parse : Keep := keepT [(26, 0, [(0, none), (2, none), (4, none), (6, none), (10, none)]), (26, 2, [(2, none), (3, none)]), (26, 3, [(0, none), (2, none), (4, none), (6, none)]), (32, 0, [(0, none), (2, none), (4, none), (6, none), (7, none), (10, none)]), (32, 5, [(0, none), (2, none), (4, none), (6, none), (7, none), (10, none)])]
noncomputable abbrev b_r7Parse_0 : Code := loopAt Tryd.f12 0
noncomputable abbrev b_r7Parse_1 : Code := loopAt Tryd.f12 1
noncomputable def sp_r7Parse_1 (x : ((List UInt8) × (List UInt8 × List UInt8 × Int × Int × (Int × Int × Int × Int × Int) × (Int × Int × Int × Int × Int)) × (List UInt8 × List UInt8 × Int × Int × (Int × Int × Int × Int × Int) × (Int × Int × Int × Int × Int)) × Int × Int × Int)) : Option (((List UInt8) × (List UInt8 × List UInt8 × Int × Int × (Int × Int × Int × Int × Int) × (Int × Int × Int × Int × Int)) × (List UInt8 × List UInt8 × Int × Int × (Int × Int × Int × Int × Int) × (Int × Int × Int × Int × Int)) × Int × Int × Int) ⊕ ((List UInt8) × (List UInt8 × List UInt8 × Int × Int × (Int × Int × Int × Int × Int) × (Int × Int × Int × Int × Int)) × (List UInt8 × List UInt8 × Int × Int × (Int × Int × Int × Int × Int) × (Int × Int × Int × Int × Int)) × Int × Int × Int)) := (stepL Tryd.prog (lookT ct_r7Parse) kp_r7Parse (loopsT []) 0 false b_r7Parse_1 (codP [pS, (.box cPlan), (.box cPlan), pI, pI, pI]) (exO (.ext 2) (codP [pS, (.box cPlan), (.box cPlan), pI, pI, pI])) x).run
noncomputable def w_r7Parse_1 : ((List UInt8) × (List UInt8 × List UInt8 × Int × Int × (Int × Int × Int × Int × Int) × (Int × Int × Int × Int × Int)) × (List UInt8 × List UInt8 × Int × Int × (Int × Int × Int × Int × Int) × (Int × Int × Int × Int × Int)) × Int × Int × Int) → Option ((List UInt8) × (List UInt8 × List UInt8 × Int × Int × (Int × Int × Int × Int × Int) × (Int × Int × Int × Int × Int)) × (List UInt8 × List UInt8 × Int × Int × (Int × Int × Int × Int × Int) × (Int × Int × Int × Int × Int)) × Int × Int × Int) := whileO sp_r7Parse_1
theorem ew_r7Parse_1 (x : ((List UInt8) × (List UInt8 × List UInt8 × Int × Int × (Int × Int × Int × Int × Int) × (Int × Int × Int × Int × Int)) × (List UInt8 × List UInt8 × Int × Int × (Int × Int × Int × Int × Int) × (Int × Int × Int × Int × Int)) × Int × Int × Int)) : w_r7Parse_1 x = (sp_r7Parse_1 x).bind (Sum.elim w_r7Parse_1 some) := whileO_eq _ _
noncomputable abbrev l_r7Parse_1 : LT := ltF (codP [pS, (.box cPlan), (.box cPlan), pI, pI, pI]) (exO (.ext 2) (codP [pS, (.box cPlan), (.box cPlan), pI, pI, pI])) w_r7Parse_1
theorem lo_r7Parse_1 : LoopOk Tryd.prog Tryd.f12.ntmps kp_r7Parse 0 false b_r7Parse_1 l_r7Parse_1 := loopG mixed cs_r7Parse (lps := loopsT []) (by kernel_rfl) (ls := []) (by kernel_rfl) lps_nil
noncomputable def sp_r7Parse_0 (x : ((List UInt8) × (List UInt8 × List UInt8 × Int × Int × (Int × Int × Int × Int × Int) × (Int × Int × Int × Int × Int)) × (List UInt8 × List UInt8 × Int × Int × (Int × Int × Int × Int × Int) × (Int × Int × Int × Int × Int)) × Int × Int)) : Option (((List UInt8) × (List UInt8 × List UInt8 × Int × Int × (Int × Int × Int × Int × Int) × (Int × Int × Int × Int × Int)) × (List UInt8 × List UInt8 × Int × Int × (Int × Int × Int × Int × Int) × (Int × Int × Int × Int × Int)) × Int × Int) ⊕ (((List UInt8 × List UInt8 × Int × Int × (Int × Int × Int × Int × Int) × (Int × Int × Int × Int × Int)) × Int) ⊕ ((List UInt8) × (List UInt8 × List UInt8 × Int × Int × (Int × Int × Int × Int × Int) × (Int × Int × Int × Int × Int)) × (List UInt8 × List UInt8 × Int × Int × (Int × Int × Int × Int × Int) × (Int × Int × Int × Int × Int)) × Int))) := (stepL Tryd.prog (lookT ct_r7Parse) kp_r7Parse (loopsT [(32, l_r7Parse_1)]) 0 false b_r7Parse_0 (codP [pS, (.box cPlan), (.box cPlan), pI, pI]) (exS (exO .ret (codP [(.box cPlan), pI])) (exO (.ext 0) (codP [pS, (.box cPlan), (.box cPlan), pI]))) x).run
noncomputable def w_r7Parse_0 : ((List UInt8) × (List UInt8 × List UInt8 × Int × Int × (Int × Int × Int × Int × Int) × (Int × Int × Int × Int × Int)) × (List UInt8 × List UInt8 × Int × Int × (Int × Int × Int × Int × Int) × (Int × Int × Int × Int × Int)) × Int × Int) → Option (((List UInt8 × List UInt8 × Int × Int × (Int × Int × Int × Int × Int) × (Int × Int × Int × Int × Int)) × Int) ⊕ ((List UInt8) × (List UInt8 × List UInt8 × Int × Int × (Int × Int × Int × Int × Int) × (Int × Int × Int × Int × Int)) × (List UInt8 × List UInt8 × Int × Int × (Int × Int × Int × Int × Int) × (Int × Int × Int × Int × Int)) × Int)) := whileO sp_r7Parse_0
theorem ew_r7Parse_0 (x : ((List UInt8) × (List UInt8 × List UInt8 × Int × Int × (Int × Int × Int × Int × Int) × (Int × Int × Int × Int × Int)) × (List UInt8 × List UInt8 × Int × Int × (Int × Int × Int × Int × Int) × (Int × Int × Int × Int × Int)) × Int × Int)) : w_r7Parse_0 x = (sp_r7Parse_0 x).bind (Sum.elim w_r7Parse_0 some) := whileO_eq _ _
noncomputable abbrev l_r7Parse_0 : LT := ltF (codP [pS, (.box cPlan), (.box cPlan), pI, pI]) (exS (exO .ret (codP [(.box cPlan), pI])) (exO (.ext 0) (codP [pS, (.box cPlan), (.box cPlan), pI]))) w_r7Parse_0
theorem lo_r7Parse_0 : LoopOk Tryd.prog Tryd.f12.ntmps kp_r7Parse 0 false b_r7Parse_0 l_r7Parse_0 := loopG mixed cs_r7Parse (lps := loopsT [(32, l_r7Parse_1)]) (by kernel_rfl) (ls := [b_r7Parse_1]) (by kernel_rfl) (lps_cons l_r7Parse_1 (by kernel_rfl) lo_r7Parse_1 lps_nil)
noncomputable def F_r7Parse (x : ((List UInt8))) : Option ((List UInt8 × List UInt8 × Int × Int × (Int × Int × Int × Int × Int) × (Int × Int × Int × Int × Int)) × Int) := (evalF Tryd.prog (lookT ct_r7Parse) (kp_r7Parse) (loopsT [(26, l_r7Parse_0), (32, l_r7Parse_1)]) false false Tryd.f12 (codP [pS]) 2 (codP [pPlan, pI]) x).run
noncomputable abbrev s_r7Parse : SpecT := specF (codP [pS]) 2 (codP [pPlan, pI]) F_r7Parse
theorem so_r7Parse : SoundT Tryd.prog 12 s_r7Parse := soundG (P := Tryd.prog) mixed (t := ct_r7Parse) cs_r7Parse (f := 12) (fn := Tryd.f12) Tryd.func12 (by kernel_rfl) (by kernel_rfl) (by kernel_rfl) (ls := [b_r7Parse_0, b_r7Parse_1]) (by kernel_rfl) (kp := kp_r7Parse) (lps := loopsT [(26, l_r7Parse_0), (32, l_r7Parse_1)]) (bump := false) (ice := false) (A := (codP [pS])) (n := 2) (R := (codP [pPlan, pI])) fun _ => (lps_cons l_r7Parse_0 (by kernel_rfl) lo_r7Parse_0 (lps_cons l_r7Parse_1 (by kernel_rfl) lo_r7Parse_1 lps_nil))

theorem es_r7Parse_1 (s : List UInt8) (p q : (List UInt8 × List UInt8 × Int × Int × (Int × Int × Int × Int × Int) × (Int × Int × Int × Int × Int))) (a e k : Int) : sp_r7Parse_1 (s, p, q, a, e, k) = (
  bif decide (e < (↑s.length : Int)) then
    (getI s e).bind fun x1 => bif decide (x1 ≠ (44 : UInt8)) then some (Sum.inl (s, p, q, a, IntKind.i64.wrap (e + (1 : Int)), k)) else some (Sum.inr (s, p, q, a, e, k))
  else some (Sum.inr (s, p, q, a, e, k))) := by kernel_rfl

theorem es_r7Parse_0 (s : List UInt8) (p q : (List UInt8 × List UInt8 × Int × Int × (Int × Int × Int × Int × Int) × (Int × Int × Int × Int × Int))) (a k : Int) : sp_r7Parse_0 (s, p, q, a, k) = (
  bif decide (k < (2 : Int)) then
    bif decide ((↑s.length : Int) ≤ a) then
      some (Sum.inr (Sum.inl (([], [], (0 : Int), (0 : Int), ((0 : Int), (0 : Int), (0 : Int), (0 : Int), (0 : Int)), (0 : Int), (0 : Int), (0 : Int), (0 : Int), (0 : Int)), (2 : Int))))
    else
      (getI s a).bind fun x1 =>
        bif decide (x1 ≠ (44 : UInt8)) then
          some (Sum.inr (Sum.inl (([], [], (0 : Int), (0 : Int), ((0 : Int), (0 : Int), (0 : Int), (0 : Int), (0 : Int)), (0 : Int), (0 : Int), (0 : Int), (0 : Int), (0 : Int)), (2 : Int))))
        else
          (w_r7Parse_1 (s, p, q, IntKind.i64.wrap (a + (1 : Int)), IntKind.i64.wrap (a + (1 : Int)), k)).bind fun x2 =>
            (subI x2.fst x2.snd.snd.snd.fst x2.snd.snd.snd.snd.fst).bind fun x3 =>
              (F_r6Parse x3).bind fun x4 =>
                bif decide (x4.snd ≠ (0 : Int)) then
                  some (Sum.inr (Sum.inl (([], [], (0 : Int), (0 : Int), ((0 : Int), (0 : Int), (0 : Int), (0 : Int), (0 : Int)), (0 : Int), (0 : Int), (0 : Int), (0 : Int), (0 : Int)), x4.snd)))
                else
                  bif decide (x2.snd.snd.snd.snd.snd = (0 : Int)) then
                    some
                      (Sum.inl
                        (x2.fst, x2.snd.fst, (x2.snd.snd.fst.fst, x2.snd.snd.fst.snd.fst, x2.snd.snd.fst.snd.snd.fst, x2.snd.snd.fst.snd.snd.snd.fst, x4.fst, x2.snd.snd.fst.snd.snd.snd.snd.snd),
                          x2.snd.snd.snd.snd.fst, IntKind.i64.wrap (x2.snd.snd.snd.snd.snd + (1 : Int))))
                  else
                    some
                      (Sum.inl
                        (x2.fst, x2.snd.fst, (x2.snd.snd.fst.fst, x2.snd.snd.fst.snd.fst, x2.snd.snd.fst.snd.snd.fst, x2.snd.snd.fst.snd.snd.snd.fst, x2.snd.snd.fst.snd.snd.snd.snd.fst, x4.fst),
                          x2.snd.snd.snd.snd.fst, IntKind.i64.wrap (x2.snd.snd.snd.snd.snd + (1 : Int))))
  else some (Sum.inr (Sum.inr (s, p, q, a)))) := by kernel_rfl

theorem e_r7Parse (s : List UInt8) : F_r7Parse s = (
  (F_r7name (s, (0 : Int))).bind fun x1 =>
    bif decide (x1.snd < (0 : Int)) then some (([], [], (0 : Int), (0 : Int), ((0 : Int), (0 : Int), (0 : Int), (0 : Int), (0 : Int)), (0 : Int), (0 : Int), (0 : Int), (0 : Int), (0 : Int)), (2 : Int))
    else
      (F_r7clock (s, x1.snd)).bind fun x2 =>
        (subI s x1.snd x2).bind fun x3 =>
          (F_r6ParseClock (x3, (24 : Int))).bind fun x4 =>
            bif decide (x4.snd ≠ (0 : Int)) then
              some (([], [], (0 : Int), (0 : Int), ((0 : Int), (0 : Int), (0 : Int), (0 : Int), (0 : Int)), (0 : Int), (0 : Int), (0 : Int), (0 : Int), (0 : Int)), x4.snd)
            else
              bif decide (x2 = (↑s.length : Int)) then
                some
                  ((x1.fst, [], IntKind.i64.wrap ((0 : Int) - x4.fst), (0 : Int), ((0 : Int), (0 : Int), (0 : Int), (0 : Int), (0 : Int)), (0 : Int), (0 : Int), (0 : Int), (0 : Int), (0 : Int)),
                    (0 : Int))
              else
                (F_r7name (s, x2)).bind fun x5 =>
                  bif decide (x5.snd < (0 : Int)) then
                    some (([], [], (0 : Int), (0 : Int), ((0 : Int), (0 : Int), (0 : Int), (0 : Int), (0 : Int)), (0 : Int), (0 : Int), (0 : Int), (0 : Int), (0 : Int)), (2 : Int))
                  else
                    bif decide (x5.snd < (↑s.length : Int)) then
                      (getI s x5.snd).bind fun x6 =>
                        bif decide (x6 ≠ (44 : UInt8)) then
                          (F_r7clock (s, x5.snd)).bind fun x7 =>
                            (subI s x5.snd x7).bind fun x8 =>
                              (F_r6ParseClock (x8, (24 : Int))).bind fun x9 =>
                                bif decide (x9.snd ≠ (0 : Int)) then
                                  some (([], [], (0 : Int), (0 : Int), ((0 : Int), (0 : Int), (0 : Int), (0 : Int), (0 : Int)), (0 : Int), (0 : Int), (0 : Int), (0 : Int), (0 : Int)), x9.snd)
                                else
                                  (w_r7Parse_0
                                        (s, ([], [], (0 : Int), (0 : Int), ((0 : Int), (0 : Int), (0 : Int), (0 : Int), (0 : Int)), (0 : Int), (0 : Int), (0 : Int), (0 : Int), (0 : Int)),
                                          (x1.fst, x5.fst, IntKind.i64.wrap ((0 : Int) - x4.fst), IntKind.i64.wrap ((0 : Int) - x9.fst), ((0 : Int), (0 : Int), (0 : Int), (0 : Int), (0 : Int)),
                                            (0 : Int), (0 : Int), (0 : Int), (0 : Int), (0 : Int)),
                                          x7, (0 : Int))).bind
                                    fun x10 =>
                                    Sum.elim (fun x11 => some x11)
                                      (fun x11 =>
                                        bif decide (x11.snd.snd.snd < (↑(List.length x11.fst) : Int)) then
                                          some (([], [], (0 : Int), (0 : Int), ((0 : Int), (0 : Int), (0 : Int), (0 : Int), (0 : Int)), (0 : Int), (0 : Int), (0 : Int), (0 : Int), (0 : Int)), (2 : Int))
                                        else
                                          bif decide ((89999 : Int) < x11.snd.snd.fst.snd.snd.snd.fst) then
                                            some
                                              (([], [], (0 : Int), (0 : Int), ((0 : Int), (0 : Int), (0 : Int), (0 : Int), (0 : Int)), (0 : Int), (0 : Int), (0 : Int), (0 : Int), (0 : Int)), (1 : Int))
                                          else some (x11.snd.snd.fst, (0 : Int)))
                                      x10
                        else
                          (w_r7Parse_0
                                (s, ([], [], (0 : Int), (0 : Int), ((0 : Int), (0 : Int), (0 : Int), (0 : Int), (0 : Int)), (0 : Int), (0 : Int), (0 : Int), (0 : Int), (0 : Int)),
                                  (x1.fst, x5.fst, IntKind.i64.wrap ((0 : Int) - x4.fst), IntKind.i64.wrap (IntKind.i64.wrap ((0 : Int) - x4.fst) + (3600 : Int)),
                                    ((0 : Int), (0 : Int), (0 : Int), (0 : Int), (0 : Int)), (0 : Int), (0 : Int), (0 : Int), (0 : Int), (0 : Int)),
                                  x5.snd, (0 : Int))).bind
                            fun x7 =>
                            Sum.elim (fun x8 => some x8)
                              (fun x8 =>
                                bif decide (x8.snd.snd.snd < (↑(List.length x8.fst) : Int)) then
                                  some (([], [], (0 : Int), (0 : Int), ((0 : Int), (0 : Int), (0 : Int), (0 : Int), (0 : Int)), (0 : Int), (0 : Int), (0 : Int), (0 : Int), (0 : Int)), (2 : Int))
                                else
                                  bif decide ((89999 : Int) < x8.snd.snd.fst.snd.snd.snd.fst) then
                                    some (([], [], (0 : Int), (0 : Int), ((0 : Int), (0 : Int), (0 : Int), (0 : Int), (0 : Int)), (0 : Int), (0 : Int), (0 : Int), (0 : Int), (0 : Int)), (1 : Int))
                                  else some (x8.snd.snd.fst, (0 : Int)))
                              x7
                    else
                      (w_r7Parse_0
                            (s, ([], [], (0 : Int), (0 : Int), ((0 : Int), (0 : Int), (0 : Int), (0 : Int), (0 : Int)), (0 : Int), (0 : Int), (0 : Int), (0 : Int), (0 : Int)),
                              (x1.fst, x5.fst, IntKind.i64.wrap ((0 : Int) - x4.fst), IntKind.i64.wrap (IntKind.i64.wrap ((0 : Int) - x4.fst) + (3600 : Int)),
                                ((0 : Int), (0 : Int), (0 : Int), (0 : Int), (0 : Int)), (0 : Int), (0 : Int), (0 : Int), (0 : Int), (0 : Int)),
                              x5.snd, (0 : Int))).bind
                        fun x6 =>
                        Sum.elim (fun x7 => some x7)
                          (fun x7 =>
                            bif decide (x7.snd.snd.snd < (↑(List.length x7.fst) : Int)) then
                              some (([], [], (0 : Int), (0 : Int), ((0 : Int), (0 : Int), (0 : Int), (0 : Int), (0 : Int)), (0 : Int), (0 : Int), (0 : Int), (0 : Int), (0 : Int)), (2 : Int))
                            else
                              bif decide ((89999 : Int) < x7.snd.snd.fst.snd.snd.snd.fst) then
                                some (([], [], (0 : Int), (0 : Int), ((0 : Int), (0 : Int), (0 : Int), (0 : Int), (0 : Int)), (0 : Int), (0 : Int), (0 : Int), (0 : Int), (0 : Int)), (1 : Int))
                              else some (x7.snd.snd.fst, (0 : Int)))
                          x6) := by kernel_rfl


/-! ### horologe/horologenum.Num -/
noncomputable abbrev ct_lawNum : List (FuncId × Bool × SpecT) := []
theorem cs_lawNum : AllSound Tryd.prog ct_lawNum := trivial
noncomputable def F_lawNum (x : (Int)) : Option (Int) := (evalF Tryd.prog (lookT ct_lawNum) (keepT []) (loopsT []) false false Tryd.f14 (codP [pE]) 1 (codP [pI]) x).run
noncomputable abbrev s_lawNum : SpecT := specF (codP [pE]) 1 (codP [pI]) F_lawNum
theorem so_lawNum : SoundT Tryd.prog 14 s_lawNum := soundG (P := Tryd.prog) mixed (t := ct_lawNum) cs_lawNum (f := 14) (fn := Tryd.f14) Tryd.func14 (by kernel_rfl) (by kernel_rfl) (by kernel_rfl) (ls := []) (by kernel_rfl) (kp := keepT []) (lps := loopsT []) (bump := false) (ice := false) (A := (codP [pE])) (n := 1) (R := (codP [pI])) fun _ => lps_nil

theorem e_lawNum (e : Int) : F_lawNum e = (
  bif decide (e = (0 : Int)) then some (0 : Int) else bif !decide (e = (0 : Int)) then bif decide (e ≠ (0 : Int)) then some e else some (-1 : Int) else some (-1 : Int)) := by kernel_rfl


/-! ### horologe/horologelaw16.Document -/
noncomputable abbrev ct_law16Document : List (FuncId × Bool × SpecT) := []
theorem cs_law16Document : AllSound Tryd.prog ct_law16Document := trivial
noncomputable def F_law16Document (x : ((Int × Int × Int × Int × Int))) : Option ((Int × Int × Int × Int × Int)) := (evalF Tryd.prog (lookT ct_law16Document) (keepT []) (loopsT []) false false Tryd.f51 (codP [pRule]) 1 (codP [pRule]) x).run
noncomputable abbrev s_law16Document : SpecT := specF (codP [pRule]) 1 (codP [pRule]) F_law16Document
theorem so_law16Document : SoundT Tryd.prog 51 s_law16Document := soundG (P := Tryd.prog) mixed (t := ct_law16Document) cs_law16Document (f := 51) (fn := Tryd.f51) Tryd.func51 (by kernel_rfl) (by kernel_rfl) (by kernel_rfl) (ls := []) (by kernel_rfl) (kp := keepT []) (lps := loopsT []) (bump := false) (ice := false) (A := (codP [pRule])) (n := 1) (R := (codP [pRule])) fun _ => lps_nil

theorem e_law16Document (r : Int × Int × Int × Int × Int) : F_law16Document r = (
  some r) := by kernel_rfl


/-! ### horologe/horologelaw17.Document -/
noncomputable abbrev ct_law17Document : List (FuncId × Bool × SpecT) := [(51, false, s_law16Document)]
theorem cs_law17Document : AllSound Tryd.prog ct_law17Document := ⟨so_law16Document, trivial⟩
noncomputable def F_law17Document (x : ((List UInt8 × List UInt8 × Int × Int × (Int × Int × Int × Int × Int) × (Int × Int × Int × Int × Int)))) : Option ((List UInt8 × List UInt8 × Int × Int × (Int × Int × Int × Int × Int) × (Int × Int × Int × Int × Int))) := (evalF Tryd.prog (lookT ct_law17Document) (keepT []) (loopsT []) false false Tryd.f13 (codP [pPlan]) 1 (codP [pPlan]) x).run
noncomputable abbrev s_law17Document : SpecT := specF (codP [pPlan]) 1 (codP [pPlan]) F_law17Document
theorem so_law17Document : SoundT Tryd.prog 13 s_law17Document := soundG (P := Tryd.prog) mixed (t := ct_law17Document) cs_law17Document (f := 13) (fn := Tryd.f13) Tryd.func13 (by kernel_rfl) (by kernel_rfl) (by kernel_rfl) (ls := []) (by kernel_rfl) (kp := keepT []) (lps := loopsT []) (bump := false) (ice := false) (A := (codP [pPlan])) (n := 1) (R := (codP [pPlan])) fun _ => lps_nil

theorem e_law17Document (p : List UInt8 × List UInt8 × Int × Int × (Int × Int × Int × Int × Int) × (Int × Int × Int × Int × Int)) : F_law17Document p = (
  (F_law16Document p.snd.snd.snd.snd.fst).bind fun x1 => (F_law16Document p.snd.snd.snd.snd.snd).bind fun x2 => some (p.fst, p.snd.fst, p.snd.snd.fst, p.snd.snd.snd.fst, x1, x2)) := by kernel_rfl


/-! ### horologe/horologelaw17.alive -/
noncomputable abbrev ct_law17alive : List (FuncId × Bool × SpecT) := [(11, false, s_pxParse)]
theorem cs_law17alive : AllSound Tryd.prog ct_law17alive := ⟨so_pxParse, trivial⟩
noncomputable def F_law17alive (x : Unit) : Option (Bool) := (evalF Tryd.prog (lookT ct_law17alive) (keepT []) (loopsT []) false false Tryd.f10 (codP []) 1 (codP [pB]) x).run
noncomputable abbrev s_law17alive : SpecT := specF (codP []) 1 (codP [pB]) F_law17alive
theorem so_law17alive : SoundT Tryd.prog 10 s_law17alive := soundG (P := Tryd.prog) mixed (t := ct_law17alive) cs_law17alive (f := 10) (fn := Tryd.f10) Tryd.func10 (by kernel_rfl) (by kernel_rfl) (by kernel_rfl) (ls := []) (by kernel_rfl) (kp := keepT []) (lps := loopsT []) (bump := false) (ice := false) (A := (codP [])) (n := 1) (R := (codP [pB])) fun _ => lps_nil

theorem e_law17alive  : F_law17alive () = (
  (F_pxParse
        [(69 : UInt8), (83 : UInt8), (84 : UInt8), (53 : UInt8), (69 : UInt8), (68 : UInt8), (84 : UInt8), (44 : UInt8), (77 : UInt8), (51 : UInt8), (46 : UInt8), (50 : UInt8), (46 : UInt8),
          (48 : UInt8), (44 : UInt8), (77 : UInt8), (49 : UInt8), (49 : UInt8), (46 : UInt8), (49 : UInt8), (46 : UInt8), (48 : UInt8)]).bind
    fun x1 =>
    bif decide (x1.snd = (0 : Int)) then
      bif decide (x1.fst.snd.snd.fst = (-18000 : Int)) then
        bif decide (x1.fst.snd.snd.snd.fst = (-14400 : Int)) then
          bif decide (x1.fst.snd.snd.snd.snd.fst.snd.fst = (3 : Int)) then some (decide (x1.fst.snd.snd.snd.snd.snd.snd.snd.fst = (1 : Int))) else some false
        else some false
      else some false
    else some false) := by kernel_rfl


/-! ### horologe/horologelaw17.PosixParses -/
noncomputable abbrev ct_lawPosixParses : List (FuncId × Bool × SpecT) := [(10, false, s_law17alive), (11, false, s_pxParse), (12, false, s_r7Parse), (13, false, s_law17Document), (14, false, s_lawNum)]
theorem cs_lawPosixParses : AllSound Tryd.prog ct_lawPosixParses := ⟨so_law17alive, so_pxParse, so_r7Parse, so_law17Document, so_lawNum, trivial⟩
noncomputable def F_lawPosixParses (x : ((List UInt8))) : Option (Bool) := (evalF Tryd.prog (lookT ct_lawPosixParses) (keepT []) (loopsT []) false false Tryd.f3 (codP [pS]) 1 (codP [pB]) x).run
noncomputable abbrev s_lawPosixParses : SpecT := specF (codP [pS]) 1 (codP [pB]) F_lawPosixParses
theorem so_lawPosixParses : SoundT Tryd.prog 3 s_lawPosixParses := soundG (P := Tryd.prog) mixed (t := ct_lawPosixParses) cs_lawPosixParses (f := 3) (fn := Tryd.f3) Tryd.func3 (by kernel_rfl) (by kernel_rfl) (by kernel_rfl) (ls := []) (by kernel_rfl) (kp := keepT []) (lps := loopsT []) (bump := false) (ice := false) (A := (codP [pS])) (n := 1) (R := (codP [pB])) fun _ => lps_nil

theorem e_lawPosixParses (s : List UInt8) : F_lawPosixParses s = (
  (F_law17alive ()).bind fun x1 =>
    bif !x1 then some false
    else
      bif decide ((200 : Int) < (↑s.length : Int)) then some true
      else
        (F_pxParse s).bind fun x2 =>
          (F_r7Parse s).bind fun x3 =>
            (F_law17Document x2.fst).bind fun x4 =>
              bif
                  decide (x4.fst = x3.fst.fst) &&
                    (decide (x4.snd.fst = x3.fst.snd.fst) &&
                      (decide (x4.snd.snd.fst = x3.fst.snd.snd.fst) &&
                        (decide (x4.snd.snd.snd.fst = x3.fst.snd.snd.snd.fst) &&
                          (decide (x4.snd.snd.snd.snd.fst.fst = x3.fst.snd.snd.snd.snd.fst.fst) &&
                              (decide (x4.snd.snd.snd.snd.fst.snd.fst = x3.fst.snd.snd.snd.snd.fst.snd.fst) &&
                                (decide (x4.snd.snd.snd.snd.fst.snd.snd.fst = x3.fst.snd.snd.snd.snd.fst.snd.snd.fst) &&
                                  (decide (x4.snd.snd.snd.snd.fst.snd.snd.snd.fst = x3.fst.snd.snd.snd.snd.fst.snd.snd.snd.fst) &&
                                    (decide (x4.snd.snd.snd.snd.fst.snd.snd.snd.snd = x3.fst.snd.snd.snd.snd.fst.snd.snd.snd.snd) && true)))) &&
                            (decide (x4.snd.snd.snd.snd.snd.fst = x3.fst.snd.snd.snd.snd.snd.fst) &&
                                (decide (x4.snd.snd.snd.snd.snd.snd.fst = x3.fst.snd.snd.snd.snd.snd.snd.fst) &&
                                  (decide (x4.snd.snd.snd.snd.snd.snd.snd.fst = x3.fst.snd.snd.snd.snd.snd.snd.snd.fst) &&
                                    (decide (x4.snd.snd.snd.snd.snd.snd.snd.snd.fst = x3.fst.snd.snd.snd.snd.snd.snd.snd.snd.fst) &&
                                      (decide (x4.snd.snd.snd.snd.snd.snd.snd.snd.snd = x3.fst.snd.snd.snd.snd.snd.snd.snd.snd.snd) && true)))) &&
                              true))))) then
                (F_lawNum x2.snd).bind fun x5 => some (decide (x5 = x3.snd))
              else some false) := by kernel_rfl

end Go.Sm
/- The law FooterBegins. No condition. -/
set_option linter.unusedVariables false
namespace Go.Sm
open Go.Proofs
/-! ### horologe/horologelaw18.alive -/
noncomputable abbrev ct_law18alive : List (FuncId × Bool × SpecT) := [(11, false, s_pxParse), (39, false, s_ftAt)]
theorem cs_law18alive : AllSound Tryd.prog ct_law18alive := ⟨so_pxParse, so_ftAt, trivial⟩
noncomputable def F_law18alive (x : Unit) : Option (Bool) := (evalF Tryd.prog (lookT ct_law18alive) (keepT []) (loopsT []) false false Tryd.f37 (codP []) 1 (codP [pB]) x).run
noncomputable abbrev s_law18alive : SpecT := specF (codP []) 1 (codP [pB]) F_law18alive
theorem so_law18alive : SoundT Tryd.prog 37 s_law18alive := soundG (P := Tryd.prog) mixed (t := ct_law18alive) cs_law18alive (f := 37) (fn := Tryd.f37) Tryd.func37 (by kernel_rfl) (by kernel_rfl) (by kernel_rfl) (ls := []) (by kernel_rfl) (kp := keepT []) (lps := loopsT []) (bump := false) (ice := false) (A := (codP [])) (n := 1) (R := (codP [pB])) fun _ => lps_nil

theorem e_law18alive  : F_law18alive () = (
  (F_pxParse
        [(69 : UInt8), (83 : UInt8), (84 : UInt8), (53 : UInt8), (69 : UInt8), (68 : UInt8), (84 : UInt8), (44 : UInt8), (77 : UInt8), (51 : UInt8), (46 : UInt8), (50 : UInt8), (46 : UInt8),
          (48 : UInt8), (44 : UInt8), (77 : UInt8), (49 : UInt8), (49 : UInt8), (46 : UInt8), (49 : UInt8), (46 : UInt8), (48 : UInt8)]).bind
    fun x1 =>
    (F_ftAt (x1.fst, (1710054000 : Int))).bind fun x2 =>
      (F_ftAt (x1.fst, (1710053999 : Int))).bind fun x3 =>
        bif decide (x1.snd = (0 : Int)) then
          bif decide (x2.snd = (0 : Int)) then
            bif decide (x3.snd = (0 : Int)) then
              bif decide (x2.fst.snd.snd = [(69 : UInt8), (68 : UInt8), (84 : UInt8)]) then
                bif decide (x3.fst.snd.snd = [(69 : UInt8), (83 : UInt8), (84 : UInt8)]) then some (decide (x2.fst.fst = (-14400 : Int))) else some false
              else some false
            else some false
          else some false
        else some false) := by kernel_rfl


/-! ### horologe/horologelaw17.Long -/
noncomputable abbrev ct_law17LongA : List (FuncId × Bool × SpecT) := []
theorem cs_law17LongA : AllSound Tryd.prog ct_law17LongA := trivial
noncomputable def F_law17LongA (x : ((List UInt8 × List UInt8 × Int × Int × (Int × Int × Int × Int × Int) × (Int × Int × Int × Int × Int)))) : Option (Bool) := (evalF Tryd.prog (lookT ct_law17LongA) (keepT []) (loopsT []) false false Tryd.f27 (codP [pPlan]) 1 (codP [pB]) x).run
noncomputable abbrev s_law17LongA : SpecT := specF (codP [pPlan]) 1 (codP [pB]) F_law17LongA
theorem so_law17LongA : SoundT Tryd.prog 27 s_law17LongA := soundG (P := Tryd.prog) mixed (t := ct_law17LongA) cs_law17LongA (f := 27) (fn := Tryd.f27) Tryd.func27 (by kernel_rfl) (by kernel_rfl) (by kernel_rfl) (ls := []) (by kernel_rfl) (kp := keepT []) (lps := loopsT []) (bump := false) (ice := false) (A := (codP [pPlan])) (n := 1) (R := (codP [pB])) fun _ => lps_nil

theorem e_law17LongA (p : List UInt8 × List UInt8 × Int × Int × (Int × Int × Int × Int × Int) × (Int × Int × Int × Int × Int)) : F_law17LongA p = (
  bif decide ((60 : Int) < (↑(List.length p.fst) : Int)) then some true else some (decide ((60 : Int) < (↑(List.length p.snd.fst) : Int)))) := by kernel_rfl


/-! ### horologe/horologelaw18.FooterBegins -/
noncomputable abbrev ct_lawFooterBegins : List (FuncId × Bool × SpecT) := [(37, false, s_law18alive), (27, false, s_law17LongA), (38, false, s_FtTurns), (39, false, s_ftAt)]
theorem cs_lawFooterBegins : AllSound Tryd.prog ct_lawFooterBegins := ⟨so_law18alive, so_law17LongA, so_FtTurns, so_ftAt, trivial⟩
-- loop 0 (key 15) exit 0: [1, 2, 6, 10, 12]
-- loop 0 (key 15) exit 2: [4]
-- loop 0 (key 15) exit 3: [2, 10]
abbrev kp_lawFooterBegins : Keep := keepT [(15, 0, [(1, none), (2, none), (6, none), (10, none), (12, none)]), (15, 2, [(4, none)]), (15, 3, [(2, none), (10, none)])]
noncomputable abbrev b_lawFooterBegins_0 : Code := loopAt Tryd.f8 0
noncomputable def sp_lawFooterBegins_0 (x : (Int × (List UInt8 × List UInt8 × Int × Int × (Int × Int × Int × Int × Int) × (Int × Int × Int × Int × Int)) × Int × (Int × Bool × List UInt8) × Int)) : Option ((Int × (List UInt8 × List UInt8 × Int × Int × (Int × Int × Int × Int × Int) × (Int × Int × Int × Int × Int)) × Int × (Int × Bool × List UInt8) × Int) ⊕ ((Bool) ⊕ ((List UInt8 × List UInt8 × Int × Int × (Int × Int × Int × Int × Int) × (Int × Int × Int × Int × Int)) × (Int × Bool × List UInt8)))) := (stepL Tryd.prog (lookT ct_lawFooterBegins) kp_lawFooterBegins (loopsT []) 0 false b_lawFooterBegins_0 (codP [pI, (.box cPlan), pI, (.box cTyp), pI]) (exS (exO .ret (codP [pB])) (exO (.ext 0) (codP [(.box cPlan), (.box cTyp)]))) x).run
noncomputable def w_lawFooterBegins_0 : (Int × (List UInt8 × List UInt8 × Int × Int × (Int × Int × Int × Int × Int) × (Int × Int × Int × Int × Int)) × Int × (Int × Bool × List UInt8) × Int) → Option ((Bool) ⊕ ((List UInt8 × List UInt8 × Int × Int × (Int × Int × Int × Int × Int) × (Int × Int × Int × Int × Int)) × (Int × Bool × List UInt8))) := whileO sp_lawFooterBegins_0
theorem ew_lawFooterBegins_0 (x : (Int × (List UInt8 × List UInt8 × Int × Int × (Int × Int × Int × Int × Int) × (Int × Int × Int × Int × Int)) × Int × (Int × Bool × List UInt8) × Int)) : w_lawFooterBegins_0 x = (sp_lawFooterBegins_0 x).bind (Sum.elim w_lawFooterBegins_0 some) := whileO_eq _ _
noncomputable abbrev l_lawFooterBegins_0 : LT := ltF (codP [pI, (.box cPlan), pI, (.box cTyp), pI]) (exS (exO .ret (codP [pB])) (exO (.ext 0) (codP [(.box cPlan), (.box cTyp)]))) w_lawFooterBegins_0
theorem lo_lawFooterBegins_0 : LoopOk Tryd.prog Tryd.f8.ntmps kp_lawFooterBegins 0 false b_lawFooterBegins_0 l_lawFooterBegins_0 := loopG mixed cs_lawFooterBegins (lps := loopsT []) (by kernel_rfl) (ls := []) (by kernel_rfl) lps_nil
noncomputable def F_lawFooterBegins (x : ((List UInt8 × List UInt8 × Int × Int × (Int × Int × Int × Int × Int) × (Int × Int × Int × Int × Int)) × Int)) : Option (Bool) := (evalF Tryd.prog (lookT ct_lawFooterBegins) (kp_lawFooterBegins) (loopsT [(15, l_lawFooterBegins_0)]) false false Tryd.f8 (codP [pPlan, pI]) 1 (codP [pB]) x).run
noncomputable abbrev s_lawFooterBegins : SpecT := specF (codP [pPlan, pI]) 1 (codP [pB]) F_lawFooterBegins
theorem so_lawFooterBegins : SoundT Tryd.prog 8 s_lawFooterBegins := soundG (P := Tryd.prog) mixed (t := ct_lawFooterBegins) cs_lawFooterBegins (f := 8) (fn := Tryd.f8) Tryd.func8 (by kernel_rfl) (by kernel_rfl) (by kernel_rfl) (ls := [b_lawFooterBegins_0]) (by kernel_rfl) (kp := kp_lawFooterBegins) (lps := loopsT [(15, l_lawFooterBegins_0)]) (bump := false) (ice := false) (A := (codP [pPlan, pI])) (n := 1) (R := (codP [pB])) fun _ => (lps_cons l_lawFooterBegins_0 (by kernel_rfl) lo_lawFooterBegins_0 lps_nil)

theorem es_lawFooterBegins_0 (y : Int) (p : List UInt8 × List UInt8 × Int × Int × (Int × Int × Int × Int × Int) × (Int × Int × Int × Int × Int)) (n : Int) (l : Int × Bool × List UInt8) (k : Int) : sp_lawFooterBegins_0 (y, p, n, l, k) = (
  bif decide (k ≤ IntKind.i64.wrap (y + (2 : Int))) then
    (F_FtTurns (p, k)).bind fun x1 =>
      bif decide (x1.snd.snd = (0 : Int)) then bif decide (x1.fst = n) then some (Sum.inr (Sum.inl l.snd.fst)) else some (Sum.inl (y, p, n, l, IntKind.i64.wrap (k + (1 : Int))))
      else some (Sum.inl (y, p, n, l, IntKind.i64.wrap (k + (1 : Int))))
  else some (Sum.inr (Sum.inr (p, l)))) := by kernel_rfl

theorem e_lawFooterBegins (p : List UInt8 × List UInt8 × Int × Int × (Int × Int × Int × Int × Int) × (Int × Int × Int × Int × Int)) (y : Int) : F_lawFooterBegins (p, y) = (
  (F_law18alive ()).bind fun x1 =>
    bif !x1 then some false
    else
      (F_law17LongA p).bind fun x2 =>
        bif x2 then some true
        else
          (F_FtTurns (p, y)).bind fun x3 =>
            bif decide (x3.snd.snd ≠ (0 : Int)) then bif decide (x3.fst = (0 : Int)) then some (decide (x3.snd.fst = (0 : Int))) else some false
            else
              (F_ftAt (p, x3.fst)).bind fun x4 =>
                bif decide (x4.snd = (0 : Int)) then
                  bif !x4.fst.snd.fst then some false
                  else
                    bif decide (x4.fst.fst ≠ p.snd.snd.snd.fst) then some false
                    else
                      bif decide (x4.fst.snd.snd ≠ p.snd.fst) then some false
                      else
                        (F_ftAt (p, x3.snd.fst)).bind fun x5 =>
                          bif decide (x5.snd ≠ (0 : Int)) then some true
                          else
                            bif x5.fst.snd.fst then
                              bif decide (x3.fst = x3.snd.fst) then some true
                              else
                                (w_lawFooterBegins_0 (y, p, x3.snd.fst, x5.fst, IntKind.i64.wrap (y - (2 : Int)))).bind fun x6 =>
                                  Sum.elim (fun x7 => some x7)
                                    (fun x7 => bif !x7.snd.snd.fst then bif decide (x7.snd.fst = x7.fst.snd.snd.fst) then some (decide (x7.snd.snd.snd = x7.fst.fst)) else some false else some false) x6
                            else
                              (w_lawFooterBegins_0 (y, p, x3.snd.fst, x5.fst, IntKind.i64.wrap (y - (2 : Int)))).bind fun x6 =>
                                Sum.elim (fun x7 => some x7)
                                  (fun x7 => bif !x7.snd.snd.fst then bif decide (x7.snd.fst = x7.fst.snd.snd.fst) then some (decide (x7.snd.snd.snd = x7.fst.fst)) else some false else some false) x6
                else
                  (F_ftAt (p, x3.snd.fst)).bind fun x5 =>
                    bif decide (x5.snd ≠ (0 : Int)) then some true
                    else
                      bif x5.fst.snd.fst then
                        bif decide (x3.fst = x3.snd.fst) then some true
                        else
                          (w_lawFooterBegins_0 (y, p, x3.snd.fst, x5.fst, IntKind.i64.wrap (y - (2 : Int)))).bind fun x6 =>
                            Sum.elim (fun x7 => some x7)
                              (fun x7 => bif !x7.snd.snd.fst then bif decide (x7.snd.fst = x7.fst.snd.snd.fst) then some (decide (x7.snd.snd.snd = x7.fst.fst)) else some false else some false) x6
                      else
                        (w_lawFooterBegins_0 (y, p, x3.snd.fst, x5.fst, IntKind.i64.wrap (y - (2 : Int)))).bind fun x6 =>
                          Sum.elim (fun x7 => some x7)
                            (fun x7 => bif !x7.snd.snd.fst then bif decide (x7.snd.fst = x7.fst.snd.snd.fst) then some (decide (x7.snd.snd.snd = x7.fst.fst)) else some false else some false) x6) := by kernel_rfl

end Go.Sm
/- Plain Lean: the reference's plans are the program's; the law PosixParses. -/
set_option linter.unusedVariables false
set_option linter.unusedSimpArgs false
namespace Go.Sm
open Go.Proofs

theorem rl_44 (r : List UInt8) : rl (44 :: r) 0 = (r.dropWhile (· != 44), (rul (r.takeWhile (· != 44))).2, (rul (r.takeWhile (· != 44))).1) := by
  unfold rl rlS rlE
  rw [tkB_cons, tk_cons]
  rfl
theorem rl_no {r : List UInt8} (h : r.head? ≠ some 44) : (rl r 0).2.1 = 2 := by
  unfold rl rlE
  rw [tkB_zero, decide_eq_false h]
  rfl
theorem r7P1 (s : List UInt8) (p q : Pln) (x k : Int) (hs : small s) (i : Nat) (hi : i ≤ s.length) : w_r7Parse_1 (s, p, q, x, (i : Int), k) = some (s, p, q, x, ((i + ((s.drop i).takeWhile (· != 44)).length : Nat) : Int), k) :=
  scan_ne (step := sp_r7Parse_1) (fun i => (s, p, q, x, (i : Int), k)) (fun i => (s, p, q, x, (i : Int), k)) s (· != 44) (fun i hi => by
    unfold small at hs
    rw [es_r7Parse_1, cond_dec]
    by_cases h : i < s.length
    · rw [dif_pos h, if_pos (by omega), getI_at h]
      simp only [Option.bind_some, cond_dec]
      rw [wrap_succ (by omega)]
      by_cases h47 : s[i] = 44
      · rw [if_neg (by simpa using h47), if_neg (by simpa using h47)]
      · rw [if_pos h47, if_pos (by simpa using h47)]
    · rw [dif_neg h, if_neg (by omega)]) i hi
def setRule (k : Int) (q : Pln) (x : Rul) : Pln := if k = 0 then (q.1, q.2.1, q.2.2.1, q.2.2.2.1, x, q.2.2.2.2.2) else (q.1, q.2.1, q.2.2.1, q.2.2.2.1, q.2.2.2.2.1, x)
/-- A round of the loop over Begin and End. -/
theorem r7P0 (s : List UInt8) (p q : Pln) (a k : Nat) (hs : small s) (ha : a ≤ s.length) (hk : k < 2) :
    ((rl (s.drop a) 0).2.1 ≠ 0 ∧ w_r7Parse_0 (s, p, q, (a : Int), (k : Int)) = some (.inl (noPlan, (rl (s.drop a) 0).2.1))) ∨
    ((rl (s.drop a) 0).2.1 = 0 ∧ ∃ a' : Nat, a' ≤ s.length ∧ s.drop a' = (rl (s.drop a) 0).1 ∧ w_r7Parse_0 (s, p, q, (a : Int), (k : Int)) = w_r7Parse_0 (s, p, setRule k q (rl (s.drop a) 0).2.2, (a' : Int), ((k + 1 : Nat) : Int))) := by
  have hsm : s.length ≤ 1000000000000 := hs
  rw [ew_r7Parse_0, es_r7Parse_0, cond_dec, if_pos (by omega), cond_dec]
  by_cases h : a < s.length
  · rw [if_neg (by omega), getI_at h]
    have hd := List.drop_eq_getElem_cons h
    simp only [Option.bind_some]
    rw [cond_dec]
    by_cases h44 : s[a] = 44
    · rw [if_neg (by simpa using h44)]
      have hrl : rl (s.drop a) 0 = ((s.drop (a + 1)).dropWhile (· != 44), (rul ((s.drop (a + 1)).takeWhile (· != 44))).2, (rul ((s.drop (a + 1)).takeWhile (· != 44))).1) := by rw [hd, h44, rl_44]
      have hle := tw_le (s := s) (a := a + 1) (· != 44) (by omega)
      rw [hrl, wrap_succ (by omega), r7P1 s p q _ _ hs (a + 1) (by omega)]
      simp only [Option.bind_some]
      rw [sub_tw _ (by omega)]
      simp only [Option.bind_some]
      rw [r6Parse _ (by unfold small; omega)]
      simp only [Option.bind_some]
      rw [cond_dec]
      by_cases hr : (rul ((s.drop (a + 1)).takeWhile (· != 44))).2 ≠ 0
      · rw [if_pos hr]
        exact .inl ⟨hr, rfl⟩
      · rw [if_neg hr]
        refine .inr ⟨Decidable.not_not.1 hr, _, hle, drop_tw _, ?_⟩
        rw [wrap_succ (by omega), cond_dec]
        unfold setRule
        by_cases hk0 : (k : Int) = 0
        · rw [if_pos hk0, if_pos hk0]; rfl
        · rw [if_neg hk0, if_neg hk0]; rfl
    · rw [if_pos h44]
      have : (rl (s.drop a) 0).2.1 = 2 := rl_no (by rw [hd, List.head?_cons]; simpa using h44)
      rw [this]
      exact .inl ⟨by omega, rfl⟩
  · rw [if_pos (by omega)]
    have : (rl (s.drop a) 0).2.1 = 2 := rl_no (by rw [List.drop_eq_nil_of_le (by omega)]; simp)
    rw [this]
    exact .inl ⟨by omega, rfl⟩
theorem r7P0_done (s : List UInt8) (p q : Pln) (a : Int) : w_r7Parse_0 (s, p, q, a, ((0 + 1 + 1 : Nat) : Int)) = some (.inr (s, p, q, a)) := by
  rw [ew_r7Parse_0, es_r7Parse_0, cond_dec, if_neg (by omega)]
  rfl
/-- The end of a plan with a summer, from what is left behind its offsets. -/
def tlO (n n2 : List UInt8) (o ah : Int) (r : List UInt8) : Pln × Int :=
  if (rl r 0).2.1 ≠ 0 then (noPlan, (rl r 0).2.1)
  else if (rl (rl r 0).1 0).2.1 ≠ 0 then (noPlan, (rl (rl r 0).1 0).2.1)
  else if (rl (rl r 0).1 0).1 ≠ [] then (noPlan, 2)
  else if 89999 < ah then (noPlan, 1)
  else ((n, n2, o, ah, (rl r 0).2.2, (rl (rl r 0).1 0).2.2), 0)
theorem r7tail (s : List UInt8) (hs : small s) (n n2 : List UInt8) (o ah : Int) (a : Nat) (ha : a ≤ s.length) :
    ((w_r7Parse_0
      (s, ([], [], (0 : Int), (0 : Int), ((0 : Int), (0 : Int), (0 : Int), (0 : Int), (0 : Int)), (0 : Int), (0 : Int), (0 : Int), (0 : Int), (0 : Int)),
        (n, n2, o, ah, ((0 : Int), (0 : Int), (0 : Int), (0 : Int), (0 : Int)), (0 : Int), (0 : Int), (0 : Int), (0 : Int), (0 : Int)),
        (a : Int), (0 : Int))).bind
      fun x7 =>
      Sum.elim (fun x8 => some x8)
        (fun x8 =>
          bif decide (x8.snd.snd.snd < (↑(List.length x8.fst) : Int)) then
            some (([], [], (0 : Int), (0 : Int), ((0 : Int), (0 : Int), (0 : Int), (0 : Int), (0 : Int)), (0 : Int), (0 : Int), (0 : Int), (0 : Int), (0 : Int)), (2 : Int))
          else
            bif decide ((89999 : Int) < x8.snd.snd.fst.snd.snd.snd.fst) then
              some (([], [], (0 : Int), (0 : Int), ((0 : Int), (0 : Int), (0 : Int), (0 : Int), (0 : Int)), (0 : Int), (0 : Int), (0 : Int), (0 : Int), (0 : Int)), (1 : Int))
            else some (x8.snd.snd.fst, (0 : Int)))
        x7) = some (tlO n n2 o ah (s.drop a)) := by
  unfold tlO
  have h0 := r7P0 s noPlan (n, n2, o, ah, noRule, noRule) a 0 hs ha (by omega)
  rcases h0 with ⟨h1, h2⟩ | ⟨h1, a', ha', hd', h2⟩
  · rw [if_pos h1]
    have h2 : w_r7Parse_0 (s, ([], [], (0 : Int), (0 : Int), ((0 : Int), (0 : Int), (0 : Int), (0 : Int), (0 : Int)), (0 : Int), (0 : Int), (0 : Int), (0 : Int), (0 : Int)),
        (n, n2, o, ah, ((0 : Int), (0 : Int), (0 : Int), (0 : Int), (0 : Int)), (0 : Int), (0 : Int), (0 : Int), (0 : Int), (0 : Int)), (a : Int), (0 : Int)) = _ := h2
    rw [h2]
    rfl
  · rw [if_neg (by omega)]
    have h2 : w_r7Parse_0 (s, ([], [], (0 : Int), (0 : Int), ((0 : Int), (0 : Int), (0 : Int), (0 : Int), (0 : Int)), (0 : Int), (0 : Int), (0 : Int), (0 : Int), (0 : Int)),
        (n, n2, o, ah, ((0 : Int), (0 : Int), (0 : Int), (0 : Int), (0 : Int)), (0 : Int), (0 : Int), (0 : Int), (0 : Int), (0 : Int)), (a : Int), (0 : Int)) = _ := h2
    rw [h2]
    have h3 := r7P0 s noPlan (setRule (0 : Nat) (n, n2, o, ah, noRule, noRule) (rl (s.drop a) 0).2.2) a' (0 + 1) hs ha' (by omega)
    rw [hd'] at h3
    rcases h3 with ⟨h4, h5⟩ | ⟨h4, a2, ha2, hd2, h5⟩
    · rw [if_pos h4, h5]
      rfl
    · have hset : ∀ x y : Rul, setRule ((0 + 1 : Nat) : Int) (setRule ((0 : Nat) : Int) (n, n2, o, ah, noRule, noRule) x) y = (n, n2, o, ah, x, y) := fun x y => rfl
      rw [if_neg (by omega), h5, r7P0_done, hset]
      simp only [Option.bind_some, Sum.elim_inr]
      rw [cond_dec, cond_dec, ← hd2]
      by_cases h6 : a2 < s.length
      · rw [if_pos (by omega), if_pos (by simp; omega)]
        rfl
      · rw [if_neg (show ¬ ((a2 : Int) < (s.length : Int)) by omega), if_neg (show ¬ (s.drop a2 ≠ []) by simp; omega)]
        by_cases h7 : 89999 < ah
        · rw [if_pos h7, if_pos h7]; rfl
        · rw [if_neg h7, if_neg h7]
theorem planO_eq (s : List UInt8) : planO s = match nmO s with
  | none => (noPlan, 2)
  | some (r1, n) =>
    if (ofs r1 0).2.1 ≠ 0 then (noPlan, (ofs r1 0).2.1)
    else if (ofs r1 0).1 = [] then ((n, [], (ofs r1 0).2.2, 0, noRule, noRule), 0)
    else match nmO (ofs r1 0).1 with
      | none => (noPlan, 2)
      | some (r3, n2) =>
        if (ahd r3 0 (ofs r1 0).2.2).2.1 ≠ 0 then (noPlan, (ahd r3 0 (ofs r1 0).2.2).2.1)
        else tlO n n2 (ofs r1 0).2.2 (ahd r3 0 (ofs r1 0).2.2).2.2 (ahd r3 0 (ofs r1 0).2.2).1 := rfl
theorem nmO_suf {r r' n : List UInt8} (h : nmO r = some (r', n)) : r' <:+ r := by
  cases r with
  | nil => cases h
  | cons b r1 =>
    by_cases h60 : b = 60
    · subst h60
      have h : (if nameB (r1.takeWhile (· != 62)) then (match r1.dropWhile (· != 62) with | [] => none | _ :: r2 => some (r2, r1.takeWhile (· != 62))) else none) = some (r', n) := h
      split at h
      · rcases dw_cases 62 r1 with hq | ⟨r2, hq⟩
        · rw [hq] at h; cases h
        · rw [hq] at h
          obtain ⟨rfl, rfl⟩ := Prod.mk.inj (Option.some.inj h)
          exact ((List.suffix_cons _ _).trans (hq ▸ List.dropWhile_suffix _)).trans (List.suffix_cons _ _)
      · cases h
    · rw [nmB_eq _ _ h60] at h
      split at h
      · obtain ⟨rfl, rfl⟩ := Prod.mk.inj (Option.some.inj h)
        exact List.dropWhile_suffix _
      · cases h
theorem suf_drop {s r : List UInt8} (h : r <:+ s) : s.drop (s.length - r.length) = r := (List.suffix_iff_eq_drop.1 h).symm
theorem r7Parse (s : List UInt8) (hs : small s) : F_r7Parse s = some (planO s) := by
  have hsm : s.length ≤ 1000000000000 := hs
  have h0 := r7name s 0 hs (by omega)
  rw [List.drop_zero] at h0
  have h0 : F_r7name (s, (0 : Int)) = some (nmR s (nmO s)) := h0
  rw [planO_eq, e_r7Parse, h0]
  simp only [Option.bind_some]
  cases hn : nmO s with
  | none => rfl
  | some x =>
    obtain ⟨r1, n⟩ := x
    have hsuf := nmO_suf hn
    have hl1 := hsuf.length_le
    have hd1 := suf_drop hsuf
    have hc := r7clock s (s.length - r1.length) hs (by omega)
    have hsub := sub_tw (s := s) (a := s.length - r1.length) (runP clocks) (by omega)
    have hle2 := tw_le (s := s) (a := s.length - r1.length) (runP clocks) (by omega)
    have hd2 := drop_tw (s := s) (a := s.length - r1.length) (runP clocks)
    rw [hd1] at hc hsub hle2 hd2
    rw [show nmR s (some (r1, n)) = (n, ((s.length - r1.length : Nat) : Int)) from rfl]
    dsimp only
    rw [cond_dec, if_neg (by omega), hc]
    simp only [Option.bind_some]
    rw [hsub]
    simp only [Option.bind_some]
    have hsm1 : small (r1.takeWhile (runP clocks)) := by unfold small; omega
    rw [r6ParseClock _ 24 hsm1 (by omega) (by omega)]
    simp only [Option.bind_some]
    have hof : ofs r1 0 = (r1.dropWhile (runP clocks), (clk (r1.takeWhile (runP clocks)) 24).2, -(clk (r1.takeWhile (runP clocks)) 24).1) := rfl
    have hrange := clk_24 (r1.takeWhile (runP clocks))
    rw [hof, cond_dec]
    dsimp only
    by_cases h1 : (clk (r1.takeWhile (runP clocks)) 24).2 ≠ 0
    · rw [if_pos h1, if_pos h1]; rfl
    · rw [if_neg h1, if_neg h1, cond_dec, ← hd2, wrap_i64 (x := 0 - _) (by omega) (by omega), Int.zero_sub]
      by_cases h2 : s.length - r1.length + (r1.takeWhile (runP clocks)).length = s.length
      · rw [if_pos (by omega), if_pos (by simp; omega)]; rfl
      · rw [if_neg (by omega), if_neg (by simp; omega)]
        rw [r7name s _ hs hle2]
        simp only [Option.bind_some]
        cases hn2 : nmO (s.drop (s.length - r1.length + (r1.takeWhile (runP clocks)).length)) with
        | none => rfl
        | some y =>
          obtain ⟨r3, n2⟩ := y
          have hsuf3 := (nmO_suf hn2).trans (List.drop_suffix _ _)
          have hl3 := hsuf3.length_le
          have hd3 := suf_drop hsuf3
          rw [show nmR s (some (r3, n2)) = (n2, ((s.length - r3.length : Nat) : Int)) from rfl]
          dsimp only
          rw [cond_dec, if_neg (by omega), cond_dec]
          have tl := fun ah a ha => r7tail s hs n n2 (-(clk (r1.takeWhile (runP clocks)) 24).1) ah a ha
          cases r3 with
          | nil =>
            rw [if_neg (by simp)]
            have ha : ahd [] 0 (-(clk (r1.takeWhile (runP clocks)) 24).1) = ([], 0, -(clk (r1.takeWhile (runP clocks)) 24).1 + 3600) := rfl
            have := tl (-(clk (r1.takeWhile (runP clocks)) 24).1 + 3600) (s.length - ([] : List UInt8).length) (by omega)
            rw [hd3] at this
            rw [ha, wrap_i64 (x := _ + 3600) (by omega) (by omega), if_neg (by simp)]
            exact this
          | cons b r4 =>
            have hlt : s.length - (b :: r4).length < s.length := by simp at hl3 ⊢; omega
            have hb : s[s.length - (b :: r4).length]'hlt = b := by
              have := List.drop_eq_getElem_cons hlt
              rw [hd3] at this
              exact (List.cons.inj this).1.symm
            rw [if_pos (by omega), getI_at hlt, hb]
            simp only [Option.bind_some]
            rw [cond_dec]
            by_cases h44 : b = 44
            · rw [if_neg (by simpa using h44)]
              have ha : ahd (b :: r4) 0 (-(clk (r1.takeWhile (runP clocks)) 24).1) = (b :: r4, 0, -(clk (r1.takeWhile (runP clocks)) 24).1 + 3600) := by
                unfold ahd
                rw [rd_zero]
                simp [h44]
              have := tl (-(clk (r1.takeWhile (runP clocks)) 24).1 + 3600) (s.length - (b :: r4).length) (by omega)
              rw [hd3] at this
              rw [ha, wrap_i64 (x := _ + 3600) (by omega) (by omega), if_neg (by simp)]
              exact this
            · rw [if_pos h44]
              have ha : ahd (b :: r4) 0 (-(clk (r1.takeWhile (runP clocks)) 24).1) = ofs (b :: r4) 0 := by
                unfold ahd
                rw [rd_zero]
                simp [h44]
              generalize hr3 : b :: r4 = r3 at *
              have hc := r7clock s (s.length - r3.length) hs (by omega)
              have hsub := sub_tw (s := s) (a := s.length - r3.length) (runP clocks) (by omega)
              have hle3 := tw_le (s := s) (a := s.length - r3.length) (runP clocks) (by omega)
              have hd4 := drop_tw (s := s) (a := s.length - r3.length) (runP clocks)
              rw [hd3] at hc hsub hle3 hd4
              rw [hc]
              simp only [Option.bind_some]
              rw [hsub]
              simp only [Option.bind_some]
              have hsm3 : small (r3.takeWhile (runP clocks)) := by unfold small; omega
              rw [r6ParseClock _ 24 hsm3 (by omega) (by omega)]
              simp only [Option.bind_some]
              have hof3 : ofs r3 0 = (r3.dropWhile (runP clocks), (clk (r3.takeWhile (runP clocks)) 24).2, -(clk (r3.takeWhile (runP clocks)) 24).1) := rfl
              have hrange3 := clk_24 (r3.takeWhile (runP clocks))
              rw [ha, hof3, cond_dec]
              dsimp only
              by_cases h5 : (clk (r3.takeWhile (runP clocks)) 24).2 ≠ 0
              · rw [if_pos h5, if_pos h5]; rfl
              · rw [if_neg h5, if_neg h5, wrap_i64 (x := 0 - _) (by omega) (by omega), Int.zero_sub, ← hd4]
                exact tl _ _ hle3

/-! ### The law -/
theorem lawNum (e : Int) : F_lawNum e = some e := by
  rw [e_lawNum]
  by_cases h : e = 0
  · subst h; rfl
  · rw [decide_eq_false h]
    simp [h]
theorem law16Document (r : Rul) : F_law16Document r = some r := e_law16Document r
theorem law17Document (p : Pln) : F_law17Document p = some p := by
  rw [e_law17Document, law16Document, law16Document]
  rfl
def chapter : List UInt8 := [(69 : UInt8), (83 : UInt8), (84 : UInt8), (53 : UInt8), (69 : UInt8), (68 : UInt8), (84 : UInt8), (44 : UInt8), (77 : UInt8), (51 : UInt8), (46 : UInt8), (50 : UInt8), (46 : UInt8),
          (48 : UInt8), (44 : UInt8), (77 : UInt8), (49 : UInt8), (49 : UInt8), (46 : UInt8), (49 : UInt8), (46 : UInt8), (48 : UInt8)]
theorem plan_chapter : planO chapter = (([69, 83, 84], [69, 68, 84], -18000, -14400, (3, 3, 2, 0, 7200), (3, 11, 1, 0, 7200)), 0) := by kernel_rfl
theorem law17alive : F_law17alive () = some true := by
  have h : F_pxParse chapter = _ := pxParse chapter (by decide)
  rw [plan_eq, plan_chapter] at h
  rw [e_law17alive]
  show (F_pxParse chapter).bind _ = _
  rw [h]
  rfl
theorem lawPosixParses (s : List UInt8) : F_lawPosixParses s = some true := by
  rw [e_lawPosixParses, law17alive]
  simp only [Option.bind_some, Bool.not_true, cond_false]
  rw [cond_dec]
  by_cases h : (200 : Int) < (s.length : Int)
  · rw [if_pos h]
  · have hs : small s := by unfold small; omega
    rw [if_neg h, pxParse s hs, r7Parse s hs, plan_eq]
    simp only [Option.bind_some]
    rw [law17Document, lawNum]
    simp
end Go.Sm
/- Plain Lean: the law FooterBegins. -/
set_option linter.unusedVariables false
set_option linter.unusedSimpArgs false
namespace Go.Sm
open Go.Proofs

def chP : Pln := ([69, 83, 84], [69, 68, 84], -18000, -14400, (3, 3, 2, 0, 7200), (3, 11, 1, 0, 7200))
theorem chP_two : Two chP := ⟨by decide +kernel, by decide⟩
theorem law18alive : F_law18alive () = some true := by
  have h : F_pxParse chapter = _ := pxParse chapter (by decide)
  rw [plan_eq, plan_chapter] at h
  have h : F_pxParse chapter = some (chP, 0) := h
  have s1 : small chP.1 := by decide
  have s2 : small chP.2.1 := by decide
  have a1 := ftAt_two chP_two s1 s2 (t := 1710054000) (kB := 2024) (kE := 2023) (by decide) (by decide +kernel) (by decide +kernel) (by decide +kernel) (by decide +kernel) (by decide +kernel)
  have a2 := ftAt_two chP_two s1 s2 (t := 1710053999) (kB := 2023) (kE := 2023) (by decide) (by decide +kernel) (by decide +kernel) (by decide +kernel) (by decide +kernel) (by decide +kernel)
  rw [if_pos (by decide +kernel)] at a1
  rw [if_neg (by decide +kernel)] at a2
  rw [e_law18alive]
  show (F_pxParse chapter).bind _ = _
  rw [h]
  simp only [Option.bind_some]
  rw [a1]
  simp only [Option.bind_some]
  rw [a2]
  rfl
theorem law17LongA (p : Pln) : F_law17LongA p = some (decide (60 < p.1.length ∨ 60 < p.2.1.length)) := by
  rw [e_law17LongA, cond_dec]
  by_cases h : 60 < p.1.length
  · rw [if_pos (by omega), decide_eq_true (.inl h)]
  · rw [if_neg (by omega)]
    congr 1
    exact decide_eq_decide.2 (by omega)
theorem FtTurns_wrong {p : Pln} (h : pck p ≠ 0) (h1 : small p.1) (h2 : small p.2.1) (y : Int) : F_FtTurns (p, y) = some (0, 0, pck p) := by
  rw [e_FtTurns, pxCheck p h1 h2]
  simp only [Option.bind_some]
  rw [cond_dec, if_pos h]
theorem FtTurns_one {p : Pln} (h : pck p = 0) (hs : p.2.1 = []) (h1 : small p.1) (y : Int) : F_FtTurns (p, y) = some (0, 0, 8) := by
  have hch : F_pxChanges p = some (decide (p.2.1 ≠ [])) := e_pxChanges p
  rw [e_FtTurns, pxCheck p h1 (by rw [hs]; simp [small]), h]
  simp only [Option.bind_some]
  rw [cond_dec, if_neg (by simp), hch, decide_eq_false (by simp [hs])]
  rfl
abbrev inY (k : Int) : Prop := -10001 ≤ k ∧ k ≤ 10001
theorem fb_round {p : Pln} (h : Two p) (h1 : small p.1) (h2 : small p.2.1) (y n : Int) (l : Loc) (k : Int) (hy : inY y) (hk1 : y - 2 ≤ k) (hk2 : k ≤ y + 2) :
    w_lawFooterBegins_0 (y, p, n, l, k) = if inY k ∧ tB p k = n then some (.inl l.2.1) else w_lawFooterBegins_0 (y, p, n, l, k + 1) := by
  obtain ⟨l1, l2, l3⟩ := l
  unfold inY at hy
  rw [ew_lawFooterBegins_0, es_lawFooterBegins_0, wrap_i64 (x := y + 2) (by omega) (by omega), cond_dec, if_pos (by omega), FtTurns h h1 h2, wrap_i64 (x := k + 1) (by omega) (by omega)]
  simp only [Option.bind_some]
  unfold inY
  by_cases hk : -10001 ≤ k ∧ k ≤ 10001
  · rw [if_pos hk]
    dsimp only
    rw [cond_dec, if_pos rfl, cond_dec]
    by_cases hn : tB p k = n
    · rw [if_pos hn, if_pos ⟨hk, hn⟩]
      rfl
    · rw [if_neg hn, if_neg (fun q => hn q.2)]
      rfl
  · rw [if_neg hk, if_neg (fun q => hk q.1)]
    dsimp only
    rw [cond_dec, if_neg (by simp)]
    rfl
theorem fb_none {p : Pln} (h : Two p) (h1 : small p.1) (h2 : small p.2.1) (y n : Int) (l : Loc) (hy : inY y) : ∀ (j : Nat) (k : Int), k + j = y + 3 → y - 2 ≤ k → (∀ k', k ≤ k' → k' ≤ y + 2 → ¬ (inY k' ∧ tB p k' = n)) → w_lawFooterBegins_0 (y, p, n, l, k) = some (.inr (p, l))
  | 0, k, hk, hlo, hno => by
    obtain ⟨l1, l2, l3⟩ := l
    unfold inY at hy
    rw [ew_lawFooterBegins_0, es_lawFooterBegins_0, wrap_i64 (x := y + 2) (by omega) (by omega), cond_dec, if_neg (by omega)]
    rfl
  | j + 1, k, hk, hlo, hno => by
    rw [fb_round h h1 h2 y n l k hy hlo (by omega), if_neg (hno k (Int.le_refl _) (by omega))]
    exact fb_none h h1 h2 y n l hy j (k + 1) (by omega) (by omega) fun k' q1 q2 => hno k' (by omega) q2
theorem fb_some {p : Pln} (h : Two p) (h1 : small p.1) (h2 : small p.2.1) (y n : Int) (l : Loc) (hy : inY y) (k0 : Int) (h0 : inY k0 ∧ tB p k0 = n) : ∀ (j : Nat) (k : Int), k + j = k0 → y - 2 ≤ k → k0 ≤ y + 2 → w_lawFooterBegins_0 (y, p, n, l, k) = some (.inl l.2.1)
  | 0, k, hk, hlo, hhi => by
    obtain rfl : k = k0 := by omega
    rw [fb_round h h1 h2 y n l k hy hlo hhi, if_pos h0]
  | j + 1, k, hk, hlo, hhi => by
    rw [fb_round h h1 h2 y n l k hy hlo (by omega)]
    split
    · rfl
    · exact fb_some h h1 h2 y n l hy k0 h0 j (k + 1) (by omega) (by omega) hhi
/-- The End's part of the law. -/
theorem fb_tail {p : Pln} (h : Two p) (h1 : small p.1) (h2 : small p.2.1) (y : Int) (hy : inY y) :
    ((F_ftAt (p, tE p y)).bind fun x5 =>
      bif decide (x5.snd ≠ (0 : Int)) then some true
      else
        bif x5.fst.snd.fst then
          bif decide (tB p y = tE p y) then some true
          else
            (w_lawFooterBegins_0 (y, p, tE p y, x5.fst, IntKind.i64.wrap (y - (2 : Int)))).bind fun x6 =>
              Sum.elim (fun x7 => some x7)
                (fun x7 => bif !x7.snd.snd.fst then bif decide (x7.snd.fst = x7.fst.snd.snd.fst) then some (decide (x7.snd.snd.snd = x7.fst.fst)) else some false else some false) x6
        else
          (w_lawFooterBegins_0 (y, p, tE p y, x5.fst, IntKind.i64.wrap (y - (2 : Int)))).bind fun x6 =>
            Sum.elim (fun x7 => some x7)
              (fun x7 => bif !x7.snd.snd.fst then bif decide (x7.snd.fst = x7.fst.snd.snd.fst) then some (decide (x7.snd.snd.snd = x7.fst.fst)) else some false else some false) x6) = some true := by
  have hS := yS_big (y := y) (by unfold inY at hy; omega)
  have hr := tE_range h y
  have ht : i64 (tE p y) := by unfold i64; omega
  have hy' : -10001 ≤ y ∧ y ≤ 10001 := hy
  rw [wrap_i64 (x := y - 2) (by omega) (by omega)]
  by_cases hd : dated (tE p y)
  · obtain ⟨y', hy1, hy2, hy3⟩ := year_ex _ hd
    obtain ⟨kB, b1, b2⟩ := near_ex (tB_next h) (tB_range h) hy2 hy3
    have e2 : tE p y < tE p (y + 1) := rise (tE_next h) (by omega)
    obtain ⟨n1, n2⟩ := near (tB_range h) b1 b2 hy2 hy3
    rw [ftAt_two h h1 h2 ht hd b1 b2 (Int.le_refl _) e2]
    simp only [Option.bind_some]
    rw [cond_dec, if_neg (by simp)]
    by_cases hs : tE p y ≤ tB p kB
    · rw [if_pos hs]
      simp only [cond_true]
      rw [cond_dec]
      by_cases he : tB p y = tE p y
      · rw [if_pos he]
      · rw [if_neg he]
        have hrB := tB_range h kB
        have hk1 : kB ≤ y + 1 := by
          by_cases hc : kB ≤ y + 1
          · exact hc
          · have := (yS_mono (x := y) (y := kB) (by omega)).1
            omega
        have hk2 : y - 1 ≤ kB := by
          by_cases hc : y - 1 ≤ kB
          · exact hc
          · have := (yS_mono (x := kB) (y := y) (by omega)).1
            omega
        rw [fb_some h h1 h2 y (tE p y) _ hy kB ⟨by unfold inY; omega, by omega⟩ (kB - (y - 2)).toNat (y - 2) (by omega) (by omega) (by omega)]
        rfl
    · rw [if_neg hs]
      simp only [cond_false]
      rw [fb_none h h1 h2 y (tE p y) _ hy 5 (y - 2) (by omega) (by omega) (fun k' _ _ hq => hs (by
        have hlt : tE p y < tB p (k' + 1) := by rw [← hq.2]; exact rise (tB_next h) (by omega)
        have := rise_uniq (tB_next h) b1 b2 (show tB p k' ≤ tE p y by omega) hlt
        rw [this]
        omega))]
      simp
  · rw [ftAt_bad h.ok h1 h2 ht hd]
    simp only [Option.bind_some]
    rw [cond_dec, if_pos (by simp)]
theorem lawFooterBegins (p : Pln) (y : Int) : F_lawFooterBegins (p, y) = some true := by
  rw [e_lawFooterBegins, law18alive]
  simp only [Option.bind_some, Bool.not_true, cond_false]
  rw [law17LongA]
  simp only [Option.bind_some]
  rw [cond_dec]
  by_cases hL : 60 < p.1.length ∨ 60 < p.2.1.length
  · rw [if_pos hL]
  · have h1 : small p.1 := by unfold small; omega
    have h2 : small p.2.1 := by unfold small; omega
    rw [if_neg hL]
    by_cases hp : pck p = 0
    · by_cases hs : p.2.1 = []
      · rw [FtTurns_one hp hs h1]
        simp only [Option.bind_some]
        rw [cond_dec, if_pos (by simp)]
        rfl
      · have h : Two p := ⟨hp, hs⟩
        rw [FtTurns h h1 h2]
        simp only [Option.bind_some]
        by_cases hy : -10001 ≤ y ∧ y ≤ 10001
        · rw [if_pos hy]
          dsimp only
          rw [cond_dec, if_neg (by simp)]
          have tl := fb_tail h h1 h2 y hy
          have hS := yS_big (y := y) (by omega)
          have hr := tB_range h y
          have ht : i64 (tB p y) := by unfold i64; omega
          by_cases hd : dated (tB p y)
          · obtain ⟨y', hy1, hy2, hy3⟩ := year_ex _ hd
            obtain ⟨kE, e1, e2⟩ := near_ex (tE_next h) (tE_range h) hy2 hy3
            have b2 : tB p y < tB p (y + 1) := rise (tB_next h) (by omega)
            rw [ftAt_two h h1 h2 ht hd (Int.le_refl _) b2 e1 e2, if_pos e1]
            rw [Option.bind_some]
            dsimp only
            rw [cond_dec, if_pos rfl]
            simp only [Bool.not_true, cond_false]
            rw [cond_dec, if_neg (by simp), cond_dec, if_neg (by simp)]
            exact tl
          · rw [ftAt_bad h.ok h1 h2 ht hd]
            simp only [Option.bind_some]
            rw [cond_dec, if_neg (by simp)]
            exact tl
        · rw [if_neg hy]
          dsimp only
          rw [cond_dec, if_pos (by simp)]
          rfl
    · rw [FtTurns_wrong hp h1 h2]
      simp only [Option.bind_some]
      rw [cond_dec, if_pos hp]
      rfl
end Go.Sm
/- A function that hands out an empty part of memory of its own, of any capacity: as an empty slice of one's own. No condition. -/
set_option linter.unusedVariables false
set_option linter.unusedSimpArgs false
namespace Go.Sm

def cutSpec (c : Cd) (F : Unit × Int → Option (List (τ c))) : SpecT := fun args H => match args, H with
  | [.nils, .int .i64 n], [] => .bnd (F ((), n)) fun l => .ite (decide (0 < l.length)) (.ret (.slc 0 0, [.arr false 0 c []])) .no
  | _, _ => .no
theorem cut_sound {P : Program} {f : FuncId} {c : Cd} {F : Unit × Int → Option (List (τ c))} (h : SoundT P f (specF (codP [.nl, pI]) 1 (codP [.cut c]) F)) : SoundT P f (cutSpec c F) := by
  intro args H r H' hr
  replace hr : (cutSpec c F args H).run = some (r, H') := hr
  unfold cutSpec at hr
  split at hr
  · rename_i n
    obtain ⟨l, hF, hr⟩ := run_bnd hr
    rcases run_ite hr with ⟨hl, hr⟩ | ⟨_, hr⟩
    · have hl := of_decide_eq_true hl
      obtain ⟨rfl, rfl⟩ := Prod.mk.inj (run_ret hr)
      have hS := h [.nils, .int .i64 n] [] (.sub 0 0 (sizeC c) 0 0) [.arr false 0 c l] (by
        show (specF (codP [.nl, pI]) 1 (codP [.cut c]) F [.nils, .int .i64 n] []).run = _
        unfold specF
        rw [show (codP [.nl, pI]).dec [.nils, .int .i64 n] [] = some ((), n) from rfl]
        dsimp only
        rw [hF]
        rfl)
      refine ⟨hS.there, fun M e w vs hr hc => (hS.calls M e w vs hr hc).mono fun en w' ⟨cv, M', e', he, hT, hv⟩ => ?_⟩
      have hr' := hT.hr
      have hN : e'.N = 1 := hr'.N
      have hb := hr'.blk 0 _ rfl
      obtain ⟨h1, h2, h3, h4⟩ := hb
      refine ⟨cv, M', { e' with cnt := fun b => if b = 0 then 0 else e'.cnt b }, he, ?_, ?_⟩
      · have hfoot : ∀ i, foot { e' with cnt := fun b => if b = 0 then 0 else e'.cnt b } [.arr false 0 c []] i ↔ foot e' [.arr false 0 c l] i := by
          intro i
          constructor
          · rintro ⟨b, x, hx, hi⟩
            cases b with
            | zero => obtain rfl := Option.some.inj hx; exact ⟨0, _, rfl, hi⟩
            | succ b => simp at hx
          · rintro ⟨b, x, hx, hi⟩
            cases b with
            | zero => obtain rfl := Option.some.inj hx; exact ⟨0, _, rfl, hi⟩
            | succ b => simp at hx
        have he0 : e.N = 0 := hr.N
        exact {
          mle := hT.mle
          rle := ⟨hT.rle.N, fun b hb => by omega, fun b hb => by omega, fun b hb => by omega, fun b hb => by omega⟩
          hr := {
            N := hr'.N
            mem := hr'.mem
            blk := fun b x hx => by
              cases b with
              | zero =>
                obtain rfl := Option.some.inj hx
                refine ⟨h1, rfl, h3, ?_⟩
                show match e'.g 0 with | none => _ | some (gg, cc) => _
                cases hg : e'.g 0 with
                | none => rfl
                | some p =>
                  obtain ⟨gg, cc⟩ := p
                  rw [hg] at h4
                  obtain ⟨_, arr, ty, fz, q1, q2, q3, q4, q5⟩ := h4
                  exact ⟨Nat.zero_le _, arr, ty, fz, q1, q2, q3, fun i j y z hy hz => by simp at hy, q5⟩
              | succ b => simp at hx
            inj := fun b b' x x' i hx hx' _ _ => by
              cases b with
              | zero =>
                cases b' with
                | zero => rfl
                | succ b' => simp at hx'
              | succ b => simp at hx
            glob := hr'.glob
            kind := fun b x hx => by
              cases b with
              | zero => obtain rfl := Option.some.inj hx; exact hr'.kind 0 (.arr false 0 c l) rfl
              | succ b => simp at hx }
          os := hT.os
          tape := hT.tape
          output := hT.output
          size := hT.size
          same := hT.same
          ids := fun i hi => hT.ids i ((hfoot i).1 hi)
          fresh := hT.fresh }
      · cases hv with
        | @sub _ _ _ _ _ _ a m cap hbN ha hvv hh =>
          obtain ⟨rfl, _, _, hgg⟩ := hh h1.symm
          refine .slc hbN ha hvv fun _ => ⟨rfl, ?_⟩
          show match e'.g 0 with | none => _ | some (gg, cc) => _
          cases hg : e'.g 0 with
          | none =>
            rw [hg] at h4
            have h4 : l = [] := h4
            subst h4
            simp at hl
          | some p =>
            obtain ⟨gg, cc⟩ := p
            rw [hg] at h4
            obtain ⟨q0, _⟩ := h4
            obtain ⟨k1, k2⟩ := hgg gg cc hg
            have := k2 (by omega)
            rw [Nat.zero_mul] at this
            exact ⟨this, by omega⟩
    · exact (run_no hr).elim
  · exact (run_no hr).elim
end Go.Sm
/- The turn behind a second; the law FooterSteps. No condition. -/
set_option linter.unusedVariables false
namespace Go.Sm
open Go.Proofs
/-! ### slices.Grow[[]int64,int64] -/
noncomputable abbrev ct_slGrow : List (FuncId × Bool × SpecT) := []
theorem cs_slGrow : AllSound Tryd.prog ct_slGrow := trivial
noncomputable def F_slGrow (x : (Unit × Int)) : Option ((List Int)) := (evalF Tryd.prog (lookT ct_slGrow) (keepT []) (loopsT []) false false Tryd.f118 (codP [.nl, pI]) 1 (codP [(.cut cI)]) x).run
noncomputable abbrev s_slGrow : SpecT := specF (codP [.nl, pI]) 1 (codP [(.cut cI)]) F_slGrow
theorem so_slGrow : SoundT Tryd.prog 118 s_slGrow := soundG (P := Tryd.prog) mixed (t := ct_slGrow) cs_slGrow (f := 118) (fn := Tryd.f118) Tryd.func118 (by kernel_rfl) (by kernel_rfl) (by kernel_rfl) (ls := []) (by kernel_rfl) (kp := keepT []) (lps := loopsT []) (bump := false) (ice := false) (A := (codP [.nl, pI])) (n := 1) (R := (codP [(.cut cI)])) fun _ => lps_nil

theorem e_slGrow (n : Int) : F_slGrow ((), n) = (
  bif decide (n < (0 : Int)) then none
  else
    bif decide ((0 : Int) < IntKind.i64.wrap (n - (0 : Int))) then
      bif decide ((0 : Int) < IntKind.i64.wrap (n - (0 : Int)) ∧ (8 : Int) * IntKind.i64.wrap (n - (0 : Int)) ≤ (140737488355328 : Int) ∧ IntKind.i64.wrap (n - (0 : Int)) ≤ (140737488355328 : Int)) then
        bif decide ((0 : Int) ≤ (0 : Int) ∧ (0 : Int) ≤ (0 : Int) ∧ (0 : Int) ≤ (↑(List.replicate (IntKind.i64.wrap (n - (0 : Int))).toNat (0 : Int)).length : Int)) then
          some (List.replicate (IntKind.i64.wrap (n - (0 : Int))).toNat (0 : Int))
        else none
      else none
    else none) := by kernel_rfl


noncomputable abbrev s_Grow0 : SpecT := cutSpec cI F_slGrow
theorem so_Grow0 : SoundT Tryd.prog 118 s_Grow0 := cut_sound so_slGrow

/-! ### slices.Concat[[]int64,int64] -/
noncomputable abbrev ct_slConcat : List (FuncId × Bool × SpecT) := [(118, false, s_Grow0)]
theorem cs_slConcat : AllSound Tryd.prog ct_slConcat := ⟨so_Grow0, trivial⟩
-- loop 0 (key 3) exit 0: [0, 3, 9, 10, 11]
-- loop 0 (key 3) exit 3: [0, 3]
-- loop 1 (key 11) exit 0: [6, 25, 26, 27]
-- loop 1 (key 11) exit 5: [6]
abbrev kp_slConcat : Keep := keepT [(3, 0, [(0, none), (3, none), (9, none), (10, none), (11, none)]), (3, 3, [(0, none), (3, none)]), (11, 0, [(6, some cI), (25, none), (26, none), (27, none)]), (11, 5, [(6, some cI)])]
noncomputable abbrev b_slConcat_0 : Code := loopAt Tryd.f85 0
noncomputable abbrev b_slConcat_1 : Code := loopAt Tryd.f85 1
noncomputable def sp_slConcat_1 (x : ((List Int) × (List (List Int)) × Int × Int)) : Option (((List Int) × (List (List Int)) × Int × Int) ⊕ ((List Int))) := (stepL Tryd.prog (lookT ct_slConcat) kp_slConcat (loopsT []) 0 false b_slConcat_1 (codP [(.own cI), (.pure (.lst (.lst cI))), pI, pI]) (exO (.ext 2) (codP [(.own cI)])) x).run
noncomputable def w_slConcat_1 : ((List Int) × (List (List Int)) × Int × Int) → Option ((List Int)) := whileO sp_slConcat_1
theorem ew_slConcat_1 (x : ((List Int) × (List (List Int)) × Int × Int)) : w_slConcat_1 x = (sp_slConcat_1 x).bind (Sum.elim w_slConcat_1 some) := whileO_eq _ _
noncomputable abbrev l_slConcat_1 : LT := ltF (codP [(.own cI), (.pure (.lst (.lst cI))), pI, pI]) (exO (.ext 2) (codP [(.own cI)])) w_slConcat_1
theorem lo_slConcat_1 : LoopOk Tryd.prog Tryd.f85.ntmps kp_slConcat 0 false b_slConcat_1 l_slConcat_1 := loopG mixed cs_slConcat (lps := loopsT []) (by kernel_rfl) (ls := []) (by kernel_rfl) lps_nil
noncomputable def sp_slConcat_0 (x : ((List (List Int)) × Int × (List (List Int)) × Int × Int)) : Option (((List (List Int)) × Int × (List (List Int)) × Int × Int) ⊕ ((List (List Int)) × Int)) := (stepL Tryd.prog (lookT ct_slConcat) kp_slConcat (loopsT []) 0 false b_slConcat_0 (codP [(.pure (.lst (.lst cI))), pI, (.pure (.lst (.lst cI))), pI, pI]) (exO (.ext 0) (codP [(.pure (.lst (.lst cI))), pI])) x).run
noncomputable def w_slConcat_0 : ((List (List Int)) × Int × (List (List Int)) × Int × Int) → Option ((List (List Int)) × Int) := whileO sp_slConcat_0
theorem ew_slConcat_0 (x : ((List (List Int)) × Int × (List (List Int)) × Int × Int)) : w_slConcat_0 x = (sp_slConcat_0 x).bind (Sum.elim w_slConcat_0 some) := whileO_eq _ _
noncomputable abbrev l_slConcat_0 : LT := ltF (codP [(.pure (.lst (.lst cI))), pI, (.pure (.lst (.lst cI))), pI, pI]) (exO (.ext 0) (codP [(.pure (.lst (.lst cI))), pI])) w_slConcat_0
theorem lo_slConcat_0 : LoopOk Tryd.prog Tryd.f85.ntmps kp_slConcat 0 false b_slConcat_0 l_slConcat_0 := loopG mixed cs_slConcat (lps := loopsT []) (by kernel_rfl) (ls := []) (by kernel_rfl) lps_nil
noncomputable def F_slConcat (x : ((List (List Int)))) : Option ((List Int)) := (evalF Tryd.prog (lookT ct_slConcat) (kp_slConcat) (loopsT [(3, l_slConcat_0), (11, l_slConcat_1)]) false true Tryd.f85 (codP [(.pure (.lst (.lst cI)))]) 1 (codP [pL]) x).run
noncomputable abbrev s_slConcat : SpecT := specF (codP [(.pure (.lst (.lst cI)))]) 1 (codP [pL]) F_slConcat
theorem so_slConcat : SoundT Tryd.prog 85 s_slConcat := soundG (P := Tryd.prog) mixed (t := ct_slConcat) cs_slConcat (f := 85) (fn := Tryd.f85) Tryd.func85 (by kernel_rfl) (by kernel_rfl) (by kernel_rfl) (ls := [b_slConcat_0, b_slConcat_1]) (by kernel_rfl) (kp := kp_slConcat) (lps := loopsT [(3, l_slConcat_0), (11, l_slConcat_1)]) (bump := false) (ice := true) (A := (codP [(.pure (.lst (.lst cI)))])) (n := 1) (R := (codP [pL])) fun _ => (lps_cons l_slConcat_0 (by kernel_rfl) lo_slConcat_0 (lps_cons l_slConcat_1 (by kernel_rfl) lo_slConcat_1 lps_nil))

theorem es_slConcat_0 (l : List (List Int)) (n : Int) (k : List (List Int)) (a b : Int) : sp_slConcat_0 (l, n, k, a, b) = (
  bif decide (b < a) then
    (getI k b).bind fun x1 =>
      bif decide (IntKind.i64.wrap (n + (↑x1.length : Int)) < (0 : Int)) then none else some (Sum.inl (l, IntKind.i64.wrap (n + (↑x1.length : Int)), k, a, IntKind.i64.wrap (b + (1 : Int))))
  else some (Sum.inr (l, n))) := by kernel_rfl

theorem es_slConcat_1 (o : List Int) (k : List (List Int)) (a b : Int) : sp_slConcat_1 (o, k, a, b) = (
  bif decide (b < a) then (getI k b).bind fun x1 => bif roomB o.length x1.length (8 : Nat) then some (Sum.inl (o ++ x1, k, a, IntKind.i64.wrap (b + (1 : Int)))) else none else some (Sum.inr o)) := by kernel_rfl

theorem e_slConcat (l : List (List Int)) : F_slConcat l = (
  (w_slConcat_0 (l, (0 : Int), l, (↑l.length : Int), (0 : Int))).bind fun x1 =>
    (F_slGrow ((), x1.snd)).bind fun x2 => bif decide ((0 : Nat) < x2.length) then (w_slConcat_1 ([], x1.fst, (↑(List.length x1.fst) : Int), (0 : Int))).bind fun x3 => some x3 else none) := by kernel_rfl


/-! ### horologe/footer.Next -/
noncomputable abbrev ct_ftNext : List (FuncId × Bool × SpecT) := [(28, false, s_pxCheck), (82, false, s_ftYear), (33, false, s_pxChanges), (84, false, s_ftAbout), (85, true, s_slConcat)]
theorem cs_ftNext : AllSound Tryd.prog ct_ftNext := ⟨so_pxCheck, so_ftYear, so_pxChanges, so_ftAbout, so_slConcat, trivial⟩
-- loop 0 (key 11) exit 0: [1, 4, 5, 44, 45, 46]
-- loop 0 (key 11) exit 3: [4, 5]
abbrev kp_ftNext : Keep := keepT [(11, 0, [(1, none), (4, none), (5, none), (44, none), (45, none), (46, none)]), (11, 3, [(4, none), (5, none)])]
noncomputable abbrev b_ftNext_0 : Code := loopAt Tryd.f40 0
noncomputable def sp_ftNext_0 (x : (Int × Int × Bool × (List Int) × Int × Int)) : Option ((Int × Int × Bool × (List Int) × Int × Int) ⊕ (Int × Bool)) := (stepL Tryd.prog (lookT ct_ftNext) kp_ftNext (loopsT []) 0 false b_ftNext_0 (codP [pI, pI, pB, pL, pI, pI]) (exO (.ext 0) (codP [pI, pB])) x).run
noncomputable def w_ftNext_0 : (Int × Int × Bool × (List Int) × Int × Int) → Option (Int × Bool) := whileO sp_ftNext_0
theorem ew_ftNext_0 (x : (Int × Int × Bool × (List Int) × Int × Int)) : w_ftNext_0 x = (sp_ftNext_0 x).bind (Sum.elim w_ftNext_0 some) := whileO_eq _ _
noncomputable abbrev l_ftNext_0 : LT := ltF (codP [pI, pI, pB, pL, pI, pI]) (exO (.ext 0) (codP [pI, pB])) w_ftNext_0
theorem lo_ftNext_0 : LoopOk Tryd.prog Tryd.f40.ntmps kp_ftNext 0 false b_ftNext_0 l_ftNext_0 := loopG mixed cs_ftNext (lps := loopsT []) (by kernel_rfl) (ls := []) (by kernel_rfl) lps_nil
noncomputable def F_ftNext (x : ((List UInt8 × List UInt8 × Int × Int × (Int × Int × Int × Int × Int) × (Int × Int × Int × Int × Int)) × Int)) : Option (Int × Bool × Int) := (evalF Tryd.prog (lookT ct_ftNext) (kp_ftNext) (loopsT [(11, l_ftNext_0)]) false false Tryd.f40 (codP [pPlan, pI]) 3 (codP [pI, pB, pE]) x).run
noncomputable abbrev s_ftNext : SpecT := specF (codP [pPlan, pI]) 3 (codP [pI, pB, pE]) F_ftNext
theorem so_ftNext : SoundT Tryd.prog 40 s_ftNext := soundG (P := Tryd.prog) mixed (t := ct_ftNext) cs_ftNext (f := 40) (fn := Tryd.f40) Tryd.func40 (by kernel_rfl) (by kernel_rfl) (by kernel_rfl) (ls := [b_ftNext_0]) (by kernel_rfl) (kp := kp_ftNext) (lps := loopsT [(11, l_ftNext_0)]) (bump := false) (ice := false) (A := (codP [pPlan, pI])) (n := 3) (R := (codP [pI, pB, pE])) fun _ => (lps_cons l_ftNext_0 (by kernel_rfl) lo_ftNext_0 lps_nil)

theorem es_ftNext_0 (t u : Int) (b : Bool) (l : List Int) (n i : Int) : sp_ftNext_0 (t, u, b, l, n, i) = (
  bif decide (i < n) then
    (getI l i).bind fun x1 =>
      bif decide (t < x1) then
        bif !b then some (Sum.inl (t, x1, true, l, n, IntKind.i64.wrap (i + (1 : Int))))
        else bif decide (x1 < u) then some (Sum.inl (t, x1, true, l, n, IntKind.i64.wrap (i + (1 : Int)))) else some (Sum.inl (t, u, b, l, n, IntKind.i64.wrap (i + (1 : Int))))
      else some (Sum.inl (t, u, b, l, n, IntKind.i64.wrap (i + (1 : Int))))
  else some (Sum.inr (u, b))) := by kernel_rfl

theorem e_ftNext (p : List UInt8 × List UInt8 × Int × Int × (Int × Int × Int × Int × Int) × (Int × Int × Int × Int × Int)) (t : Int) : F_ftNext (p, t) = (
  (F_pxCheck p).bind fun x1 =>
    bif decide (x1 ≠ (0 : Int)) then some ((0 : Int), false, x1)
    else
      (F_ftYear t).bind fun x2 =>
        bif decide (x2.snd ≠ (0 : Int)) then some ((0 : Int), false, x2.snd)
        else
          (F_pxChanges p).bind fun x3 =>
            bif !x3 then some ((0 : Int), false, x2.snd)
            else
              (F_ftAbout (p, x2.fst)).bind fun x4 =>
                bif decide (x4.snd.snd ≠ (0 : Int)) then some ((0 : Int), false, x4.snd.snd)
                else (F_slConcat [x4.fst, x4.snd.fst]).bind fun x5 => (w_ftNext_0 (t, (0 : Int), false, x5, (↑x5.length : Int), (0 : Int))).bind fun x6 => some (x6.fst, x6.snd, (0 : Int))) := by kernel_rfl


/-! ### horologe/horologelaw18.FooterSteps -/
noncomputable abbrev ct_lawFooterSteps : List (FuncId × Bool × SpecT) := [(37, false, s_law18alive), (27, false, s_law17LongA), (39, false, s_ftAt), (40, false, s_ftNext), (33, false, s_pxChanges)]
theorem cs_lawFooterSteps : AllSound Tryd.prog ct_lawFooterSteps := ⟨so_law18alive, so_law17LongA, so_ftAt, so_ftNext, so_pxChanges, trivial⟩
noncomputable def F_lawFooterSteps (x : ((List UInt8 × List UInt8 × Int × Int × (Int × Int × Int × Int × Int) × (Int × Int × Int × Int × Int)) × Int)) : Option (Bool) := (evalF Tryd.prog (lookT ct_lawFooterSteps) (keepT []) (loopsT []) false false Tryd.f9 (codP [pPlan, pI]) 1 (codP [pB]) x).run
noncomputable abbrev s_lawFooterSteps : SpecT := specF (codP [pPlan, pI]) 1 (codP [pB]) F_lawFooterSteps
theorem so_lawFooterSteps : SoundT Tryd.prog 9 s_lawFooterSteps := soundG (P := Tryd.prog) mixed (t := ct_lawFooterSteps) cs_lawFooterSteps (f := 9) (fn := Tryd.f9) Tryd.func9 (by kernel_rfl) (by kernel_rfl) (by kernel_rfl) (ls := []) (by kernel_rfl) (kp := keepT []) (lps := loopsT []) (bump := false) (ice := false) (A := (codP [pPlan, pI])) (n := 1) (R := (codP [pB])) fun _ => lps_nil

theorem e_lawFooterSteps (p : List UInt8 × List UInt8 × Int × Int × (Int × Int × Int × Int × Int) × (Int × Int × Int × Int × Int)) (t : Int) : F_lawFooterSteps (p, t) = (
  (F_law18alive ()).bind fun x1 =>
    bif !x1 then some false
    else
      (F_law17LongA p).bind fun x2 =>
        bif x2 then some true
        else
          bif decide ((1125899906842624 : Int) < t) then some true
          else
            bif decide (t < (-1125899906842624 : Int)) then some true
            else
              (F_ftAt (p, t)).bind fun x3 =>
                bif decide (x3.snd ≠ (0 : Int)) then some (decide (x3.fst.fst = (0 : Int)) && (x3.fst.snd.fst == false && (decide (x3.fst.snd.snd = []) && true)))
                else
                  (F_ftNext (p, t)).bind fun x4 =>
                    bif decide (x4.snd.snd ≠ (0 : Int)) then some false
                    else
                      (F_pxChanges p).bind fun x5 =>
                        bif !x4.snd.fst == x5 then some false
                        else
                          bif x4.snd.fst then
                            bif decide (x4.fst ≤ t) then some false
                            else
                              (F_ftAt (p, IntKind.i64.wrap (t + (1 : Int)))).bind fun x6 =>
                                bif decide (x6.snd = (0 : Int)) then
                                  bif !(decide (x3.fst.fst = x6.fst.fst) && (x3.fst.snd.fst == x6.fst.snd.fst && (decide (x3.fst.snd.snd = x6.fst.snd.snd) && true))) then
                                    bif !x4.snd.fst then some false
                                    else
                                      bif decide (x4.fst ≠ IntKind.i64.wrap (t + (1 : Int))) then some false
                                      else
                                        bif !x4.snd.fst then some true
                                        else
                                          (F_ftAt (p, IntKind.i64.wrap (x4.fst - (1 : Int)))).bind fun x7 =>
                                            bif decide (x7.snd ≠ (0 : Int)) then some true
                                            else some (decide (x7.fst.fst = x3.fst.fst) && (x7.fst.snd.fst == x3.fst.snd.fst && (decide (x7.fst.snd.snd = x3.fst.snd.snd) && true)))
                                  else
                                    bif !x4.snd.fst then some true
                                    else
                                      (F_ftAt (p, IntKind.i64.wrap (x4.fst - (1 : Int)))).bind fun x7 =>
                                        bif decide (x7.snd ≠ (0 : Int)) then some true
                                        else some (decide (x7.fst.fst = x3.fst.fst) && (x7.fst.snd.fst == x3.fst.snd.fst && (decide (x7.fst.snd.snd = x3.fst.snd.snd) && true)))
                                else
                                  bif !x4.snd.fst then some true
                                  else
                                    (F_ftAt (p, IntKind.i64.wrap (x4.fst - (1 : Int)))).bind fun x7 =>
                                      bif decide (x7.snd ≠ (0 : Int)) then some true
                                      else some (decide (x7.fst.fst = x3.fst.fst) && (x7.fst.snd.fst == x3.fst.snd.fst && (decide (x7.fst.snd.snd = x3.fst.snd.snd) && true)))
                          else
                            (F_ftAt (p, IntKind.i64.wrap (t + (1 : Int)))).bind fun x6 =>
                              bif decide (x6.snd = (0 : Int)) then
                                bif !(decide (x3.fst.fst = x6.fst.fst) && (x3.fst.snd.fst == x6.fst.snd.fst && (decide (x3.fst.snd.snd = x6.fst.snd.snd) && true))) then
                                  bif !x4.snd.fst then some false
                                  else
                                    bif decide (x4.fst ≠ IntKind.i64.wrap (t + (1 : Int))) then some false
                                    else
                                      bif !x4.snd.fst then some true
                                      else
                                        (F_ftAt (p, IntKind.i64.wrap (x4.fst - (1 : Int)))).bind fun x7 =>
                                          bif decide (x7.snd ≠ (0 : Int)) then some true
                                          else some (decide (x7.fst.fst = x3.fst.fst) && (x7.fst.snd.fst == x3.fst.snd.fst && (decide (x7.fst.snd.snd = x3.fst.snd.snd) && true)))
                                else
                                  bif !x4.snd.fst then some true
                                  else
                                    (F_ftAt (p, IntKind.i64.wrap (x4.fst - (1 : Int)))).bind fun x7 =>
                                      bif decide (x7.snd ≠ (0 : Int)) then some true
                                      else some (decide (x7.fst.fst = x3.fst.fst) && (x7.fst.snd.fst == x3.fst.snd.fst && (decide (x7.fst.snd.snd = x3.fst.snd.snd) && true)))
                              else
                                bif !x4.snd.fst then some true
                                else
                                  (F_ftAt (p, IntKind.i64.wrap (x4.fst - (1 : Int)))).bind fun x7 =>
                                    bif decide (x7.snd ≠ (0 : Int)) then some true
                                    else some (decide (x7.fst.fst = x3.fst.fst) && (x7.fst.snd.fst == x3.fst.snd.fst && (decide (x7.fst.snd.snd = x3.fst.snd.snd) && true)))) := by kernel_rfl

end Go.Sm
/- Plain Lean: the turn behind a second (program); the law FooterSteps. -/
set_option linter.unusedVariables false
set_option linter.unusedSimpArgs false
namespace Go.Sm
open Go.Proofs

theorem slGrow (n : Nat) (h1 : 0 < n) (h2 : n ≤ 100000) : F_slGrow ((), (n : Int)) = some (List.replicate n 0) := by
  rw [e_slGrow, cond_dec, if_neg (by omega), Int.sub_zero, wrap_i64 (by omega) (by omega), cond_dec, if_pos (by omega), cond_dec, if_pos (by omega), cond_dec, if_pos (by simp), Int.toNat_natCast]
theorem slConcat (a b : List Int) (h1 : 0 < a.length) (h2 : a.length ≤ 1000) (h3 : b.length ≤ 1000) : F_slConcat [a, b] = some (a ++ b) := by
  have g0 : getI [a, b] (0 : Int) = some a := getI_nat [a, b] 0
  have g1 : getI [a, b] (1 : Int) = some b := getI_nat [a, b] 1
  have r8 : ∀ x y : List Int, x.length ≤ 1000 → y.length ≤ 1000 → roomB x.length y.length 8 = true := fun x y hx hy => by unfold roomB; simp; omega
  have hl : (([a, b] : List (List Int)).length : Int) = 2 := rfl
  have l0 : w_slConcat_0 ([a, b], (0 : Int), [a, b], (2 : Int), (0 : Int)) = some ([a, b], ((a.length + b.length : Nat) : Int)) := by
    rw [ew_slConcat_0, es_slConcat_0, cond_dec, if_pos (by omega), g0]
    simp only [Option.bind_some]
    rw [wrap_i64 (x := 0 + (a.length : Int)) (by omega) (by omega), cond_dec, if_neg (by omega), show IntKind.i64.wrap ((0 : Int) + 1) = 1 by decide]
    simp only [Option.bind_some, Sum.elim_inl]
    rw [ew_slConcat_0, es_slConcat_0, cond_dec, if_pos (by omega), g1]
    simp only [Option.bind_some]
    rw [wrap_i64 (x := 0 + (a.length : Int) + (b.length : Int)) (by omega) (by omega), cond_dec, if_neg (by omega), show IntKind.i64.wrap ((1 : Int) + 1) = 2 by decide]
    simp only [Option.bind_some, Sum.elim_inl]
    rw [ew_slConcat_0, es_slConcat_0, cond_dec, if_neg (by omega)]
    simp only [Option.bind_some, Sum.elim_inr]
    congr 2
    omega
  have l1 : w_slConcat_1 ([], [a, b], (2 : Int), (0 : Int)) = some (a ++ b) := by
    rw [ew_slConcat_1, es_slConcat_1, cond_dec, if_pos (by omega), g0]
    simp only [Option.bind_some]
    rw [r8 [] a (by simp) h2, show IntKind.i64.wrap ((0 : Int) + 1) = 1 by decide]
    simp only [cond_true, Option.bind_some, Sum.elim_inl]
    rw [ew_slConcat_1, es_slConcat_1, cond_dec, if_pos (by omega), g1]
    simp only [Option.bind_some]
    rw [r8 _ b (by simpa using h2) h3, show IntKind.i64.wrap ((1 : Int) + 1) = 2 by decide]
    simp only [cond_true, Option.bind_some, Sum.elim_inl]
    rw [ew_slConcat_1, es_slConcat_1, cond_dec, if_neg (by omega)]
    rfl
  rw [e_slConcat, hl, l0]
  simp only [Option.bind_some]
  rw [slGrow _ (by omega) (by omega)]
  simp only [Option.bind_some]
  rw [cond_dec, if_pos (by simp; omega), hl, l1]
  rfl
/-- The least number behind another one, so far. -/
def nxt (t : Int) (a : Int × Bool) (x : Int) : Int × Bool := if t < x ∧ (a.2 = false ∨ x < a.1) then (x, true) else a
theorem next_loop (t : Int) (l : List Int) (hl : l.length ≤ 1000) : w_ftNext_0 (t, (0 : Int), false, l, (l.length : Int), (0 : Int)) = some (l.foldl (nxt t) (0, false)) := by
  have h := fold_loop (step := sp_ftNext_0) (fun i (a : Int × Bool) => (t, a.1, a.2, l, (l.length : Int), (i : Int))) (fun a => a) l (nxt t) (fun _ _ => True)
    (fun i hi a _ => by
      refine ⟨trivial, ?_⟩
      obtain ⟨u, b⟩ := a
      rw [es_ftNext_0, cond_dec, if_pos (by omega), getI_at hi]
      simp only [Option.bind_some]
      rw [wrap_succ (by omega), cond_dec]
      unfold nxt
      by_cases h1 : t < l[i]
      · rw [if_pos h1]
        cases b with
        | false =>
          simp only [Bool.not_false, cond_true]
          rw [if_pos ⟨h1, by simp⟩]
        | true =>
          simp only [Bool.not_true, cond_false]
          rw [cond_dec]
          by_cases h2 : l[i] < u
          · rw [if_pos h2, if_pos ⟨h1, .inr h2⟩]
          · rw [if_neg h2, if_neg (by simp [h2])]
      · rw [if_neg h1, if_neg (by simp [h1])])
    (fun a _ => by
      obtain ⟨u, b⟩ := a
      rw [es_ftNext_0, cond_dec, if_neg (by omega)]) 0 (0, false) (by omega) trivial
  rw [List.drop_zero] at h
  exact h
theorem nxt_spec (t : Int) : ∀ (l : List Int) (a : Int × Bool), (a.2 = true → t < a.1) →
    ((l.foldl (nxt t) a).2 = true → t < (l.foldl (nxt t) a).1 ∧ ((l.foldl (nxt t) a).1 ∈ l ∨ (a.2 = true ∧ (l.foldl (nxt t) a).1 = a.1)) ∧ (∀ x ∈ l, t < x → (l.foldl (nxt t) a).1 ≤ x) ∧ (a.2 = true → (l.foldl (nxt t) a).1 ≤ a.1)) ∧
    ((l.foldl (nxt t) a).2 = false → a.2 = false ∧ ∀ x ∈ l, ¬ t < x)
  | [], a, ha => by
    rw [List.foldl_nil]
    exact ⟨fun h => ⟨ha h, .inr ⟨h, rfl⟩, (fun x hx => absurd hx (by simp)), fun _ => Int.le_refl _⟩, fun h => ⟨h, (fun x hx => absurd hx (by simp))⟩⟩
  | y :: l, a, ha => by
    rw [List.foldl_cons]
    by_cases hc : t < y ∧ (a.2 = false ∨ y < a.1)
    · have hn : nxt t a y = (y, true) := by unfold nxt; rw [if_pos hc]
      rw [hn]
      obtain ⟨i1, i2⟩ := nxt_spec t l (y, true) (fun _ => hc.1)
      refine ⟨fun h => ?_, fun h => ?_⟩
      · obtain ⟨q1, q2, q3, q4⟩ := i1 h
        refine ⟨q1, ?_, fun x hx hx2 => ?_, fun h2 => ?_⟩
        · rcases q2 with q2 | ⟨_, q2⟩
          · exact .inl (List.mem_cons_of_mem _ q2)
          · left; rw [q2]; exact List.mem_cons_self ..
        · rcases List.mem_cons.1 hx with rfl | hx
          · exact q4 rfl
          · exact q3 x hx hx2
        · have := q4 rfl
          rcases hc.2 with h3 | h3
          · rw [h3] at h2; cases h2
          · simp only at this; omega
      · have := (i2 h).1
        cases this
    · have hn : nxt t a y = a := by unfold nxt; rw [if_neg hc]
      rw [hn]
      obtain ⟨i1, i2⟩ := nxt_spec t l a ha
      refine ⟨fun h => ?_, fun h => ?_⟩
      · obtain ⟨q1, q2, q3, q4⟩ := i1 h
        refine ⟨q1, ?_, fun x hx hx2 => ?_, q4⟩
        · rcases q2 with q2 | q2
          · exact .inl (List.mem_cons_of_mem _ q2)
          · exact .inr q2
        · rcases List.mem_cons.1 hx with rfl | hx
          · cases hb : a.2 with
            | false => exact absurd ⟨hx2, .inl hb⟩ hc
            | true =>
              have := q4 hb
              have h3 : ¬ x < a.1 := fun h3 => hc ⟨hx2, .inr h3⟩
              omega
          · exact q3 x hx hx2
      · obtain ⟨q1, q2⟩ := i2 h
        refine ⟨q1, fun x hx hx2 => ?_⟩
        rcases List.mem_cons.1 hx with rfl | hx
        · exact hc ⟨hx2, .inl q1⟩
        · exact q2 x hx hx2
/-- The first turn behind a second. -/
def nX (p : Pln) (kB kE : Int) : Int := min (tB p (kB + 1)) (tE p (kE + 1))
theorem five_next {f : Int → Int} (hf : ∀ y, f y + 330 * 86400 ≤ f (y + 1)) {y k t : Int} (h1 : f k ≤ t) (h2 : t < f (k + 1)) (hk1 : y - 2 ≤ k) (hk2 : k ≤ y + 1) :
    f (k + 1) ∈ [f (y - 2), f (y - 1), f y, f (y + 1), f (y + 2)] ∧ ∀ x ∈ [f (y - 2), f (y - 1), f y, f (y + 1), f (y + 2)], t < x → f (k + 1) ≤ x := by
  constructor
  · rcases (by omega : k = y - 2 ∨ k = y - 1 ∨ k = y ∨ k = y + 1) with rfl | rfl | rfl | rfl
    · rw [show y - 2 + 1 = y - 1 by omega]; simp
    · rw [show y - 1 + 1 = y by omega]; simp
    · simp
    · rw [show y + 1 + 1 = y + 2 by omega]; simp
  · have key : ∀ j, t < f j → f (k + 1) ≤ f j := by
      intro j hj
      have : k < j := by
        by_cases hc : k < j
        · exact hc
        · have : f j ≤ f k := by
            by_cases he : j = k
            · rw [he]; omega
            · have := rise hf (show j < k by omega); omega
          omega
      by_cases he : j = k + 1
      · rw [he]; omega
      · have := rise hf (show k + 1 < j by omega); omega
    intro x hx ht
    simp only [List.mem_cons, List.not_mem_nil, or_false] at hx
    rcases hx with rfl | rfl | rfl | rfl | rfl <;> exact key _ ht
theorem ftNext_two {p : Pln} (h : Two p) (h1 : small p.1) (h2 : small p.2.1) {t kB kE : Int} (ht : i64 t) (hd : dated t) (b1 : tB p kB ≤ t) (b2 : t < tB p (kB + 1)) (e1 : tE p kE ≤ t) (e2 : t < tE p (kE + 1)) :
    F_ftNext (p, t) = some (nX p kB kE, true, 0) := by
  obtain ⟨y, hy, hy1, hy2⟩ := year_ex _ hd
  have hch : F_pxChanges p = some (decide (p.2.1 ≠ [])) := e_pxChanges p
  obtain ⟨n1, n2⟩ := near (tB_range h) b1 b2 hy1 hy2
  obtain ⟨n3, n4⟩ := near (tE_range h) e1 e2 hy1 hy2
  obtain ⟨m1, m2⟩ := five_next (tB_next h) b1 b2 n1 n2
  obtain ⟨m3, m4⟩ := five_next (tE_next h) e1 e2 n3 n4
  rw [e_ftNext, pxCheck p h1 h2, h.ok]
  simp only [Option.bind_some]
  rw [cond_dec, if_neg (by simp), ftYear_ok t y ht hy hy1 hy2]
  simp only [Option.bind_some]
  rw [cond_dec, if_neg (by simp), hch, decide_eq_true h.two]
  simp only [Option.bind_some, Bool.not_true, cond_false]
  rw [ftAbout h y hy]
  simp only [Option.bind_some]
  rw [cond_dec, if_neg (by simp), slConcat _ _ (by simp) (by simp) (by simp)]
  simp only [Option.bind_some]
  generalize hB : [tB p (y - 2), tB p (y - 1), tB p y, tB p (y + 1), tB p (y + 2)] = B at m1 m2 ⊢
  generalize hE : [tE p (y - 2), tE p (y - 1), tE p y, tE p (y + 1), tE p (y + 2)] = E at m3 m4 ⊢
  have lB : B.length = 5 := by rw [← hB]; rfl
  have lE : E.length = 5 := by rw [← hE]; rfl
  rw [next_loop t (B ++ E) (by simp; omega)]
  simp only [Option.bind_some]
  obtain ⟨s1, s2⟩ := nxt_spec t (B ++ E) (0, false) (fun h => by cases h)
  cases hr : ((B ++ E).foldl (nxt t) (0, false)).2 with
  | false =>
    exact absurd b2 ((s2 hr).2 _ (List.mem_append_left _ m1))
  | true =>
    obtain ⟨q1, q2, q3, _⟩ := s1 hr
    have q2 : ((B ++ E).foldl (nxt t) (0, false)).1 ∈ B ++ E := by
      rcases q2 with q2 | ⟨q2, _⟩
      · exact q2
      · cases q2
    have le1 := q3 _ (List.mem_append_left _ m1) b2
    have le2 := q3 _ (List.mem_append_right _ m3) e2
    have hx : ((B ++ E).foldl (nxt t) (0, false)).1 = nX p kB kE := by
      unfold nX
      rcases List.mem_append.1 q2 with q2 | q2
      · have := m2 _ q2 q1
        omega
      · have := m4 _ q2 q1
        omega
    rw [hx]
theorem ftNext_one {p : Pln} (h : pck p = 0) (hs : p.2.1 = []) (h1 : small p.1) {t : Int} (ht : i64 t) (hd : dated t) : F_ftNext (p, t) = some (0, false, 0) := by
  obtain ⟨y, hy, hy1, hy2⟩ := year_ex _ hd
  have hch : F_pxChanges p = some (decide (p.2.1 ≠ [])) := e_pxChanges p
  rw [e_ftNext, pxCheck p h1 (by rw [hs]; simp [small]), h]
  simp only [Option.bind_some]
  rw [cond_dec, if_neg (by simp), ftYear_ok t y ht hy hy1 hy2]
  simp only [Option.bind_some]
  rw [cond_dec, if_neg (by simp), hch, decide_eq_false (by simp [hs])]
  rfl
theorem ftNext_bad {p : Pln} (h : pck p = 0) (h1 : small p.1) (h2 : small p.2.1) {t : Int} (ht : i64 t) (hd : ¬ dated t) : F_ftNext (p, t) = some (0, false, 13) := by
  rw [e_ftNext, pxCheck p h1 h2, h]
  simp only [Option.bind_some]
  rw [cond_dec, if_neg (by simp), ftYear_bad t ht hd]
  rfl
theorem ftNext_wrong {p : Pln} (h : pck p ≠ 0) (h1 : small p.1) (h2 : small p.2.1) (t : Int) : F_ftNext (p, t) = some (0, false, pck p) := by
  rw [e_ftNext, pxCheck p h1 h2]
  simp only [Option.bind_some]
  rw [cond_dec, if_pos h]
theorem lawFooterSteps (p : Pln) (t : Int) : F_lawFooterSteps (p, t) = some true := by
  rw [e_lawFooterSteps, law18alive]
  simp only [Option.bind_some, Bool.not_true, cond_false]
  rw [law17LongA]
  simp only [Option.bind_some]
  rw [cond_dec]
  by_cases hL : 60 < p.1.length ∨ 60 < p.2.1.length
  · rw [if_pos hL]
  · have h1 : small p.1 := by unfold small; omega
    have h2 : small p.2.1 := by unfold small; omega
    rw [if_neg hL, cond_dec]
    by_cases ht1 : 1125899906842624 < t
    · rw [if_pos ht1]
    · rw [if_neg ht1, cond_dec]
      by_cases ht2 : t < -1125899906842624
      · rw [if_pos ht2]
      · have ht : i64 t := by unfold i64; omega
        have ht' : i64 (t + 1) := by unfold i64; omega
        have hch : F_pxChanges p = some (decide (p.2.1 ≠ [])) := e_pxChanges p
        rw [if_neg ht2, wrap_i64 (x := t + 1) (by omega) (by omega)]
        by_cases hp : pck p = 0
        · by_cases hd : dated t
          · by_cases hs : p.2.1 = []
            · rw [ftAt_one hp hs h1 ht hd]
              simp only [Option.bind_some]
              rw [cond_dec, if_neg (by simp), ftNext_one hp hs h1 ht hd]
              simp only [Option.bind_some]
              rw [cond_dec, if_neg (by simp), hch, decide_eq_false (by simp [hs])]
              simp only [Option.bind_some, beq_self_eq_true, Bool.not_true, cond_false]
              by_cases hd' : dated (t + 1)
              · rw [ftAt_one hp hs h1 ht' hd']
                simp
              · rw [ftAt_bad hp h1 h2 ht' hd']
                simp
            · have h : Two p := ⟨hp, hs⟩
              obtain ⟨y, hy, hy1, hy2⟩ := year_ex _ hd
              obtain ⟨kB, b1, b2⟩ := near_ex (tB_next h) (tB_range h) hy1 hy2
              obtain ⟨kE, e1, e2⟩ := near_ex (tE_next h) (tE_range h) hy1 hy2
              obtain ⟨n1, n2⟩ := near (tB_range h) b1 b2 hy1 hy2
              have hnx : t < nX p kB kE ∧ nX p kB kE ≤ tB p (kB + 1) ∧ nX p kB kE ≤ tE p (kE + 1) := by unfold nX; omega
              have hrB := tB_range h (kB + 1)
              have hS := yS_big (y := kB + 1) (by omega)
              have hn1 : i64 (nX p kB kE - 1) := by unfold i64; omega
              have keep : ∀ u, t ≤ u → u < nX p kB kE → i64 u → dated u → F_ftAt (p, u) = some (if tE p kE ≤ tB p kB then (p.2.2.2.1, true, p.2.1) else (p.2.2.1, false, p.1), 0) :=
                fun u q1 q2 q3 q4 => ftAt_two h h1 h2 q3 q4 (by omega) (by omega) (by omega) (by omega)
              have hA := keep t (Int.le_refl _) hnx.1 ht hd
              have hN := ftNext_two h h1 h2 ht hd b1 b2 e1 e2
              rw [hA]
              simp only [Option.bind_some]
              rw [cond_dec, if_neg (by simp), hN]
              simp only [Option.bind_some]
              rw [cond_dec, if_neg (by simp), hch, decide_eq_true hs]
              simp only [Option.bind_some, beq_self_eq_true, Bool.not_true, cond_false, cond_true]
              rw [cond_dec, if_neg (by omega), wrap_i64 (x := nX p kB kE - 1) (by omega) (by omega)]
              have tail : ((F_ftAt (p, nX p kB kE - 1)).bind fun x7 =>
                  bif decide (x7.snd ≠ (0 : Int)) then some true
                  else some (decide (x7.fst.fst = (if tE p kE ≤ tB p kB then ((p.2.2.2.1, true, p.2.1) : Loc) else (p.2.2.1, false, p.1)).fst) && (x7.fst.snd.fst == (if tE p kE ≤ tB p kB then ((p.2.2.2.1, true, p.2.1) : Loc) else (p.2.2.1, false, p.1)).snd.fst && (decide (x7.fst.snd.snd = (if tE p kE ≤ tB p kB then ((p.2.2.2.1, true, p.2.1) : Loc) else (p.2.2.1, false, p.1)).snd.snd) && true)))) = some true := by
                by_cases hd2 : dated (nX p kB kE - 1)
                · rw [keep _ (by omega) (by omega) hn1 hd2]
                  simp
                · rw [ftAt_bad hp h1 h2 hn1 hd2]
                  simp
              by_cases hd' : dated (t + 1)
              · by_cases he : nX p kB kE = t + 1
                · obtain ⟨y', hy', hy1', hy2'⟩ := year_ex _ hd'
                  obtain ⟨kB', b1', b2'⟩ := near_ex (tB_next h) (tB_range h) hy1' hy2'
                  obtain ⟨kE', e1', e2'⟩ := near_ex (tE_next h) (tE_range h) hy1' hy2'
                  rw [ftAt_two h h1 h2 ht' hd' b1' b2' e1' e2']
                  rw [Option.bind_some]
                  dsimp only
                  rw [cond_dec, if_pos rfl, cond_dec, if_neg (show ¬ (nX p kB kE ≠ t + 1) by omega), tail]
                  rw [Bool.cond_self]
                · rw [keep (t + 1) (by omega) (by omega) ht' hd']
                  rw [Option.bind_some]
                  dsimp only
                  rw [cond_dec, if_pos rfl, tail]
                  simp
              · rw [ftAt_bad hp h1 h2 ht' hd']
                rw [Option.bind_some]
                dsimp only
                rw [cond_dec, if_neg (by simp)]
                exact tail
          · rw [ftAt_bad hp h1 h2 ht hd]
            simp
        · rw [ftAt_wrong hp h1 h2]
          simp only [Option.bind_some]
          rw [cond_dec, if_pos hp]
          rfl
end Go.Sm
/- From a law's function that answers true to its contract. -/
set_option linter.unusedVariables false
namespace Go.Sm
theorem sim_true {P : Program} {f : FuncId} {σ : Type} {A : Codec σ} {F : σ → Option Bool} (h : SoundT P f (specF A 1 (codP [pB]) F)) {args : List AV} {x : σ} (hd : A.dec args [] = some x) (hF : F x = some true) : Sim P f args [] (.bool true) [] := by
  refine h args [] (.bool true) [] ?_
  show (specF A 1 (codP [pB]) F args []).run = _
  unfold specF
  rw [hd]
  dsimp only
  rw [hF]
  rfl
end Go.Sm
