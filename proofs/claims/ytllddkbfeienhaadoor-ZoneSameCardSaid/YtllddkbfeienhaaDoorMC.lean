/- One operation as a function; operations one behind the other. No condition. -/
import Derived.Test.YtllddkbfeienhaaDoorMB
import Derived.LoopN
set_option linter.unusedVariables false
set_option linter.unusedSimpArgs false
set_option linter.unusedSectionVars false
namespace Go.Sm

theorem bind_assoc {α β γ : Type} (d : DT α) (f : α → DT β) (g : β → DT γ) : (d.bind f).bind g = d.bind fun x => (f x).bind g := by
  induction d with
  | no => rfl
  | ret a => rfl
  | ite c a b iha ihb => simp only [DT.bind, iha, ihb]
  | bnd o k ih => simp only [DT.bind, ih]
  | cas o k k' ih ih' => simp only [DT.bind, ih, ih']
abbrev Out := AV × List AB × Bool
theorem callT_bind {β : Type} {cal : CalT} {f : FuncId} {args : List AV} {H : List AB} {K : AV → List AB → Bool → DT β} :
    callT cal f args H K = (callT cal f args H fun v H' k => .ret ((v, H', k) : Out)).bind fun p => K p.1 p.2.1 p.2.2 := by
  unfold callT
  cases cal f with
  | none => rfl
  | some p =>
    obtain ⟨lend, spec⟩ := p
    simp only
    generalize lendArgs lend H args = args1
    generalize lendFb lend H args = fb
    generalize close (iceL true H fb) 200 [] (ptrsL args1) = ids
    cases renL (idx ids) (ageIn (iceL true H fb)) args1 with
    | none => rfl
    | some args' =>
      simp only
      cases fetch (iceL true H fb) ids with
      | none => rfl
      | some bs =>
        simp only
        cases renH (idx ids) (ageIn (iceL true H fb)) (fun _ _ => 0) 0 bs with
        | none => rfl
        | some bs' =>
          simp only
          rw [bind_assoc]
          congr 1
          funext rh
          cases rh.1.ren (back ids (iceL true H fb).length) (fun j v => some (baseV (iceL true H fb) ids j + v)) with
          | none => rfl
          | some r' =>
            simp only
            cases renH (back ids (iceL true H fb).length) (fun j v => some (baseV (iceL true H fb) ids j + v)) (fun j v => baseV (iceL true H fb) ids j + v) 0 rh.2 with
            | none => rfl
            | some H1' =>
              simp only
              cases decide (ids.length ≤ rh.2.length) with
              | false => rfl
              | true =>
                simp only
                cases fb with
                | nil => rfl
                | cons b fb =>
                  simp only
                  split <;> rfl
def stepA (P : Program) (cal : CalT) (st : St) (op : Op) : Option Out := (stepT P cal st op fun v H' k => .ret ((v, H', k) : Out)).run
theorem stepT_run {β : Type} {P : Program} {cal : CalT} {st : St} {op : Op} {K : AV → List AB → Bool → DT β} {r : β} (h : (stepT P cal st op K).run = some r) : ∃ v H' k, stepA P cal st op = some (v, H', k) ∧ (K v H' k).run = some r := by
  have hb : stepT P cal st op K = (stepT P cal st op fun v H' k => .ret ((v, H', k) : Out)).bind fun p => K p.1 p.2.1 p.2.2 := by
    unfold stepT
    split
    · split
      · exact callT_bind
      · rfl
    · rw [bind_assoc]
      rfl
  rw [hb] at h
  obtain ⟨⟨v, H', k⟩, h1, h2⟩ := bind_run h
  exact ⟨v, H', k, h1, h2⟩
/-- Is an operation carried out? -/
def wants (ops : List Oper) (env : Env) (o : Oper) : Option Bool :=
  match o.guard with
  | none => some true
  | some (j, want) => match ops[j]? with
    | none => none
    | some oj => match oj.dst with
      | none => none
      | some d => match env d with
        | some (.bool b) => some (b == want)
        | some (.tup []) => some false
        | _ => none
def actA (P : Program) (cal : CalT) (ops : List Oper) (o : Oper) (st : St) : Option Out :=
  match wants ops st.env o with
  | none => none
  | some b => if b then stepA P cal st o.op else some (.tup [], st.H, true)
def oneA (P : Program) (cal : CalT) (ops : List Oper) (o : Oper) (st : St) : Option (Bool × St) :=
  match actA P cal ops o st with
  | some (v, H', k) => some (k, St.put { st with H := H' } o.dst v)
  | none => none
theorem know_eq {st : St} {d : Nat} {b : Bool} (h : st.env d = some (.bool b)) : st.know d b = st := by
  unfold St.know
  cases st with
  | mk env H =>
    simp only [St.mk.injEq, and_true]
    funext j
    unfold upd
    split
    · rename_i hj; subst hj; exact h.symm
    · rfl
theorem knowO_eq {st : St} {x : Operand} {b : Bool} (h : opd st.env x = some (.bool b)) : st.knowO x b = st := by
  cases x with
  | tmp d => exact know_eq h
  | _ => rfl
theorem oneT_run {β : Type} {P : Program} {cal : CalT} {ops : List Oper} {o : Oper} {st : St} {K : Bool → St → DT β} {r : β} (h : (oneT P cal ops o st K).run = some r) : ∃ k st', oneA P cal ops o st = some (k, st') ∧ (K k st').run = some r := by
  have go : (stepT P cal st o.op fun v H' k => K k (St.put { st with H := H' } o.dst v)).run = some r → wants ops st.env o = some true → ∃ k st', oneA P cal ops o st = some (k, st') ∧ (K k st').run = some r := by
    intro h hw
    obtain ⟨v, H', k, h1, h2⟩ := stepT_run h
    refine ⟨k, _, ?_, h2⟩
    unfold oneA actA
    rw [hw]
    simp only [if_true, h1]
  have skip : (K true (st.put o.dst (.tup []))).run = some r → wants ops st.env o = some false → ∃ k st', oneA P cal ops o st = some (k, st') ∧ (K k st').run = some r := by
    intro h hw
    refine ⟨true, _, ?_, h⟩
    unfold oneA actA
    rw [hw]
    simp
  unfold oneT at h
  simp only at h
  split at h
  · rename_i hg
    exact go h (by unfold wants; rw [hg])
  · rename_i j want hg
    split at h
    · exact (run_no h).elim
    · rename_i oj hj
      split at h
      · exact (run_no h).elim
      · rename_i d hd
        split at h
        · rename_i b hb
          have hw : wants ops st.env o = some (b == want) := by unfold wants; rw [hg]; simp only [hj, hd, hb]
          cases want with
          | true =>
            simp only at h
            rcases run_ite h with ⟨rfl, h⟩ | ⟨rfl, h⟩
            · rw [know_eq hb] at h
              exact go h hw
            · rw [know_eq hb] at h
              exact skip h hw
          | false =>
            simp only at h
            rcases run_ite h with ⟨rfl, h⟩ | ⟨rfl, h⟩
            · rw [know_eq hb] at h
              exact skip h hw
            · rw [know_eq hb] at h
              exact go h hw
        · rename_i hb
          exact skip h (by unfold wants; rw [hg]; simp only [hj, hd, hb])
        · exact (run_no h).elim
def opsA (P : Program) (cal : CalT) (ops : List Oper) : List Oper → St → Option St
  | [], st => some st
  | o :: r, st => match oneA P cal ops o st with
    | some (_, st') => opsA P cal ops r st'
    | none => none
theorem opsT_run {β : Type} {P : Program} {cal : CalT} {ops : List Oper} : ∀ {l : List Oper} {st : St} {K : St → DT β} {r : β}, (opsT P cal ops l st K).run = some r → ∃ st', opsA P cal ops l st = some st' ∧ (K st').run = some r
  | [], st, K, r, h => ⟨st, rfl, h⟩
  | o :: l, st, K, r, h => by
    rw [opsT] at h
    obtain ⟨k, st1, h1, h2⟩ := oneT_run h
    obtain ⟨st2, h3, h4⟩ := opsT_run h2
    refine ⟨st2, ?_, h4⟩
    rw [opsA, h1]
    exact h3

section
variable {P : Program} {cal : CalT} (hcal : ∀ f p, cal f = some p → SoundT P f p.2)
include hcal
/-- What an operation comes to as a function holds of what the model runs. -/
theorem stepA_sound {o : Oper} {st : St} {v : AV} {H' : List AB} {k : Bool} (hs : stepA P cal st o.op = some (v, H', k)) {M : Mem} {e : RR} {w : World} {a : Act} (h : HR M e st.H w) (hE : EnvR M e st.env a.tmps)
    (hd : ∀ d, o.dst = some d → d < a.tmps.size) {K' : Act → World → Prop} {Q : Exit → Act → World → Prop}
    (hK : ∀ c M' e' w', Tr M e st.H w M' e' H' w' → VR M' e' v c → K' (a.put o.dst c) w') : o.wp P a w K' Q := by
  refine stepT_sound hcal hs h hE hd fun v1 H1 k1 hr c M' e' w' hT hv _ => ?_
  have := run_ret hr
  simp only [Prod.mk.injEq] at this
  obtain ⟨rfl, rfl, rfl⟩ := this
  exact hK c M' e' w' hT hv
theorem wants_sound {ops : Array Oper} {o : Oper} {M : Mem} {e : RR} {env : Env} {a : Act} (hE : EnvR M e env a.tmps) {b : Bool} (h : wants ops.toList env o = some b) : Region.wanted o (yielded ops a.tmps) = b := by
  unfold wants at h
  unfold Region.wanted
  split at h
  · rename_i hg
    obtain rfl := Option.some.inj h
    rw [hg]
  · rename_i j want hg
    rw [hg]
    split at h
    · exact absurd h (by simp)
    · rename_i oj hj
      split at h
      · exact absurd h (by simp)
      · rename_i d hd
        have hj' : ops[j]? = some oj := by simpa using hj
        split at h
        · rename_i c hc
          obtain rfl := Option.some.inj h
          have hv := hE d _ hc
          rw [Array.getD_eq_getD_getElem?] at hv
          generalize hq : (a.tmps[d]?).getD undef = q at hv
          cases hv
          have : a.tmps[d]? = some (.bool c) := by
            cases hz : a.tmps[d]? with
            | none => rw [hz] at hq; exact absurd hq (by simp [undef])
            | some z => rw [hz] at hq; simp at hq; rw [hq]
          show (yielded ops a.tmps j == some want) = (c == want)
          have hy : yielded ops a.tmps j = some c := by simp only [yielded, hj', Option.bind_some, hd, this]
          rw [hy]
          cases c <;> cases want <;> rfl
        · rename_i hc
          obtain rfl := Option.some.inj h
          have hv := hE d _ hc
          rw [Array.getD_eq_getD_getElem?] at hv
          generalize hq : (a.tmps[d]?).getD undef = q at hv
          cases hv
          show (yielded ops a.tmps j == some want) = false
          have hy : yielded ops a.tmps j = none := by
            cases hz : a.tmps[d]? with
            | none => simp only [yielded, hj', Option.bind_some, hd, hz]
            | some z => rw [hz] at hq; simp at hq; subst hq; simp only [yielded, hj', Option.bind_some, hd, hz]
          rw [hy]
          rfl
        · exact absurd h (by simp)

/-- One operation. -/
theorem oneA_sound {ops : Array Oper} {o : Oper} {st st' : St} {k : Bool} (hone : oneA P cal ops.toList o st = some (k, st')) {M : Mem} {e : RR} {w : World} {a : Act} (h : HR M e st.H w) (hE : EnvR M e st.env a.tmps)
    (hd : ∀ d, o.dst = some d → d < a.tmps.size) {K : Act → World → Prop} {Q : Exit → Act → World → Prop}
    (hK : ∀ a' M' e' w', Tr M e st.H w M' e' st'.H w' → EnvR M' e' st'.env a'.tmps → a'.tmps.size = a.tmps.size → a'.defers = a.defers → K a' w') :
    if Region.wanted o (yielded ops a.tmps) then o.wp P a w K Q else K (a.put o.dst undef) w := by
  unfold oneA at hone
  split at hone
  case h_2 => exact absurd hone (by simp)
  rename_i v H' k' hact
  obtain ⟨rfl, rfl⟩ := Prod.mk.inj (Option.some.inj hone)
  have hH : (St.put { st with H := H' } o.dst v).H = H' := by cases o.dst <;> rfl
  have hput : ∀ {M' : Mem} {e' : RR} {w' : World} {c : Value}, Tr M e st.H w M' e' H' w' → VR M' e' v c → K (a.put o.dst c) w' := by
    intro M' e' w' c hT hv
    refine hK _ M' e' w' (by rw [hH]; exact hT) ?_ ?_ ?_
    · cases hdst : o.dst with
      | none => exact hE.mono hT.mle hT.rle
      | some d => exact (hE.mono hT.mle hT.rle).put hv (hd d hdst)
    · cases o.dst <;> simp [Act.put]
    · cases o.dst <;> rfl
  unfold actA at hact
  split at hact
  · exact absurd hact (by simp)
  · rename_i b hb
    rw [wants_sound hcal hE hb]
    split at hact
    · rename_i hbt
      subst hbt
      simp only [if_true]
      exact stepA_sound hcal hact h hE hd fun c M' e' w' hT hv => hput hT hv
    · rename_i hbf
      have hbf' : b = false := by simpa using hbf
      subst hbf'
      simp only [Bool.false_eq_true, if_false]
      simp only [Option.some.injEq, Prod.mk.injEq] at hact
      obtain ⟨rfl, rfl, rfl⟩ := hact
      exact hput (Tr.refl h) (.tup rfl fun _ _ _ h => by simp at h)
theorem opsA_sound {ops : Array Oper} {Q : Exit → Act → World → Prop} : ∀ {l : List Oper} {st st' : St}, opsA P cal ops.toList l st = some st' → ∀ {M : Mem} {e : RR} {w : World} {a : Act}, HR M e st.H w → EnvR M e st.env a.tmps →
    (∀ o ∈ l, ∀ d, o.dst = some d → d < a.tmps.size) → (∀ a' M' e' w', Tr M e st.H w M' e' st'.H w' → EnvR M' e' st'.env a'.tmps → a'.tmps.size = a.tmps.size → a'.defers = a.defers → Q .normal a' w') → wpList P ops Q l a w
  | [], st, st', ho, M, e, w, a, h, hE, hd, hQ => by
    rw [opsA] at ho
    obtain rfl := Option.some.inj ho
    exact hQ a M e w (Tr.refl h) hE rfl rfl
  | o :: r, st, st', ho, M, e, w, a, h, hE, hd, hQ => by
    rw [opsA] at ho
    split at ho
    · rename_i k st1 h1
      have := oneA_sound hcal h1 h hE (hd o (by simp)) (K := wpList P ops Q r) (Q := Q) fun a1 M1 e1 w1 hT hE1 hsz hdf =>
        opsA_sound ho hT.hr hE1 (fun o' ho' d hd' => by rw [hsz]; exact hd o' (by simp [ho']) d hd') fun a' M' e' w' hT' hE' hsz' hdf' => hQ a' M' e' w' (hT.trans hT') hE' (hsz'.trans hsz) (hdf'.trans hdf)
      unfold wpList
      split
      · rename_i hw
        rw [if_pos hw] at this
        exact .inl this
      · rename_i hw
        rw [if_neg hw] at this
        exact this
    · exact absurd ho (by simp)
end

/-! ### What an operation looks at -/
theorem opd_congr {env env' : Env} {x : Operand} (h : ∀ t, x = .tmp t → env' t = env t) : opd env' x = opd env x := by
  cases x with
  | tmp t => exact h t rfl
  | _ => rfl
theorem mem_tmpsOf {l : List Operand} {t : Nat} (h : Operand.tmp t ∈ l) : t ∈ tmpsOf l := by
  induction l with
  | nil => simp at h
  | cons x r ih =>
    rcases List.mem_cons.1 h with h1 | h1
    · subst h1; simp [tmpsOf]
    · cases x <;> simp [tmpsOf, ih h1]
theorem opdL_congr {env env' : Env} : ∀ {l : List Operand}, (∀ t, Operand.tmp t ∈ l → env' t = env t) → opdL env' l = opdL env l
  | [], _ => rfl
  | x :: r, h => by
    rw [opdL, opdL, opd_congr (fun t ht => h t (by rw [ht]; simp)), opdL_congr (fun t ht => h t (by simp [ht]))]
theorem opdP_congr {env env' : Env} : ∀ {l : List (Nat × Operand)}, (∀ t, Operand.tmp t ∈ l.map (·.2) → env' t = env t) → opdP env' l = opdP env l
  | [], _ => rfl
  | (i, x) :: r, h => by
    rw [opdP, opdP, opd_congr (fun t ht => h t (by rw [ht]; simp)), opdP_congr (fun t ht => h t (by
      simp only [List.map_cons, List.mem_cons]
      exact .inr ht))]
theorem opdO_congr {env env' : Env} {x : Option Operand} (h : ∀ t, x = some (.tmp t) → env' t = env t) : opdO env' x = opdO env x := by
  cases x with
  | none => rfl
  | some x => simp only [opdO]; rw [opd_congr (fun t ht => h t (by rw [ht]))]
end Go.Sm
/- Operations whose order is open: two of them change places. No condition. -/
set_option linter.unusedVariables false
set_option linter.unusedSimpArgs false
set_option linter.unusedSectionVars false
namespace Go.Sm
theorem opT_congr {P : Program} {env env' : Env} {H : List AB} {op : Op} (h : ∀ t, Operand.tmp t ∈ op.operands.toList → env' t = env t) : opT P env' H op = opT P env H op := by
  have h1 : ∀ x, x ∈ op.operands.toList → opd env' x = opd env x := fun x hx => opd_congr fun t ht => h t (by rw [← ht]; exact hx)
  cases op with
  | call c =>
    obtain ⟨callee, args, ts⟩ := c
    have ha : opdL env' args.toList = opdL env args.toList := opdL_congr fun t ht => h t (by simp [Op.operands, Call.operands]; exact .inr (by simpa using ht))
    cases callee with
    | builtin b =>
      simp only [opT]
      rw [ha]
    | _ => rfl
  | build t ps =>
    have : opdP env' ps.toList = opdP env ps.toList := opdP_congr fun t ht => h t (by simpa [Op.operands] using ht)
    simp only [opT]
    rw [this]
  | buildSlice t n ps =>
    have : opdP env' ps.toList = opdP env ps.toList := opdP_congr fun t ht => h t (by simpa [Op.operands] using ht)
    simp only [opT]
    rw [this]
  | makeFunc fn first cap =>
    have : opdL env' cap.toList = opdL env cap.toList := opdL_congr fun t ht => h t (by simp [Op.operands]; exact .inr (by simpa using ht))
    cases fn <;> simp only [opT]
    rw [this]
  | slice t x lo hi mx =>
    have hx := h1 x (by simp [Op.operands])
    have hlo : opdO env' lo = opdO env lo := opdO_congr fun t ht => h t (by simp [Op.operands, ht])
    have hhi : opdO env' hi = opdO env hi := opdO_congr fun t ht => h t (by simp [Op.operands, ht])
    cases mx with
    | none => simp only [opT]; rw [hx, hlo, hhi]
    | some m =>
      have hm := h1 m (by simp [Op.operands])
      cases lo with
      | some _ => rfl
      | none => simp only [opT]; rw [hx, hhi, hm]
  | next it isS =>
    have hx := h1 it (by simp [Op.operands])
    cases isS <;> simp only [opT]
    rw [hx]
  | move x => simp only [opT]; rw [h1 x (by simp [Op.operands])]
  | assign x => simp only [opT]; rw [h1 x (by simp [Op.operands])]
  | box t x => simp only [opT]; rw [h1 x (by simp [Op.operands])]
  | load t x => simp only [opT]; rw [h1 x (by simp [Op.operands])]
  | nilCheck x => simp only [opT]; rw [h1 x (by simp [Op.operands])]
  | unOp o t x => simp only [opT]; rw [h1 x (by simp [Op.operands])]
  | convert s d x => simp only [opT]; rw [h1 x (by simp [Op.operands])]
  | makeInterface t x => simp only [opT]; rw [h1 x (by simp [Op.operands])]
  | fieldAddr t x i => simp only [opT]; rw [h1 x (by simp [Op.operands])]
  | field t x i => simp only [opT]; rw [h1 x (by simp [Op.operands])]
  | range t x => simp only [opT]; rw [h1 x (by simp [Op.operands])]
  | typeAssert x t u ok => simp only [opT]; rw [h1 x (by simp [Op.operands])]
  | extract x i => simp only [opT]; rw [h1 x (by simp [Op.operands])]
  | pick c x y => simp only [opT]; rw [h1 c (by simp [Op.operands]), h1 x (by simp [Op.operands]), h1 y (by simp [Op.operands])]
  | store t x y => simp only [opT]; rw [h1 x (by simp [Op.operands]), h1 y (by simp [Op.operands])]
  | binOp o t x y u => simp only [opT]; rw [h1 x (by simp [Op.operands]), h1 y (by simp [Op.operands])]
  | indexAddr t x y => simp only [opT]; rw [h1 x (by simp [Op.operands]), h1 y (by simp [Op.operands])]
  | index t x y => simp only [opT]; rw [h1 x (by simp [Op.operands]), h1 y (by simp [Op.operands])]
  | makeSlice t x y => simp only [opT]; rw [h1 x (by simp [Op.operands]), h1 y (by simp [Op.operands])]
  | _ => rfl
theorem keepsT_congr {env env' : Env} {op : Op} (h : ∀ t, Operand.tmp t ∈ op.operands.toList → env' t = env t) : keepsT env' op = keepsT env op := by
  cases op with
  | call c =>
    obtain ⟨callee, args, ts⟩ := c
    cases callee with
    | builtin b =>
      cases b <;> try rfl
      simp only [keepsT]
      cases hl : args.toList with
      | nil => rfl
      | cons x r => simp only; rw [opd_congr fun t ht => h t (by simp [Op.operands, Call.operands]; have : Operand.tmp t ∈ args.toList := by rw [hl, ht]; simp
                                                                 simpa using this)]
    | _ => rfl
  | _ => rfl
theorem stepA_congr {P : Program} {cal : CalT} {env env' : Env} {H : List AB} {op : Op} (h : ∀ t, Operand.tmp t ∈ op.operands.toList → env' t = env t) : stepA P cal ⟨env', H⟩ op = stepA P cal ⟨env, H⟩ op := by
  unfold stepA stepT
  cases op with
  | call c =>
    obtain ⟨callee, args, ts⟩ := c
    cases callee with
    | value f =>
      have ha : opdL env' args.toList = opdL env args.toList := opdL_congr fun t ht => h t (by simp [Op.operands, Call.operands]; exact .inr (by simpa using ht))
      have hf : opd env' f = opd env f := opd_congr fun t ht => h t (by simp [Op.operands, Call.operands, ht])
      simp only [ha, hf]
    | _ => simp only [opT_congr h, keepsT_congr h]
  | _ => simp only [opT_congr h, keepsT_congr h]
theorem looks_mem {ops : List Oper} {o : Oper} {t : Nat} (h : Operand.tmp t ∈ o.op.operands.toList) : t ∈ looks ops o := List.mem_append.2 (.inl (mem_tmpsOf h))
theorem wants_congr {ops : List Oper} {o : Oper} {env env' : Env} (h : ∀ t ∈ looks ops o, env' t = env t) : wants ops env' o = wants ops env o := by
  unfold wants
  split
  · rfl
  · rename_i j want hg
    split
    · rfl
    · rename_i oj hj
      split
      · rfl
      · rename_i d hd
        rw [h d (List.mem_append.2 (.inr (by unfold guardTmp; rw [hg]; simp only [hj, hd]; simp)))]
theorem actA_congr {P : Program} {cal : CalT} {ops : List Oper} {o : Oper} {env env' : Env} {H : List AB} (h : ∀ t ∈ looks ops o, env' t = env t) : actA P cal ops o ⟨env', H⟩ = actA P cal ops o ⟨env, H⟩ := by
  unfold actA
  rw [wants_congr h]
  cases wants ops env o with
  | none => rfl
  | some b =>
    cases b
    · rfl
    · exact stepA_congr fun t ht => h t (looks_mem ht)
theorem put_env {st : St} {d : Option Tmp} {v : AV} {t : Nat} (h : d ≠ some t) : (st.put d v).env t = st.env t := by
  cases d with
  | none => rfl
  | some d =>
    simp only [St.put, upd]
    rw [if_neg (fun he => h (by rw [he]))]
theorem put_H {st : St} {d : Option Tmp} {v : AV} : (st.put d v).H = st.H := by cases d <;> rfl
theorem put_comm {st : St} {d d' : Option Tmp} {v u : AV} (h : ∀ x, d = some x → d' ≠ some x) : (st.put d v).put d' u = (st.put d' u).put d v := by
  cases d with
  | none => rfl
  | some x =>
    cases d' with
    | none => rfl
    | some y =>
      have hne : x ≠ y := fun he => h x rfl (by rw [he])
      simp only [St.put]
      congr 1
      funext t
      simp only [upd]
      by_cases h1 : t = x <;> by_cases h2 : t = y <;> simp [h1, h2]
      · exact absurd (h1.symm.trans h2) hne
      · intro h3; exact absurd h3 hne
      · intro h3; exact absurd h3.symm hne
theorem slotsApart_spec {ops : List Oper} {x y : Oper} (h : slotsApart ops x y = true) :
    (∀ d, x.dst = some d → d ∉ looks ops y) ∧ (∀ d, x.dst = some d → y.dst ≠ some d) ∧ (∀ d, y.dst = some d → d ∉ looks ops x) := by
  refine ⟨fun d hd => ?_, fun d hd => ?_, fun d hd => ?_⟩ <;> simp [slotsApart, hd] at h
  · exact h.1.1
  · exact h.1.2
  · exact h.2


/-! ### What does not look at the small heap; what looks at some of its blocks -/
def Ind (d : List AB → OT) : Prop := ∀ H v H', (d H).run = some (v, H') → H' = H ∧ ∀ H2, (d H2).run = some (v, H2)
theorem ind_at1 (x : DT AV) : Ind fun H => at1 H x := fun H v H' h => by
  obtain ⟨h1, rfl⟩ := at1_run h
  exact ⟨rfl, fun H2 => run_bind h1 rfl⟩
theorem ind_at0 (x : Option AV) : Ind fun H => at0 H x := fun H v H' h => by
  obtain ⟨rfl, rfl⟩ := at0_run h
  exact ⟨rfl, fun H2 => rfl⟩
theorem ind_ret (v : AV) : Ind fun H => .ret (v, H) := fun H u H' h => by
  obtain ⟨rfl, rfl⟩ := Prod.mk.inj (run_ret h)
  exact ⟨rfl, fun _ => rfl⟩
theorem ind_no : Ind fun _ => .no := fun _ _ _ h => (run_no h).elim
theorem slcKd_false {P : Program} {t : TypeId} (h : slcKd P t = false) : ∃ ti, mkT P t = some ti ∧ ∀ e, ti.kd ≠ .slc e := by
  unfold slcKd at h
  split at h
  · rename_i ti hT
    refine ⟨ti, hT, fun e he => ?_⟩
    rw [he] at h
    cases h
  · cases h
theorem still_ind {P : Program} {env : Env} {op : Op} (hs : clsOf P op = .still) : Ind fun H => opT P env H op := by
  cases op with
  | call c =>
    obtain ⟨callee, args, ts⟩ := c
    cases callee with
    | builtin b =>
      simp only [opT]
      cases hvs : opdL env args.toList with
      | none => exact ind_no
      | some vs =>
        simp only
        unfold builtinT
        split
        · simp only [clsOf] at hs
          rename_i t x hts
          rw [hts] at hs
          simp only at hs
          split at hs
          · cases hs
          · rename_i hk
            obtain ⟨ti, hT, hne⟩ := slcKd_false hk
            have : ∀ H, lenT P H t x = lenT P [] t x := by
              intro H
              unfold lenT
              rw [hT]
              simp only
              split
              · rfl
              · rfl
              · rename_i hk; exact absurd hk (hne _)
              · rfl
            simp only [this]
            exact ind_at0 _
        · simp [clsOf] at hs
        · simp [clsOf] at hs
        · exact ind_at0 _
        · exact ind_at0 _
        · exact ind_at0 _
        · exact ind_no
    | value f => simp [clsOf] at hs
    | invoke r m => exact ind_no
  | move x => exact ind_at0 _
  | assign x => exact ind_at0 _
  | pick c a b => simp only [opT]; split <;> first | exact ind_at1 _ | exact ind_no
  | build t ps =>
    simp only [opT]
    (repeat' split) <;> first | exact ind_ret _ | exact ind_no
  | nilCheck x => simp only [opT]; split <;> first | exact ind_ret _ | exact ind_no
  | binOp op t x y u => simp only [opT]; split <;> first | exact ind_at1 _ | exact ind_no
  | unOp op t x => simp only [opT]; split <;> first | exact ind_at0 _ | exact ind_no
  | makeInterface t x => simp only [opT]; split <;> first | exact ind_at1 _ | exact ind_no
  | makeFunc fn first cap =>
    cases fn <;> simp only [opT]
    all_goals (repeat' split) <;> first | exact ind_ret _ | exact ind_no
  | fieldAddr t x i => simp only [opT]; (repeat' split) <;> first | exact ind_ret _ | exact ind_no
  | field t x i => simp only [opT]; (repeat' split) <;> first | exact ind_at0 _ | exact ind_no
  | index t x i => simp only [opT]; split <;> first | exact ind_at1 _ | exact ind_no
  | typeAssert x t u ok => simp only [opT]; split <;> first | exact ind_at1 _ | exact ind_no
  | extract x i => simp only [opT]; split <;> first | exact ind_at0 _ | exact ind_no
  | slice t x lo hi mx =>
    simp only [clsOf] at hs
    split at hs
    · cases hs
    · rename_i hk
      obtain ⟨ti, hT, hne⟩ := slcKd_false hk
      have h1 : ∀ H v l h, sliceT P H t v l h = sliceT P [] t v l h := by
        intro H v l h
        unfold sliceT
        rw [hT]
        simp only
        split
        · rfl
        · rename_i hk; exact absurd hk (hne _)
        · rfl
      have h2 : ∀ H v h m, slice0T P H t v h m = slice0T P [] t v h m := by
        intro H v h m
        unfold slice0T
        rw [hT]
        split
        · rename_i hti
          obtain rfl := Option.some.inj hti
          split
          · rename_i hk; exact absurd hk (hne _)
          · rfl
        · rfl
      cases mx with
      | none => simp only [opT, h1]; split <;> first | exact ind_at1 _ | exact ind_no
      | some m =>
        cases lo with
        | some _ => exact ind_no
        | none => simp only [opT, h2]; split <;> first | exact ind_at1 _ | exact ind_no
  | indexAddr t x i =>
    simp only [clsOf] at hs
    split at hs
    · cases hs
    · rename_i hk
      obtain ⟨ti, hT, hne⟩ := slcKd_false hk
      have h1 : ∀ H v l, indexAddrT P H t v l = indexAddrT P [] t v l := by
        intro H v l
        unfold indexAddrT
        rw [hT]
        simp only
        split
        · rfl
        · split
          · rename_i hk; exact absurd hk (hne _)
          · rfl
          · rfl
      simp only [opT, h1]
      split <;> first | exact ind_at1 _ | exact ind_no
  | convert s d x =>
    simp only [clsOf] at hs
    split at hs
    · rename_i si di hS hD
      simp only [opT]
      cases hx : opd env x with
      | none => exact ind_no
      | some v =>
        simp only [convT, hS, hD]
        split at hs
        · rename_i hk1 hk2
          simp only [hk1, hk2]
          (repeat' split) <;> first | exact ind_ret _ | exact ind_no | (rename_i h _; cases h; done) | (simp_all; done)
        · rename_i hk1 hk2
          simp only [hk1, hk2]
          (repeat' split) <;> first | exact ind_ret _ | exact ind_no | (rename_i h _; cases h; done) | (simp_all; done)
        · cases hs
        · cases hs
        · cases hs
    · cases hs
  | load t x => simp [clsOf] at hs
  | alloc t => simp [clsOf] at hs
  | box t x => simp [clsOf] at hs
  | buildSlice t n ps =>
    simp only [clsOf] at hs
    split at hs
    · rename_i h0
      have h0 := of_decide_eq_true h0
      have hps : ps.toList = [] := by
        apply List.length_eq_zero_iff.1
        simpa using h0
      simp only [opT, hps, opdP]
      unfold buildSliceT
      cases mkT P t with
      | none => exact ind_no
      | some ti =>
        simp only
        split
        · split
          · exact ind_no
          · split
            · exact ind_no
            · exact ind_ret _
        · exact ind_no
    · cases hs
  | makeSlice t n m => simp [clsOf] at hs
  | store t x y => simp [clsOf] at hs
  | range t x => simp [clsOf] at hs
  | next it isS => simp [clsOf] at hs
  | _ => exact ind_no
/-- Two small heaps agree on the blocks of the values in slots. -/
def Agree (env : Env) (op : Op) (H H2 : List AB) : Prop := ∀ x v, x ∈ op.operands.toList → opd env x = some v → ∀ b ∈ v.ptrs, H2[b]? = H[b]?
theorem contH_agree {H H2 : List AB} {x : AV} (h : ∀ b ∈ x.ptrs, H2[b]? = H[b]?) : contH H2 x = contH H x := by
  cases x <;> simp only [contH] <;> first | rfl | rw [h _ (by simp [AV.ptrs])]
theorem lenH_agree {H H2 : List AB} {x : AV} (h : ∀ b ∈ x.ptrs, H2[b]? = H[b]?) : lenH H2 x = lenH H x := by
  cases x <;> simp only [lenH, contH_agree h] <;> first | rfl | (simp only [curV]; rw [h _ (by simp [AV.ptrs])])
theorem loadT_agree {P : Program} {H H2 : List AB} {t : TypeId} {x : AV} (h : ∀ b ∈ x.ptrs, H2[b]? = H[b]?) : loadT P H2 t x = loadT P H t x := by
  unfold loadT
  cases mkT P t with
  | none => rfl
  | some ti => cases x <;> first | rfl | (simp only [AV.ptrs, List.mem_singleton, forall_eq] at h; simp only [h])
theorem sliceT_agree {P : Program} {H H2 : List AB} {t : TypeId} {x : AV} {lo hi : Option AV} (h : ∀ b ∈ x.ptrs, H2[b]? = H[b]?) : sliceT P H2 t x lo hi = sliceT P H t x lo hi := by
  unfold sliceT
  cases mkT P t with
  | none => rfl
  | some ti =>
    obtain ⟨kd, sz, by_, z, eq⟩ := ti
    cases kd with
    | slc e =>
      simp only
      cases mkT P e with
      | none => rfl
      | some ei => cases x <;> first | rfl | (simp only [AV.ptrs, List.mem_singleton, forall_eq] at h; simp only [h])
    | _ => cases x <;> rfl
theorem indexAddrT_agree {P : Program} {H H2 : List AB} {t : TypeId} {x i : AV} (h : ∀ b ∈ x.ptrs, H2[b]? = H[b]?) : indexAddrT P H2 t x i = indexAddrT P H t x i := by
  unfold indexAddrT
  cases mkT P t with
  | none => rfl
  | some ti =>
    obtain ⟨kd, sz, by_, z, eq⟩ := ti
    simp only
    cases loI (some i) with
    | none => rfl
    | some k =>
      cases kd with
      | slc e =>
        simp only
        cases mkT P e with
        | none => rfl
        | some ei => cases x <;> first | rfl | (simp only [AV.ptrs, List.mem_singleton, forall_eq] at h; simp only [h])
      | _ => rfl
theorem read_sound {P : Program} {env : Env} {op : Op} (hs : clsOf P op = .read) {H H2 : List AB} {v : AV} {H' : List AB} (h : (opT P env H op).run = some (v, H')) (ha : Agree env op H H2) : H' = H ∧ (opT P env H2 op).run = some (v, H2) := by
  have one : ∀ {d d2 : DT AV}, (at1 H d).run = some (v, H') → d2 = d → H' = H ∧ (at1 H2 d2).run = some (v, H2) := by
    rintro d _ h rfl
    obtain ⟨h1, rfl⟩ := at1_run h
    exact ⟨rfl, run_bind h1 rfl⟩
  cases op with
  | load t x =>
    simp only [opT] at h ⊢
    split at h
    · rename_i y hy
      have hb := ha x y (by simp [Op.operands]) hy
      exact one h (loadT_agree hb)
    · exact (run_no h).elim
  | slice t x lo hi mx =>
    cases mx with
    | none =>
      simp only [opT] at h ⊢
      split at h
      · rename_i y l hh hy _ _
        have hb := ha x y (by simp [Op.operands]) hy
        exact one h (sliceT_agree hb)
      · exact (run_no h).elim
    | some m =>
      cases lo with
      | some _ => exact (run_no (by simpa only [opT] using h)).elim
      | none =>
        simp only [opT] at h ⊢
        split at h
        · rename_i y l hh hy _ _
          have hb := ha x y (by simp [Op.operands]) hy
          refine one h ?_
          unfold slice0T
          simp only [contH_agree hb]
        · exact (run_no h).elim
  | indexAddr t x i =>
    simp only [opT] at h ⊢
    split at h
    · rename_i y j hy _
      have hb := ha x y (by simp [Op.operands]) hy
      exact one h (indexAddrT_agree hb)
    · exact (run_no h).elim
  | convert s d x =>
    simp only [clsOf] at hs
    split at hs
    · rename_i si di hS hD
      simp only [opT] at h ⊢
      split at h
      · rename_i y hy
        have hb := ha x y (by simp [Op.operands]) hy
        have hc := contH_agree hb
        split at hs
        · cases hs
        · cases hs
        · rename_i e hk1 hk2
          simp only [convT, hS, hD, hk1, hk2] at h ⊢
          rw [hc]
          split at h
          · split at h
            · split at h
              · split at h
                · obtain ⟨rfl, rfl⟩ := Prod.mk.inj (run_ret h)
                  refine ⟨rfl, ?_⟩
                  simp_all [DT.run]
                · exact (run_no h).elim
              · exact (run_no h).elim
            · exact (run_no h).elim
          · exact (run_no h).elim
        · cases hs
        · cases hs
      · exact (run_no h).elim
    · cases hs
  | call c =>
    obtain ⟨callee, args, ts⟩ := c
    cases callee with
    | builtin b =>
      simp only [opT] at h ⊢
      split at h
      · rename_i vs hvs
        unfold builtinT at h ⊢
        split at h
        · rename_i t x hts
          have hx : ∀ b ∈ x.ptrs, H2[b]? = H[b]? := by
            cases hl : args.toList with
            | nil => rw [hl] at hvs; simp [opdL] at hvs
            | cons y r =>
              rw [hl, opdL] at hvs
              split at hvs
              · rename_i v1 hv1
                split at hvs
                · obtain ⟨rfl, _⟩ := List.cons.inj (Option.some.inj hvs)
                  exact ha y _ (by simp [Op.operands, Call.operands]; have : y ∈ args.toList := by rw [hl]; simp
                                   simpa using this) hv1
                · exact absurd hvs (by simp)
              · exact absurd hvs (by simp)
          obtain ⟨h1, rfl⟩ := at0_run h
          refine ⟨rfl, ?_⟩
          have : lenT P H2 t x = lenT P H' t x := by
            unfold lenT
            split
            · rfl
            · split <;> first | rfl | rw [lenH_agree hx]
          simp only [at0, this, h1, DT.run]
        · simp [clsOf] at hs
        · simp [clsOf] at hs
        · simp [clsOf] at hs
        · simp [clsOf] at hs
        · simp [clsOf] at hs
        · exact (run_no h).elim
      · exact (run_no h).elim
    | value f => simp [clsOf] at hs
    | invoke r m => exact (run_no (by simpa only [opT] using h)).elim
  | buildSlice t n ps => simp only [clsOf] at hs; split at hs <;> cases hs
  | _ => simp [clsOf] at hs
/-- A soft operation that says so leaves all blocks. -/
theorem keepsT_sound {P : Program} {env : Env} {H : List AB} {op : Op} (hs : isSoft P op = true) (hk : keepsT env op = true) {v : AV} {H' : List AB} (h : (opT P env H op).run = some (v, H')) : keepsB H H' := by
  have nv : ∀ {t : TypeId} {z : AV}, (newVarT P H t z).run = some (v, H') → keepsB H H' := by
    intro t z h
    unfold newVarT at h
    split at h
    · exact (run_no h).elim
    · obtain ⟨rfl, rfl⟩ := Prod.mk.inj (run_ret h)
      rw [List.append_assoc]
      exact keepsB.app _ _
  cases op with
  | alloc t =>
    simp only [opT] at h
    split at h
    · exact nv h
    · exact (run_no h).elim
  | box t x =>
    simp only [opT] at h
    split at h
    · exact nv h
    · exact (run_no h).elim
  | buildSlice t n ps =>
    simp only [opT, buildSliceT] at h
    (repeat' split at h) <;> first
      | exact (run_no h).elim
      | (obtain ⟨rfl, rfl⟩ := Prod.mk.inj (run_ret h); first | exact keepsB.app _ _ | exact keepsB.refl _)
  | makeSlice t n m =>
    simp only [opT, makeSliceT] at h
    (repeat' split at h) <;> first
      | exact (run_no h).elim
      | (rcases run_ite h with ⟨_, h⟩ | ⟨_, h⟩
         · obtain ⟨rfl, rfl⟩ := Prod.mk.inj (run_ret h); exact keepsB.app _ _
         · exact (run_no h).elim)
  | convert s d x =>
    simp only [opT, convT] at h
    (repeat' split at h) <;> first
      | exact (run_no h).elim
      | (obtain ⟨rfl, rfl⟩ := Prod.mk.inj (run_ret h); first | exact keepsB.app _ _ | exact keepsB.refl _)
  | call c =>
    obtain ⟨callee, args, ts⟩ := c
    cases callee with
    | builtin b =>
      cases b <;> simp [keepsT] at hk
      simp only [opT] at h
      split at h
      · rename_i vs hvs
        unfold builtinT at h
        split at h <;> first | exact (run_no h).elim | (simp_all; done) | skip
        rename_i t t2 x y hb hts
        have hx : x = .nils := by
          cases hl : args.toList with
          | nil => rw [hl] at hvs; simp [opdL] at hvs
          | cons q r =>
            rw [hl, opdL] at hvs
            rw [hl] at hk
            simp only at hk
            split at hk
            · rename_i hq
              rw [hq] at hvs
              simp only at hvs
              split at hvs
              · obtain ⟨rfl, _⟩ := List.cons.inj (Option.some.inj hvs)
                rfl
              · exact absurd hvs (by simp)
            · cases hk
        subst hx
        unfold appT appZT at h
        (repeat' split at h) <;> first
          | exact (run_no h).elim
          | contradiction
          | (rcases run_ite h with ⟨_, h⟩ | ⟨_, h⟩
             · obtain ⟨rfl, rfl⟩ := Prod.mk.inj (run_ret h); exact keepsB.app _ _
             · exact (run_no h).elim)
      · exact (run_no h).elim
    | _ => simp [keepsT] at hk
  | _ => simp [keepsT] at hk

/-! ### The same of operations as functions -/
theorem stepA_opT {P : Program} {cal : CalT} {st : St} {op : Op} (hn : ∀ f args ts, op ≠ .call ⟨.value f, args, ts⟩) {v : AV} {H' : List AB} {k : Bool} : stepA P cal st op = some (v, H', k) ↔ (opT P st.env st.H op).run = some (v, H') ∧ k = keepsT st.env op := by
  have : stepT P cal st op (fun v H' k => .ret ((v, H', k) : Out)) = (opT P st.env st.H op).bind fun vh => .ret (vh.1, vh.2, keepsT st.env op) := by
    unfold stepT
    split
    · exact absurd rfl (hn _ _ _)
    · rfl
  unfold stepA
  rw [this]
  constructor
  · intro h
    obtain ⟨⟨v1, H1⟩, h1, h2⟩ := bind_run h
    have := run_ret h2
    simp only [Prod.mk.injEq] at this
    obtain ⟨rfl, rfl, rfl⟩ := this
    exact ⟨h1, rfl⟩
  · rintro ⟨h1, rfl⟩
    exact run_bind h1 rfl
theorem not_call {P : Program} {op : Op} (h : clsOf P op = .still ∨ clsOf P op = .read) : ∀ f args ts, op ≠ .call ⟨.value f, args, ts⟩ := by
  rintro f args ts rfl
  rcases h with h | h <;> simp [clsOf] at h
theorem act_still {P : Program} {cal : CalT} {ops : List Oper} {o : Oper} {env : Env} {H H' : List AB} {v : AV} {k : Bool} (hst : clsOf P o.op = .still) (h : actA P cal ops o ⟨env, H⟩ = some (v, H', k)) : H' = H ∧ ∀ H3, actA P cal ops o ⟨env, H3⟩ = some (v, H3, k) := by
  unfold actA at h ⊢
  cases hw : wants ops env o with
  | none => simp [hw] at h
  | some b =>
    simp only [hw] at h ⊢
    cases b
    · simp only [Bool.false_eq_true, if_false, Option.some.injEq, Prod.mk.injEq] at h
      obtain ⟨rfl, rfl, rfl⟩ := h
      exact ⟨rfl, fun _ => by simp⟩
    · simp only [if_true] at h ⊢
      obtain ⟨h1, rfl⟩ := (stepA_opT (not_call (.inl hst))).1 h
      obtain ⟨h2, h3⟩ := still_ind hst H v H' h1
      exact ⟨h2, fun H3 => (stepA_opT (not_call (.inl hst))).2 ⟨h3 H3, rfl⟩⟩
theorem act_read {P : Program} {cal : CalT} {ops : List Oper} {o : Oper} {env : Env} {H H' H2 : List AB} {v : AV} {k : Bool} (hst : clsOf P o.op = .read) (h : actA P cal ops o ⟨env, H⟩ = some (v, H', k)) (ha : Agree env o.op H H2) : H' = H ∧ actA P cal ops o ⟨env, H2⟩ = some (v, H2, k) := by
  unfold actA at h ⊢
  cases hw : wants ops env o with
  | none => simp [hw] at h
  | some b =>
    simp only [hw] at h ⊢
    cases b
    · simp only [Bool.false_eq_true, if_false, Option.some.injEq, Prod.mk.injEq] at h
      obtain ⟨rfl, rfl, rfl⟩ := h
      exact ⟨rfl, by simp⟩
    · simp only [if_true] at h ⊢
      obtain ⟨h1, rfl⟩ := (stepA_opT (not_call (.inr hst))).1 h
      obtain ⟨h2, h3⟩ := read_sound hst h1 ha
      exact ⟨h2, (stepA_opT (not_call (.inr hst))).2 ⟨h3, rfl⟩⟩
/-! ### Which operations stand before one -/
theorem ancM_bit : ∀ {es : List Edge} {acc : List Nat} {k : Nat}, (ancM es acc).testBit k = true → ∃ e ∈ es, Region.binds .any e = true ∧ (e.on = k ∨ (acc.getD e.on 0).testBit k = true)
  | [], acc, k, h => by simp [ancM] at h
  | e :: r, acc, k, h => by
    rw [ancM, Nat.testBit_or, Bool.or_eq_true] at h
    rcases h with h | h
    · split at h
      · rename_i hb
        rw [Nat.testBit_or, Bool.or_eq_true] at h
        rcases h with h | h
        · rw [Nat.testBit_two_pow] at h
          exact ⟨e, by simp, hb, .inl (by simpa using h)⟩
        · exact ⟨e, by simp, hb, .inr h⟩
      · simp at h
    · obtain ⟨e', h1, h2⟩ := ancM_bit h
      exact ⟨e', by simp [h1], h2⟩
theorem ancB_pre : ∀ (l : List Oper) (acc : List Nat), acc <+: ancB l acc ∧ (ancB l acc).length = acc.length + l.length
  | [], acc => ⟨List.prefix_refl _, by simp [ancB]⟩
  | o :: r, acc => by
    rw [ancB]
    obtain ⟨h1, h2⟩ := ancB_pre r (acc ++ [ancM o.after.toList acc])
    exact ⟨(List.prefix_append _ _).trans h1, by rw [h2]; simp; omega⟩
theorem ancB_get : ∀ (l : List Oper) (acc : List Nat) (j : Nat) (o : Oper), l[j]? = some o → ∃ pre, pre <+: ancB l acc ∧ pre.length = acc.length + j ∧ (ancB l acc)[acc.length + j]? = some (ancM o.after.toList pre)
  | [], _, _, _, h => by simp at h
  | x :: r, acc, 0, o, h => by
    simp at h
    subst h
    rw [ancB]
    obtain ⟨h1, _⟩ := ancB_pre r (acc ++ [ancM x.after.toList acc])
    refine ⟨acc, (List.prefix_append _ _).trans h1, by simp, ?_⟩
    obtain ⟨t, ht⟩ := h1
    rw [← ht]
    simp
  | x :: r, acc, j + 1, o, h => by
    rw [ancB]
    obtain ⟨pre, h1, h2, h3⟩ := ancB_get r (acc ++ [ancM x.after.toList acc]) j o (by simpa using h)
    refine ⟨pre, h1, by rw [h2]; simp; omega, ?_⟩
    rw [← h3]
    simp
    congr 1
    omega
end Go.Sm
/- Makers that are carried out before their turn: what stands in the world then, and that the small heap may come to know it later. No condition. -/
set_option linter.unusedVariables false
set_option linter.unusedSimpArgs false
namespace Go.Sm

theorem ptrsL_mem : ∀ {cs : List AV} {b : Nat}, b ∈ ptrsL cs → ∃ x ∈ cs, b ∈ x.ptrs
  | [], b, h => by simp [ptrsL] at h
  | v :: r, b, h => by
    rw [ptrsL] at h
    rcases List.mem_append.1 h with h | h
    · exact ⟨v, by simp, h⟩
    · obtain ⟨x, h1, h2⟩ := ptrsL_mem h
      exact ⟨x, by simp [h1], h2⟩
theorem VR.ptrs_lt {M : Mem} {e : RR} {x : AV} {v : Value} (h : VR M e x v) : ∀ b ∈ x.ptrs, b < e.N := by
  have key : ∀ {e0 : RR} {x : AV} {v : Value}, VR M e0 x v → ∀ b ∈ x.ptrs, b < e0.N := by
    intro e0 x v h
    induction h with
    | iface _ ih => exact ih
    | ptr h => intro b hb; simp [AV.ptrs] at hb; subst hb; exact h
    | elp h _ _ _ => intro b hb; simp [AV.ptrs] at hb; subst hb; exact h
    | slc h _ _ _ => intro b hb; simp [AV.ptrs] at hb; subst hb; exact h
    | sub h _ _ _ => intro b hb; simp [AV.ptrs] at hb; subst hb; exact h
    | eptr g o f h1 h2 h3 ih =>
      intro b hb
      simp only [AV.ptrs] at hb
      obtain ⟨x, hx, hbx⟩ := ptrsL_mem hb
      obtain ⟨j, hj⟩ := List.mem_iff_getElem?.1 hx
      exact ih j x hj b hbx
    | lstp s g o f hn hc hl hv ih =>
      intro b hb
      simp only [AV.ptrs] at hb
      obtain ⟨x, hx, hbx⟩ := ptrsL_mem hb
      obtain ⟨i, hi⟩ := List.mem_iff_getElem?.1 hx
      have hcell : b ∈ ptrsL x.cells := by
        cases x <;> first | (simpa [AV.cells, ptrsL] using hbx) | (simpa [AV.cells, AV.ptrs] using hbx)
      obtain ⟨z, hz, hbz⟩ := ptrsL_mem hcell
      obtain ⟨j, hj⟩ := List.mem_iff_getElem?.1 hz
      exact ih i j x z hi hj b hbz
    | @agg _ cs vs hs _ _ ih =>
      intro b hb
      simp only [AV.ptrs] at hb
      obtain ⟨x, hx, hbx⟩ := ptrsL_mem hb
      obtain ⟨j, hj⟩ := List.mem_iff_getElem?.1 hx
      have hl := (List.getElem?_eq_some_iff.1 hj).1
      exact ih j x vs[j] hj (Array.getElem?_eq_getElem (by omega)) b hbx
    | @tup _ cs vs hs _ ih =>
      intro b hb
      simp only [AV.ptrs] at hb
      obtain ⟨x, hx, hbx⟩ := ptrsL_mem hb
      obtain ⟨j, hj⟩ := List.mem_iff_getElem?.1 hx
      have hl := (List.getElem?_eq_some_iff.1 hj).1
      exact ih j x vs[j] hj (Array.getElem?_eq_getElem (by omega)) b hbx
    | @fn _ _ cs vs hs _ ih =>
      intro b hb
      simp only [AV.ptrs] at hb
      obtain ⟨x, hx, hbx⟩ := ptrsL_mem hb
      obtain ⟨j, hj⟩ := List.mem_iff_getElem?.1 hx
      have hl := (List.getElem?_eq_some_iff.1 hj).1
      exact ih j x vs[j] hj (Array.getElem?_eq_getElem (by omega)) b hbx
    | _ => intro b hb; simp [AV.ptrs] at hb
  exact key h
/-- What a maker that was carried out early holds ready: whenever its turn comes, its block is adopted and its value is what it should be. -/
def Prom (P : Program) (o : Op) (x : Option (Nat × Obj)) (ev : Env) (Hp : List AB) (Mp : Mem) (ep : RR) (val : Value) : Prop :=
  ∀ n M e H w env v H', HR M e H w → Mle Mp M → ep.le e → (∀ a ob, x = some (a, ob) → Pend n M e H w a ob) → (∀ t, Operand.tmp t ∈ o.operands.toList → env t = ev t) → (isApp o = true → keepsB Hp H) →
    (opT P env H o).run = some (v, H') → ∃ e', HR M e' H' w ∧ e.le e' ∧ (∀ i, foot e' H' i → foot e H i ∨ ∃ ob, x = some (i, ob)) ∧ VR M e' v val
theorem srcT_keeps {M : Mem} {e : RR} {H H2 : List AB} {w : World} (h : HR M e H w) (hk : keepsB H H2) {y : AV} {cy : Value} (hy : VR M e y cy) (c : Cd) : srcT H2 y c = srcT H y c := by
  have hag : contH H2 y = contH H y := contH_agree fun b hb => by
    have hlt := hy.ptrs_lt b hb
    rw [h.N] at hlt
    rw [hk b _ (List.getElem?_eq_getElem hlt), List.getElem?_eq_getElem hlt]
  cases y <;> first | rfl | simp only [srcT, hag]
section
variable {P : Program} {M : Mem} {e : RR} {H : List AB} {w : World} {ty : TypeId}
/-- Behind a nil slice. -/
theorem app_late {t t2 : TypeId} {y v : AV} {Hm Hn : List AB} {cx cy : Value} (h : HR M e H w) (hseq : seqTy P t2 = true) (hm : (appT P Hm t t2 .nils y).run = some (v, Hn)) (hkm : keepsB H Hm) (hx : VR M e .nils cx) (hy : VR M e y cy) :
    ∃ c w' x, (Builtin.append_ #[t, t2] ty #[cx, cy]).run P w = .ok c w' ∧ Tr M e H w M e H w' ∧ (∀ a ob, x = some (a, ob) → Pend w.heap.size M e H w' a ob) ∧
      ∀ n M' e' H' w2 v' H2, HR M' e' H' w2 → Mle M M' → e.le e' → (∀ a ob, x = some (a, ob) → Pend n M' e' H' w2 a ob) → keepsB H H' → (appT P H' t t2 .nils y).run = some (v', H2) →
        ∃ e2, HR M' e2 H2 w2 ∧ e'.le e2 ∧ (∀ i, foot e2 H2 i → foot e' H' i ∨ ∃ ob, x = some (i, ob)) ∧ VR M' e2 v' c := by
  unfold seqTy at hseq
  split at hseq
  case h_2 => cases hseq
  rename_i t2i hT2
  obtain ⟨inf2, d2, hty2⟩ := mkT_some hT2
  have hd2 : d2 = .string ∨ ∃ z, d2 = .slice z := by
    have hk := hty2.kd
    cases hkd : t2i.kd with
    | slc z => exact .inr ⟨z, kdOf_slc (by rw [← hk, hkd])⟩
    | str => exact .inl (kdOf_str (by rw [← hk, hkd]))
    | _ => rw [hkd] at hseq; cases hseq
  unfold appT at hm
  rw [hT2] at hm
  simp only [hseq] at hm
  split at hm
  · exact (run_no hm).elim
  rename_i ti hT
  obtain ⟨inf, d, hty⟩ := mkT_some hT
  split at hm
  case h_2 => exact (run_no hm).elim
  rename_i el hk
  have hd := kdOf_slc (hty.kd ▸ hk)
  subst hd
  split at hm
  · exact (run_no hm).elim
  rename_i ei hE
  obtain ⟨infe, de, htye⟩ := mkT_some hE
  split at hm
  · exact (run_no hm).elim
  rename_i hc0
  have hc0' := hc0
  rw [Bool.and_eq_true] at hc0
  obtain ⟨hpos, hzs⟩ := hc0
  have hpos := of_decide_eq_true hpos
  obtain ⟨z, hz, hzsize⟩ := zero_of htye hzs
  split at hm
  case h_2 => exact (run_no hm).elim
  rename_i c hcd
  split at hm
  case h_2 => exact (run_no hm).elim
  rename_i ys hys
  rw [srcT_keeps h hkm hy] at hys
  split at hm
  case h_2 => exact (run_no hm).elim
  rename_i hs
  have hs' := hs
  have hs := of_decide_eq_true hs
  rcases run_ite hm with ⟨hroom, hm⟩ | ⟨_, hm⟩
  case inr => exact (run_no hm).elim
  have key : ∀ H', keepsB H H' → appT P H' t t2 .nils y = .ite (roomB 0 ys.length ei.bytes) (.ret (.slc H'.length 0, H' ++ [.arr false 0 c ys])) .no := by
    intro H' hk'
    have hys' : srcT H' y c = some ys := (srcT_keeps h hk' hy c).trans hys
    unfold appT
    simp only [hT2, hseq, hT, hk, hE, hc0', hcd, hys', hs']
  have fin : ∀ {H' : List AB} {v' : AV} {H2 : List AB}, keepsB H H' → (appT P H' t t2 .nils y).run = some (v', H2) → v' = .slc H'.length 0 ∧ H2 = H' ++ [.arr false 0 c ys] := by
    intro H' v' H2 hk' hr
    rw [key H' hk', hroom] at hr
    have := run_ret (show (DT.ret (AV.slc H'.length 0, H' ++ [AB.arr false 0 c ys])).run = some (v', H2) from hr)
    obtain ⟨h1, h2⟩ := Prod.mk.inj this
    exact ⟨h1.symm, h2.symm⟩
  cases hx with
  | @nils _ a =>
    obtain ⟨hlen, hn⟩ := src_sound (P := P) h hys hy
    by_cases hy0 : ys = []
    · subst hy0
      obtain ⟨new, hn1, hn2, hn3⟩ := hn 0 (Nat.zero_le _)
      have hnew0 : new = #[] := by simpa using hn2
      refine ⟨_, w, none, append_room (new := new) hty.und hty2.und hd2 htye hlen (by rw [← hs]; exact hn1 w (fun _ _ => rfl)) (by simp) (fun x _ => by rw [hnew0]; simp [storeCells]) (fun _ => rfl), Tr.refl h, (fun _ _ h => by cases h), ?_⟩
      intro n M' e' H' w2 v' H2 h' hM hle _ hk' hr
      obtain ⟨rfl, rfl⟩ := fin hk' hr
      have hT := Tr.pushNil h' (sizeC_pos c)
      refine ⟨_, hT.hr, hT.rle, fun i hi => .inl ?_, nil_pushG h'⟩
      obtain ⟨b, x, hb, hc⟩ := hi
      rcases getElem?_snoc hb with ⟨hlt, hb⟩ | ⟨rfl, rfl⟩
      · obtain ⟨q1, q2, _⟩ := RR.same_pushG (e := e') (x := none) (n := 0) (k := b) (by rw [h'.N]; exact hlt)
        exact ⟨b, x, hb, by rwa [cid_other q1 q2] at hc⟩
      · simp [cid, RR.pushG, RR.setG, h'.N] at hc
    · have hyl : 0 < ys.length := List.length_pos_iff.2 hy0
      obtain ⟨hb1, hb2⟩ := of_decide_eq_true hroom
      have hseen : Seen M w a c ([] : List (τ c)) := fun hne => absurd rfl hne
      obtain ⟨old, ho1, ho2, ho3⟩ := hseen.read (P := P) 0
      obtain ⟨new, hn1, hn2, hn3⟩ := hn ys.length (Nat.le_refl _)
      rw [List.take_length] at hn3
      obtain ⟨cc, hcc, hrun⟩ := append_new (ty := ty) (z := z) hty.und hty2.und hd2 htye hz hlen (n := 0) (cap := 0) (a := a) (old := old) (new := new) (by rw [← hs]; exact ho1) (by rw [← hs]; exact hn1) (by omega) hb1 hb2
      have harr : (old ++ new ++ Builtin.zeroCells z.cells (cc - (0 + ys.length))).size = cc * sizeC c := by
        simp only [Array.size_append, ho2, hn2, Builtin.zeroCells, Array.size_map, Array.size_range, hzsize, hs, ← Nat.add_mul, List.length_nil]
        congr 1
        omega
      have hh : Holds M c ys (fun o => (old ++ new ++ Builtin.zeroCells z.cells (cc - (0 + ys.length)))[o]?) := by
        intro i j q r hq hr
        obtain ⟨u, hu, hv⟩ := (ho3.app ho2 hn3) i j q r (by simpa using hq) hr
        have hlt : i * sizeC c + j < (old ++ new).size := (Array.getElem?_eq_some_iff.1 hu).1
        refine ⟨u, ?_, hv⟩
        simp only
        rw [Array.getElem?_append_left hlt]
        exact hu
      simp only [Nat.zero_add] at hcc hrun harr hh
      have hT2' := Tr.drew h
      refine ⟨_, _, some (w.heap.size, .cells (old ++ new ++ Builtin.zeroCells z.cells (cc - ys.length)) el (0, 0)), hrun, hT2'.trans (Tr.garbage hT2'.hr _), fun a' ob hq => ?_, ?_⟩
      · obtain ⟨rfl, rfl⟩ := Prod.mk.inj (Option.some.inj hq)
        exact Pend.alloc hT2'.hr _
      · intro n M' e' H' w2 v' H2 h' hM hle hp hk' hr
        obtain ⟨rfl, rfl⟩ := fin hk' hr
        have hp' := hp _ _ rfl
        obtain ⟨q1, q2⟩ := arr_late (c := c) (l := ys) h' hp' (.inl rfl) (sizeC_pos c) hcc harr (hh.mono hM)
        refine ⟨_, q1, RR.le_pushG _ _ _, fun i hi => ?_, slc_pushG h'⟩
        rcases q2 i hi with h1 | rfl
        · exact .inl h1
        · exact .inr ⟨_, rfl⟩
end
/-- A slice literal of data. -/
theorem buildSlice_late {P : Program} {M : Mem} {e : RR} {H : List AB} {w : World} {t : TypeId} {n : Nat} {vs : List (Nat × AV)} {v : AV} {Hm Hn : List AB} (h : HR M e H w) (hda : dataSl P t = true) (hne : vs ≠ []) (hm : (buildSliceT P Hm t n vs).run = some (v, Hn)) {cps : List (Nat × Value)} (hl : vs.length = cps.length)
    (hp : ∀ (k : Nat) (p : Nat × AV) (c : Nat × Value), vs[k]? = some p → cps[k]? = some c → p.1 = c.1 ∧ VR M e p.2 c.2 ∧ ones p.2.cells) :
    ∃ c w' x, (Instr.buildSlice t n cps.toArray).run P w = .ok c w' ∧ Tr M e H w M e H w' ∧ (∀ a ob, x = some (a, ob) → Pend w.heap.size M e H w' a ob) ∧
      ∀ n' M' e' H' w2 v' H2, HR M' e' H' w2 → Mle M M' → (∀ a ob, x = some (a, ob) → Pend n' M' e' H' w2 a ob) → (buildSliceT P H' t n vs).run = some (v', H2) →
        ∃ e2, HR M' e2 H2 w2 ∧ e'.le e2 ∧ (∀ i, foot e2 H2 i → foot e' H' i ∨ ∃ ob, x = some (i, ob)) ∧ VR M' e2 v' c := by
  unfold dataSl at hda
  unfold buildSliceT at hm
  split at hm
  · exact (run_no hm).elim
  rename_i ti hT
  rw [hT] at hda
  simp only at hda
  split at hm
  case h_2 => exact (run_no hm).elim
  rename_i el hk
  rw [hk] at hda
  simp only at hda
  split at hm
  · exact (run_no hm).elim
  rename_i ei hE
  split at hm
  · exact (run_no hm).elim
  rename_i hc
  have hc' := hc
  rw [Bool.and_eq_true] at hc
  obtain ⟨hc, hz0⟩ := hc
  obtain ⟨rfl, hlim, hpos⟩ := of_decide_eq_true hc
  split at hm
  · exact absurd rfl hne
  split at hm
  case h_2 => rename_i hn; rw [hn] at hda; cases hda
  rename_i c hcd
  split at hm
  case h_2 => exact (run_no hm).elim
  rename_i hs
  have hs' := hs
  have hs := of_decide_eq_true hs
  split at hm
  case h_2 => exact (run_no hm).elim
  rename_i l hdl
  have fin : ∀ {H' : List AB} {v' : AV} {H2 : List AB}, (buildSliceT P H' t vs.length vs).run = some (v', H2) → v' = .slc H'.length 0 ∧ H2 = H' ++ [.arr false 0 c l] := by
    intro H' v' H2 hr
    unfold buildSliceT at hr
    simp only [hT, hk, hE] at hr
    cases vs with
    | nil => exact absurd rfl hne
    | cons p r =>
      have hc2 := hc'
      simp only [eq_self] at hc2
      rw [hc2] at hr
      simp only [hcd, hs', hdl] at hr
      obtain ⟨h1, h2⟩ := Prod.mk.inj (run_ret hr)
      exact ⟨h1.symm, h2.symm⟩
  obtain ⟨hll, hlg⟩ := decAll_sound hdl
  have hat : ∀ (k : Nat) (q : Nat × Value), cps[k]? = some q → ∃ a, l[k]? = some a ∧ q.1 = 0 + k ∧ q.2.cells.size = sizeC c ∧ ∀ (j : Nat) (z : AV), (cellsC c a)[j]? = some z → ∃ x, q.2.cells[j]? = some x ∧ VR M RR.nul z x := by
    intro k q hq
    have hk' : k < l.length := by rw [hll, hl]; exact (List.getElem?_eq_some_iff.1 hq).1
    obtain ⟨u, h1, h2⟩ := hlg k l[k] (List.getElem?_eq_getElem hk')
    obtain ⟨h3, h4, _⟩ := hp k _ q h1 hq
    obtain ⟨h5, h6⟩ := dec_cells h2 h4
    exact ⟨_, List.getElem?_eq_getElem hk', h3.symm, h5, h6⟩
  obtain ⟨C, hrun, hCs, hCg⟩ := buildSlice_run (P := P) (w := w) hT hk hE hz0 hpos (by rw [← hl]; exact hlim) fun k q hq => by
    obtain ⟨a, _, h1, h2, _⟩ := hat k q hq
    exact ⟨h1, by rw [h2, hs]⟩
  rw [← hl] at hrun hCs
  have hh : Holds M c l (fun o => C[o]?) := by
    intro i j y z hy hz
    obtain ⟨hi, hj, _⟩ := place_lt hy hz
    have hic : i < cps.length := by omega
    obtain ⟨a, h1, _, _, h4⟩ := hat i _ (List.getElem?_eq_getElem hic)
    rw [List.getElem?_map, h1] at hy
    obtain rfl := Option.some.inj hy
    rw [inj_cells] at hz
    obtain ⟨x, hx, hv⟩ := h4 j z hz
    refine ⟨x, ?_, hv⟩
    simp only
    rw [hs, hCg i j _ (List.getElem?_eq_getElem hic) (by omega)]
    exact hx
  refine ⟨_, _, some (w.heap.size, .cells C el (0, 0)), hrun, Tr.garbage h _, fun a' ob hq => ?_, ?_⟩
  · obtain ⟨rfl, rfl⟩ := Prod.mk.inj (Option.some.inj hq)
    exact Pend.alloc h _
  · intro n' M' e' H' w2 v' H2 h' hM hpd hr
    obtain ⟨rfl, rfl⟩ := fin hr
    obtain ⟨q1, q2⟩ := arr_late (c := c) (l := l) (cc := vs.length) h' (hpd _ _ rfl) (.inl rfl) (sizeC_pos c) (by rw [hll]; exact Nat.le_refl _) (by rw [hCs, hs]) (hh.mono hM)
    refine ⟨_, q1, RR.le_pushG _ _ _, fun i hi => ?_, ?_⟩
    · rcases q2 i hi with h1 | rfl
      · exact .inl h1
      · exact .inr ⟨_, rfl⟩
    · have := slc_pushG (e := e') (n := l.length) (cc := vs.length) (g := w.heap.size) h'
      rw [hll] at this ⊢
      exact this
section
variable {P : Program} {M : Mem} {e : RR} {H : List AB} {w : World} {env : Env} {a : Act}
/-- A maker that is carried out early. -/
theorem late_run {o : Oper} (hl : isLate P o.op = true) (h : HR M e H w) (hE : EnvR M e env a.tmps) {Hm : List AB} {v : AV} {Hn : List AB} (hm : (opT P env Hm o.op).run = some (v, Hn)) (hkm : isApp o.op = true → keepsB H Hm ∧ keepsT env o.op = true) :
    ∃ c w' x, (execOp a.eval o).run P w = .ok (.value c) w' ∧ Tr M e H w M e H w' ∧ (∀ b ob, x = some (b, ob) → Pend w.heap.size M e H w' b ob) ∧ Prom P o.op x env H M e c := by
  cases hop : o.op with
  | alloc t =>
    rw [hop] at hm
    simp only [opT] at hm
    split at hm
    case h_2 => exact (run_no hm).elim
    rename_i z hz
    obtain ⟨c, hc, hv⟩ := zero_sound (M := M) (e := e) (w := w) hz
    refine ⟨.pointer (some ⟨w.heap.size, 0, none⟩), w.alloc (.cells c.cells t), some (w.heap.size, .cells c.cells t (0, 0)), by simp [execOp, hop, Instr.alloc, hc, newVar, newRow], Tr.garbage h _, fun b ob hq => ?_, ?_⟩
    · obtain ⟨rfl, rfl⟩ := Prod.mk.inj (Option.some.inj hq)
      exact Pend.alloc h _
    · intro n M' e' H' w2 env' v' H2 h' hM hle hp _ _ hr
      simp only [opT, hz] at hr
      obtain ⟨e2, q1, q2, q3, q4⟩ := newVar_late h' (hp _ _ rfl) hr (hv.mono hM hle)
      exact ⟨e2, q1, q2, fun i hi => (q3 i hi).imp id fun (hi' : i = w.heap.size) => ⟨_, congrArg (fun k => some (k, _)) hi'.symm⟩, q4⟩
  | box t x =>
    rw [hop] at hm
    simp only [opT] at hm
    split at hm
    case h_2 => exact (run_no hm).elim
    rename_i z hz
    have hv := opd_sound hE hz
    refine ⟨.pointer (some ⟨w.heap.size, 0, none⟩), w.alloc (.cells (a.eval x).cells t), some (w.heap.size, .cells (a.eval x).cells t (0, 0)), by simp [execOp, hop, Instr.box, newVar, newRow], Tr.garbage h _, fun b ob hq => ?_, ?_⟩
    · obtain ⟨rfl, rfl⟩ := Prod.mk.inj (Option.some.inj hq)
      exact Pend.alloc h _
    · intro n M' e' H' w2 env' v' H2 h' hM hle hp hag _ hr
      have hz' : opd env' x = some z := (opd_congr fun t' ht => hag t' (by simp [Op.operands, ht])).trans hz
      simp only [opT, hz'] at hr
      obtain ⟨e2, q1, q2, q3, q4⟩ := newVar_late h' (hp _ _ rfl) hr (hv.mono hM hle)
      exact ⟨e2, q1, q2, fun i hi => (q3 i hi).imp id fun (hi' : i = w.heap.size) => ⟨_, congrArg (fun k => some (k, _)) hi'.symm⟩, q4⟩
  | buildSlice t n ps =>
    rw [hop] at hm hl
    simp only [isLate, Bool.and_eq_true, Bool.not_eq_true', decide_eq_false_iff_not] at hl
    simp only [opT] at hm
    split at hm
    case h_2 => exact (run_no hm).elim
    rename_i vs hvs
    obtain ⟨hlen, hpp⟩ := opdP_sound hE hvs
    have hne : vs ≠ [] := by
      intro hq
      rw [hq] at hlen
      apply hl.1
      simp at hlen
      rw [← Array.length_toList]
      simpa using hlen.symm
    obtain ⟨c, w', x, h1, h2, h3, h4⟩ := buildSlice_late (P := P) h hl.2 hne hm hlen (fun k p c h1 h2 => hpp k p c h1 h2)
    refine ⟨c, w', x, ?_, h2, h3, ?_⟩
    · have he : (execOp a.eval o).run P w = ((do pure (Next.value (← Instr.buildSlice t n ((ps.toList.map fun x => (x.1, a.eval x.2)).toArray))) : Sem Next)).run P w := by
        simp only [execOp, hop]
        congr 3
        rw [← Array.toList_inj]
        simp
      rw [he]
      simp [h1]
    · intro n' M' e' H' w2 env' v' H2 h' hM hle hpd hag _ hr
      have hvs' : opdP env' ps.toList = some vs := (opdP_congr fun t' ht => hag t' (by simpa [Op.operands] using ht)).trans hvs
      simp only [opT, hvs'] at hr
      exact h4 n' M' e' H' w2 v' H2 h' hM hpd hr
  | call cl =>
    obtain ⟨callee, args, ts⟩ := cl
    rw [hop] at hl hm hkm
    cases callee with
    | builtin b =>
      cases b <;> simp [isLate] at hl
      split at hl
      case h_2 => cases hl
      rename_i t t2 hts
      obtain ⟨hkH, hkT⟩ := hkm rfl
      simp only [opT] at hm
      split at hm
      case h_2 => exact (run_no hm).elim
      rename_i vs hvs
      unfold builtinT at hm
      split at hm <;> first | exact (run_no hm).elim | (simp_all; done) | skip
      rename_i t' t2' x y hb hts'
      rw [hts] at hts'
      simp only [List.cons.injEq, and_true] at hts'
      obtain ⟨rfl, rfl⟩ := hts'
      have hcr := opdL_sound hE hvs
      have hx : x = .nils := by
        simp only [keepsT] at hkT
        cases hla : args.toList with
        | nil => rw [hla] at hvs; simp [opdL] at hvs
        | cons q r =>
          rw [hla, opdL] at hvs
          rw [hla] at hkT
          simp only at hkT
          split at hkT
          · rename_i hq
            rw [hq] at hvs
            simp only at hvs
            split at hvs
            · obtain ⟨rfl, _⟩ := List.cons.inj (Option.some.inj hvs)
              rfl
            · exact absurd hvs (by simp)
          · cases hkT
      subst hx
      obtain ⟨cx, cy, hcs, hxv, hyv⟩ := CR.two hcr
      obtain ⟨c, w', x, h1, h2, h3, h4⟩ := app_late (ty := o.type) h hl hm hkH hxv hyv
      have hargs : args.map a.eval = #[cx, cy] := by rw [← Array.toList_inj]; simpa using hcs
      have hts2 : ts = #[t, t2] := by rw [← Array.toList_inj]; simpa using hts
      refine ⟨c, w', x, ?_, h2, h3, ?_⟩
      · simp only [execOp, hop, resolve, Sem.run_pure, hargs, hts2]
        simp only [Sem.run_bind, Sem.run_pure, Result.andThen_ok, invoke]
        show ((do pure (Next.value (← Builtin.append_ #[t, t2] o.type #[cx, cy])) : Sem Next).run P w) = _
        simp [h1]
      · intro n M' e' H' w2 env' v' H2 h' hM hle hp hag hk' hr
        have hvs' : opdL env' args.toList = some [.nils, y] := (opdL_congr fun t' ht => hag t' (by simpa [Op.operands, Call.operands] using ht)).trans hvs
        simp only [opT, hvs', builtinT, hts] at hr
        exact h4 n M' e' H' w2 v' H2 h' hM hle hp (hk' rfl) hr
    | _ => simp [isLate] at hl
  | _ => rw [hop] at hl; simp [isLate] at hl
end
end Go.Sm
/- A region whose order is open: by whatever order, the same. No condition. -/
set_option linter.unusedVariables false
set_option linter.unusedSimpArgs false
set_option linter.unusedSectionVars false
namespace Go.Sm

/-- A state that some world bears. -/
def Real (nt : Nat) (st : St) : Prop := ∃ M e w a, HR M e st.H w ∧ EnvR M e st.env (a : Act).tmps ∧ a.tmps.size = nt
theorem Real.ptrs {nt : Nat} {st : St} (h : Real nt st) {x : Operand} {v : AV} (hx : opd st.env x = some v) : ∀ b ∈ v.ptrs, b < st.H.length := by
  obtain ⟨M, e, w, a, hr, hE, _⟩ := h
  intro b hb
  rw [← hr.N]
  exact (opd_sound hE hx).ptrs_lt b hb
def oneD (mix : Bool → Option Tmp → Bool) (P : Program) (cal : CalT) (ops : List Oper) (o : Oper) (st : St) : Option St :=
  match oneA P cal ops o st with
  | some (k, st') => if (mix false o.dst = true ∧ isSoft P o.op = true ∧ k = false) ∨ ldOk mix o st.env = false then none else some st'
  | none => none
def opsD (mix : Bool → Option Tmp → Bool) (P : Program) (cal : CalT) (ops : List Oper) : List Oper → St → Option St
  | [], st => some st
  | o :: r, st => match oneD mix P cal ops o st with
    | some st' => opsD mix P cal ops r st'
    | none => none
theorem oneD_some {mix : Bool → Option Tmp → Bool} {P : Program} {cal : CalT} {ops : List Oper} {o : Oper} {s s' : St} (h : oneD mix P cal ops o s = some s') : ∃ k, oneA P cal ops o s = some (k, s') ∧ ¬ (mix false o.dst = true ∧ isSoft P o.op = true ∧ k = false) ∧ ldOk mix o s.env = true := by
  unfold oneD at h
  split at h
  · rename_i k s1 hs1
    split at h
    · exact absurd h (by simp)
    · rename_i hn
      obtain rfl := Option.some.inj h
      refine ⟨k, hs1, fun hh => hn (.inl hh), ?_⟩
      cases hq : ldOk mix o s.env with
      | true => rfl
      | false => exact absurd (.inr hq) hn
  · exact absurd h (by simp)
theorem one_open {mix : Bool → Option Tmp → Bool} {P : Program} {cal : CalT} {ops : List Oper} {o : Oper} {s s' : St} (h : oneD mix P cal ops o s = some s') : ∃ v H' k, actA P cal ops o s = some (v, H', k) ∧ s' = St.put { s with H := H' } o.dst v ∧ ¬ (mix false o.dst = true ∧ isSoft P o.op = true ∧ k = false) ∧ ldOk mix o s.env = true := by
  obtain ⟨k, h1, h2⟩ := oneD_some h
  unfold oneA at h1
  split at h1
  · rename_i v H' k' hact
    obtain ⟨rfl, rfl⟩ := Prod.mk.inj (Option.some.inj h1)
    exact ⟨v, H', _, hact, rfl, h2⟩
  · exact absurd h1 (by simp)
theorem one_shut {mix : Bool → Option Tmp → Bool} {P : Program} {cal : CalT} {ops : List Oper} {o : Oper} {s : St} {v : AV} {H' : List AB} {k : Bool} (h : actA P cal ops o s = some (v, H', k)) (hk : ¬ (mix false o.dst = true ∧ isSoft P o.op = true ∧ k = false) ∧ ldOk mix o s.env = true) :
    oneD mix P cal ops o s = some (St.put { s with H := H' } o.dst v) := by
  unfold oneD oneA
  rw [h]
  simp only
  rw [if_neg (fun hh => hh.elim hk.1 (fun h2 => by rw [hk.2] at h2; cases h2))]
theorem ldOk_congr {mix : Bool → Option Tmp → Bool} {ops : List Oper} {o : Oper} {env env' : Env} (h : ∀ t ∈ looks ops o, env' t = env t) : ldOk mix o env' = ldOk mix o env := by
  unfold ldOk
  cases hop : o.op with
  | load t x =>
    have : opd env' x = opd env x := opd_congr fun t' ht => h t' (looks_mem (by rw [hop]; simp [Op.operands, ht]))
    simp only [this]
  | _ => rfl
/-- Where something is appended variables stay as they are. -/
theorem app_cells {P : Program} {env : Env} {H H' : List AB} {op : Op} (ha : isApp op = true) {v : AV} (h : (opT P env H op).run = some (v, H')) (b : Nat) (cs : List AV) : H'[b]? = some (.cells cs) ↔ H[b]? = some (.cells cs) := by
  have push : ∀ {c : Cd} {l : List (τ c)}, (H ++ [AB.arr false 0 c l])[b]? = some (.cells cs) ↔ H[b]? = some (.cells cs) := by
    intro c l
    constructor
    · intro hq
      rcases getElem?_snoc hq with ⟨_, hq⟩ | ⟨_, hq⟩
      · exact hq
      · cases hq
    · intro hq
      exact keepsB.app _ _ b _ hq
  have set : ∀ {k n n' : Nat} {c c' : Cd} {l : List (τ c)} {l' : List (τ c')}, H[k]? = some (.arr false n c l) → ((H.set k (AB.arr false n' c' l'))[b]? = some (.cells cs) ↔ H[b]? = some (.cells cs)) := by
    intro k n n' c c' l l' hk
    by_cases hb : b = k
    · subst hb
      have hlt := (List.getElem?_eq_some_iff.1 hk).1
      rw [List.getElem?_set_self hlt, hk]
      constructor <;> intro hq <;> cases hq
    · rw [List.getElem?_set_ne (fun he => hb he.symm)]
  cases op with
  | call cl =>
    obtain ⟨callee, args, ts⟩ := cl
    cases callee with
    | builtin bi =>
      cases bi <;> simp [isApp] at ha
      simp only [opT] at h
      split at h
      · rename_i vs hvs
        unfold builtinT at h
        split at h <;> first | exact (run_no h).elim | (simp_all; done) | skip
        unfold appT appZT at h
        (repeat' split at h) <;> first
          | exact (run_no h).elim
          | contradiction
          | (rcases run_ite h with ⟨_, h⟩ | ⟨_, h⟩
             · obtain ⟨rfl, rfl⟩ := Prod.mk.inj (run_ret h); first | exact push | (apply set; assumption)
             · exact (run_no h).elim)
      · exact (run_no h).elim
    | _ => simp [isApp] at ha
  | _ => simp [isApp] at ha
theorem soft_cls {P : Program} {op : Op} (h : isSoft P op = true) : clsOf P op = .soft := by
  unfold isSoft at h
  split at h
  · assumption
  · cases h

section
variable {P : Program} {cal : CalT} (hcal : ∀ f p, cal f = some p → SoundT P f p.2)
include hcal
/-- A soft operation that says so leaves all blocks as they are. -/
theorem act_keeps {ops : List Oper} {o : Oper} {s : St} (hs : isSoft P o.op = true) {v : AV} {H' : List AB} (h : actA P cal ops o s = some (v, H', true)) : keepsB s.H H' := by
  unfold actA at h
  split at h
  · exact absurd h (by simp)
  · rename_i b hw
    split at h
    · by_cases hc : ∃ f args ts, o.op = .call ⟨.value f, args, ts⟩
      · obtain ⟨f, args, ts, hop⟩ := hc
        rw [hop] at h
        unfold stepA stepT at h
        simp only at h
        split at h
        · obtain ⟨r, H1, k, hS, hr, hk⟩ := callT_sound hcal h
          have := run_ret hr
          simp only [Prod.mk.injEq] at this
          obtain ⟨rfl, rfl, rfl⟩ := this
          exact hk rfl
        · exact (run_no h).elim
      · have hn : ∀ f args ts, o.op ≠ .call ⟨.value f, args, ts⟩ := fun f args ts hop => hc ⟨f, args, ts, hop⟩
        obtain ⟨h1, h2⟩ := (stepA_opT hn).1 h
        exact keepsT_sound hs h2.symm h1
    · simp only [Option.some.injEq, Prod.mk.injEq] at h
      obtain ⟨rfl, rfl, _⟩ := h
      exact keepsB.refl _
theorem Real.step {nt : Nat} {ops : Array Oper} {o : Oper} {st st' : St} (h : Real nt st) (hd : ∀ d, o.dst = some d → d < nt) {kk : Bool} (hone : oneA P cal ops.toList o st = some (kk, st')) : Real nt st' := by
  obtain ⟨M, e, w, a, hr, hE, hsz⟩ := h
  have key := oneA_sound hcal hone hr hE (fun d hd' => by rw [hsz]; exact hd d hd') (K := fun a' w' => ∃ M' e', HR M' e' st'.H w' ∧ EnvR M' e' st'.env a'.tmps ∧ a'.tmps.size = nt) (Q := fun _ _ _ => False)
    fun a' M' e' w' hT hE' hs _ => ⟨M', e', hT.hr, hE', hs.trans hsz⟩
  have hex : ∃ a' w', ∃ M' e', HR M' e' st'.H w' ∧ EnvR M' e' st'.env (a' : Act).tmps ∧ a'.tmps.size = nt := by
    split at key
    · unfold Oper.wp at key
      generalize (execOp a.eval o).run P w = r at key
      cases r with
      | halt x w' => cases x <;> simp [Oper.upon] at key
      | ok n w' =>
        cases n <;> simp only [Oper.upon] at key
        case value => exact ⟨_, _, key⟩
        case skip => exact ⟨_, _, key⟩
        case defer => exact ⟨_, _, key⟩
        case enter =>
          obtain ⟨en, w'', fr, hR, _⟩ := key []
          cases en with
          | returned v => exact ⟨_, _, hR⟩
          | panicked c => exact hR.elim
          | outgrown => obtain ⟨_, _, h⟩ := hR; exact h.elim
        case row =>
          obtain ⟨v, w'', hR, _⟩ := key default []
          exact ⟨_, _, hR⟩
        all_goals exact key.elim
    · exact ⟨_, _, key⟩
  obtain ⟨a', w', M', e', h1, h2, h3⟩ := hex
  exact ⟨M', e', w', a', h1, h2, h3⟩


omit hcal in
theorem act_load {ops : List Oper} {o : Oper} {t : TypeId} {x : Operand} (hop : o.op = .load t x) {env : Env} {H H' H2 : List AB} {v : AV} {k : Bool} {b p : Nat} (hx : opd env x = some (.ptr b p)) (h : actA P cal ops o ⟨env, H⟩ = some (v, H', k)) (hc : ∀ cs, H[b]? = some (.cells cs) → H2[b]? = some (.cells cs)) :
    H' = H ∧ actA P cal ops o ⟨env, H2⟩ = some (v, H2, k) := by
  unfold actA at h ⊢
  cases hw : wants ops env o with
  | none => simp [hw] at h
  | some bb =>
    simp only [hw] at h ⊢
    cases bb
    · simp only [Bool.false_eq_true, if_false, Option.some.injEq, Prod.mk.injEq] at h
      obtain ⟨rfl, rfl, rfl⟩ := h
      exact ⟨rfl, by simp⟩
    · simp only [if_true] at h ⊢
      have hn : ∀ f args ts, o.op ≠ .call ⟨.value f, args, ts⟩ := by rw [hop]; intro _ _ _ hh; cases hh
      obtain ⟨h1, rfl⟩ := (stepA_opT hn).1 h
      rw [hop] at h1
      simp only [opT, hx] at h1
      obtain ⟨h2, rfl⟩ := at1_run h1
      refine ⟨rfl, (stepA_opT hn).2 ⟨?_, rfl⟩⟩
      rw [hop]
      simp only [opT, hx]
      refine run_bind (a := v) ?_ rfl
      unfold loadT at h2 ⊢
      split at h2
      · exact (run_no h2).elim
      · simp only at h2 ⊢
        split at h2
        · rename_i cs hcs
          rw [hc cs hcs]
          exact h2
        · exact (run_no h2).elim
omit hcal in
/-- Where something is appended variables stay as they are, whether it is carried out or not. -/
theorem act_cells {ops : List Oper} {o : Oper} (ha : isApp o.op = true) {env : Env} {H H' : List AB} {v : AV} {k : Bool} (h : actA P cal ops o ⟨env, H⟩ = some (v, H', k)) (b : Nat) (cs : List AV) : H'[b]? = some (.cells cs) ↔ H[b]? = some (.cells cs) := by
  unfold actA at h
  split at h
  · cases h
  · split at h
    · have hn : ∀ f args ts, o.op ≠ .call ⟨.value f, args, ts⟩ := by
        intro f args ts hop
        rw [hop] at ha
        simp [isApp] at ha
      exact app_cells ha ((stepA_opT hn).1 h).1 b cs
    · simp only [Option.some.injEq, Prod.mk.injEq] at h
      obtain ⟨_, rfl, _⟩ := h
      exact Iff.rfl
/-- A load of a variable, and something is appended. -/
def LdApp (mix : Bool → Option Tmp → Bool) (r s : Oper) : Prop := isApp s.op = true ∧ (∃ t x, r.op = .load t x) ∧ mix true r.dst = true
def Apart (mix : Bool → Option Tmp → Bool) (P : Program) (a b : Oper) : Prop := effApart P a.op b.op = true ∧ ((clsOf P a.op = .read ∧ clsOf P b.op = .soft → mix false b.dst = true ∨ LdApp mix a b) ∧ (clsOf P a.op = .soft ∧ clsOf P b.op = .read → mix false a.dst = true ∨ LdApp mix b a))
/-- Two operations that may change places. -/
theorem swap {mix : Bool → Option Tmp → Bool} {nt : Nat} {ops : Array Oper} {x y : Oper} {st st1 st2 : St} (hR : Real nt st) (hs : slotsApart ops.toList x y = true) (he : Apart mix P x y)
    (h1 : oneD mix P cal ops.toList x st = some st1) (h2 : oneD mix P cal ops.toList y st1 = some st2) : ∃ st1', oneD mix P cal ops.toList y st = some st1' ∧ oneD mix P cal ops.toList x st1' = some st2 := by
  obtain ⟨ha, hb, hc⟩ := slotsApart_spec hs
  obtain ⟨v, H1, kx, hx, rfl, hxs, hxl⟩ := one_open h1
  obtain ⟨u, H2, ky, hy, rfl, hys, hyl⟩ := one_open h2
  have hyl : ldOk mix y st.env = true := by
    rw [← hyl]
    exact ldOk_congr (ops := ops.toList) fun t ht => (put_env (st := { st with H := H1 }) (fun hd => ha t hd ht)).symm
  -- y looks at nothing that x puts, and the other way round
  have hy0 : actA P cal ops.toList y ⟨st.env, H1⟩ = some (u, H2, ky) := by
    rw [← hy]
    have : St.put { st with H := H1 } x.dst v = ⟨(St.put { st with H := H1 } x.dst v).env, H1⟩ := by
      have := put_H (st := { st with H := H1 }) (d := x.dst) (v := v)
      cases hq : St.put { st with H := H1 } x.dst v with
      | mk en hh => rw [hq] at this; simp at this; subst this; rfl
    rw [this]
    refine (actA_congr fun t ht => ?_).symm
    exact put_env (fun hd => ha t hd ht)
  -- in which small heap each comes to the same
  have core : ∃ HA, actA P cal ops.toList y st = some (u, HA, ky) ∧ actA P cal ops.toList x ⟨st.env, HA⟩ = some (v, H2, kx) := by
    obtain ⟨he1, he2⟩ := he
    have hcases : clsOf P x.op = .still ∨ clsOf P y.op = .still ∨ (clsOf P x.op = .read ∧ clsOf P y.op = .read) ∨ (clsOf P x.op = .read ∧ clsOf P y.op = .soft) ∨ (clsOf P x.op = .soft ∧ clsOf P y.op = .read) := by
      unfold effApart at he1
      split at he1 <;> first
        | (rename_i q1; exact .inl q1)
        | (rename_i q1 _; exact .inl q1)
        | (cases he1; done)
        | skip
      all_goals simp_all
    rcases hcases with h | h | ⟨h, h'⟩ | ⟨h, h'⟩ | ⟨h, h'⟩
    · obtain ⟨rfl, hx'⟩ := act_still (env := st.env) (H := st.H) h hx
      exact ⟨H2, hy0, hx' H2⟩
    · obtain ⟨rfl, hy'⟩ := act_still h hy0
      exact ⟨st.H, hy' st.H, hx⟩
    · obtain ⟨rfl, _⟩ := act_read (env := st.env) (H := st.H) (H2 := st.H) h hx fun _ _ _ _ _ _ => rfl
      obtain ⟨rfl, _⟩ := act_read (H2 := st.H) h' hy0 fun _ _ _ _ _ _ => rfl
      exact ⟨st.H, hy0, hx⟩
    · rcases he2.1 ⟨h, h'⟩ with hmix | ⟨happ, ⟨t, z, hop⟩, hmt⟩
      case inr =>
        obtain ⟨b, p, hz⟩ : ∃ b p, opd st.env z = some (.ptr b p) := by
          unfold ldOk at hxl
          rw [hop] at hxl
          simp only at hxl
          split at hxl
          · rename_i b p hq; exact ⟨b, p, hq⟩
          · rw [hmt] at hxl; cases hxl
        obtain ⟨rfl, _⟩ := act_load (H2 := st.H) hop hz hx fun cs hq => hq
        obtain ⟨_, hx2⟩ := act_load (H2 := H2) hop hz hx fun cs hq => (act_cells happ hy0 b cs).2 hq
        exact ⟨H2, hy0, hx2⟩
      obtain ⟨rfl, _⟩ := act_read (env := st.env) (H := st.H) (H2 := st.H) h hx fun _ _ _ _ _ _ => rfl
      have hky : ky = true := by
        cases hq : ky with
        | true => rfl
        | false => exact absurd ⟨hmix, by unfold isSoft; rw [h'], hq⟩ hys
      subst hky
      have hkeep := act_keeps hcal (s := ⟨st.env, st.H⟩) (by unfold isSoft; rw [h']) hy0
      obtain ⟨_, hx2⟩ := act_read (env := st.env) (H := st.H) (H2 := H2) h hx fun z q _ hz b hb => by
        have hlt := hR.ptrs hz b hb
        have := hkeep b _ (List.getElem?_eq_getElem hlt)
        rw [this, List.getElem?_eq_getElem hlt]
      exact ⟨H2, hy0, hx2⟩
    · rcases he2.2 ⟨h, h'⟩ with hmix | ⟨happ, ⟨t, z, hop⟩, hmt⟩
      case inr =>
        obtain ⟨b, p, hz⟩ : ∃ b p, opd st.env z = some (.ptr b p) := by
          unfold ldOk at hyl
          rw [hop] at hyl
          simp only at hyl
          split at hyl
          · rename_i b p hq; exact ⟨b, p, hq⟩
          · rw [hmt] at hyl; cases hyl
        obtain ⟨rfl, hy2⟩ := act_load (H2 := st.H) hop hz hy0 fun cs hq => (act_cells happ hx b cs).1 hq
        exact ⟨st.H, hy2, hx⟩
      have hkx : kx = true := by
        cases hq : kx with
        | true => rfl
        | false => exact absurd ⟨hmix, by unfold isSoft; rw [h], hq⟩ hxs
      subst hkx
      have hkeep := act_keeps hcal (s := st) (by unfold isSoft; rw [h]) hx
      obtain ⟨rfl, hy2⟩ := act_read (H2 := st.H) h' hy0 fun z q _ hz b hb => by
        have hlt := hR.ptrs hz b hb
        have := hkeep b _ (List.getElem?_eq_getElem hlt)
        rw [this, List.getElem?_eq_getElem hlt]
      exact ⟨st.H, hy2, hx⟩
  obtain ⟨HA, hy1, hx1⟩ := core
  refine ⟨_, one_shut hy1 ⟨hys, hyl⟩, ?_⟩
  have hx2 : actA P cal ops.toList x (St.put { st with H := HA } y.dst u) = some (v, H2, kx) := by
    rw [← hx1]
    have : St.put { st with H := HA } y.dst u = ⟨(St.put { st with H := HA } y.dst u).env, HA⟩ := by
      have := put_H (st := { st with H := HA }) (d := y.dst) (v := u)
      cases hq : St.put { st with H := HA } y.dst u with
      | mk en hh => rw [hq] at this; simp at this; subst this; rfl
    rw [this]
    exact actA_congr fun t ht => put_env (fun hd => hc t hd ht)
  have hxl2 : ldOk mix x (St.put { st with H := HA } y.dst u).env = true := by
    rw [← hxl]
    exact ldOk_congr (ops := ops.toList) fun t ht => put_env (fun hd => hc t hd ht)
  rw [one_shut hx2 ⟨hxs, hxl2⟩]
  congr 1
  have h3 : ∀ (s : St) (d : Option Tmp) (z : AV) (h h' : List AB), ({ St.put { s with H := h } d z with H := h' } : St) = St.put { s with H := h' } d z := by
    intro s d z h h'
    cases d <;> rfl
  rw [h3, h3]
  exact put_comm (fun d hd hd' => hb d hd' hd)

/-- An operation that may change places with all that stand before it is carried out first. -/
theorem bubble {mix : Bool → Option Tmp → Bool} {nt : Nat} {ops : Array Oper} {i : Oper} : ∀ {l1 l2 : List Oper} {st st' : St}, Real nt st → (∀ o ∈ l1, ∀ d, o.dst = some d → d < nt) → (∀ o ∈ l1, slotsApart ops.toList o i = true ∧ Apart mix P o i) →
    opsD mix P cal ops.toList (l1 ++ i :: l2) st = some st' → ∃ st1, oneD mix P cal ops.toList i st = some st1 ∧ opsD mix P cal ops.toList (l1 ++ l2) st1 = some st'
  | [], l2, st, st', _, _, _, h => by
    simp only [List.nil_append, opsD] at h ⊢
    split at h
    · rename_i st1 h1
      exact ⟨st1, h1, h⟩
    · exact absurd h (by simp)
  | x :: l1, l2, st, st', hR, hd, hap, h => by
    simp only [List.cons_append, opsD] at h
    split at h
    · rename_i st1 h1
      obtain ⟨kk, hone, _, _⟩ := oneD_some h1
      have hR1 := Real.step hcal hR (hd x (by simp)) hone
      obtain ⟨st2, h2, h3⟩ := bubble hR1 (fun o ho => hd o (by simp [ho])) (fun o ho => hap o (by simp [ho])) h
      obtain ⟨st1', h4, h5⟩ := swap hcal hR (hap x (by simp)).1 (hap x (by simp)).2 h1 h2
      refine ⟨st1', h4, ?_⟩
      simp only [List.cons_append, opsD, h5]
      exact h3
    · exact absurd h (by simp)
end
def rem (n : Nat) (listed : Array Bool) : List Nat := (List.range n).filter fun i => !listed.getD i true
theorem range_split {n i : Nat} (h : i < n) : List.range n = List.range i ++ i :: List.range' (i + 1) (n - i - 1) := by
  have h1 : List.range n = List.range' 0 i ++ List.range' (0 + i) (n - i) := by
    rw [List.range_eq_range', List.range'_append_1]
    congr 1
    omega
  rw [h1, List.range_eq_range', Nat.zero_add]
  congr 1
  rw [show n - i = (n - i - 1) + 1 by omega, List.range'_succ]
  simp
theorem rem_split {n i : Nat} {listed : Array Bool} (hs : listed.size = n) (hi : i < n) (hl : listed.getD i true = false) : ∃ l1 l2, rem n listed = l1 ++ i :: l2 ∧ rem n (listed.setIfInBounds i true) = l1 ++ l2 ∧ ∀ k ∈ l1, k < i ∧ listed.getD k true = false := by
  have hset : ∀ k, (listed.setIfInBounds i true).getD k true = if k = i then true else listed.getD k true := by
    intro k
    rw [Array.getD_eq_getD_getElem?, Array.getElem?_setIfInBounds, Array.getD_eq_getD_getElem?]
    by_cases hk : i = k
    · subst hk; simp [hs, hi]
    · simp [hk, Ne.symm hk]
  refine ⟨(List.range i).filter fun i => !listed.getD i true, (List.range' (i + 1) (n - i - 1)).filter fun i => !listed.getD i true, ?_, ?_, fun k hk => ?_⟩
  · unfold rem
    rw [range_split hi, List.filter_append, List.filter_cons_of_pos (by simp [hl])]
  · unfold rem
    rw [range_split hi, List.filter_append, List.filter_cons_of_neg (by simp [hset])]
    congr 1
    · apply List.filter_congr
      intro k hk
      have : k ≠ i := by have := List.mem_range.1 hk; omega
      simp [hset, this]
    · apply List.filter_congr
      intro k hk
      have : k ≠ i := by have := (List.mem_range'_1.1 hk).1; omega
      simp [hset, this]
  · obtain ⟨h1, h2⟩ := List.mem_filter.1 hk
    exact ⟨List.mem_range.1 h1, by simpa using h2⟩

/-- Two makers in no order of which the second one may come late. -/
def LateP (P : Program) (ops : Array Oper) (i j : Nat) (a b : Oper) : Prop :=
  isSoft P a.op = true ∧ isLate P b.op = true ∧ b.guard = none ∧ (∃ d, b.dst = some d ∧ d ∉ looks ops.toList b) ∧
    (∀ k, ((ancB ops.toList []).getD k 0).testBit j = true → ((ancB ops.toList []).getD k 0).testBit i = true) ∧ (isApp b.op = true → mixAt P ops false a.dst = true ∧ mixAt P ops false b.dst = true)
structure Checked (P : Program) (ops : Array Oper) : Prop where
  edge : ∀ (j : Nat) (o : Oper), ops[j]? = some o → ∀ e ∈ o.after.toList, Region.binds .any e = true → e.on < j
  pair : ∀ (i j : Nat) (a b : Oper), i < j → ops[i]? = some a → ops[j]? = some b → ((ancB ops.toList []).getD j 0).testBit i = false → slotsApart ops.toList a b = true ∧ (Apart (mixAt P ops) P a b ∨ LateP P ops i j a b)
theorem late_soft {P : Program} {op : Op} (h : isLate P op = true) : isSoft P op = true := by
  cases op with
  | alloc t => rfl
  | box t x => rfl
  | buildSlice t n ps =>
    simp only [isLate, Bool.and_eq_true, Bool.not_eq_true'] at h
    unfold isSoft
    simp only [clsOf, h.1]
  | call c =>
    obtain ⟨callee, args, ts⟩ := c
    cases callee with
    | builtin b => cases b <;> simp [isLate] at h <;> rfl
    | _ => simp [isLate] at h
  | _ => simp [isLate] at h
theorem checked_of {P : Program} {ops : Array Oper} (h : pairsOk P ops = true) : Checked P ops := by
  unfold pairsOk at h
  simp only [List.all_eq_true, List.mem_range, Bool.and_eq_true, Bool.or_eq_true] at h
  refine ⟨fun j o ho e he hb => ?_, fun i j a b hij ha hb hbit => ?_⟩
  · have hj : j < ops.toList.length := by simpa using (Array.getElem?_eq_some_iff.1 ho).1
    have h1 := (h j hj).1
    have ho' : ops.toList[j]? = some o := by simpa using ho
    rw [ho'] at h1
    simp only [Array.all_eq_true_iff_forall_mem, Bool.or_eq_true, Bool.not_eq_true', decide_eq_true_eq] at h1
    rcases h1 e (by simpa using he) with h2 | h2
    · rw [hb] at h2; exact absurd h2 (by simp)
    · exact h2
  · have hj : j < ops.toList.length := by simpa using (Array.getElem?_eq_some_iff.1 hb).1
    have h1 := (h j hj).2 i hij
    have ha' : ops.toList[i]? = some a := by simpa using ha
    have hb' : ops.toList[j]? = some b := by simpa using hb
    rcases h1 with h1 | h1
    · rw [hbit] at h1; exact absurd h1 (by simp)
    · rw [ha', hb'] at h1
      simp only [Bool.and_eq_true, Bool.or_eq_true] at h1
      have hmx : ∀ ld d, (match (generalizing := false) clsOf P a.op, clsOf P b.op with
          | .read, .soft => (match ptrLd ops.toList a.op b.op with | true => ld && a.dst == d | false => !ld && b.dst == d)
          | .soft, .read => (match ptrLd ops.toList b.op a.op with | true => ld && b.dst == d | false => !ld && a.dst == d)
          | .soft, .soft => !ld && isApp b.op && (a.dst == d || b.dst == d) | _, _ => false) = true → mixAt P ops ld d = true := by
        intro ld d hp
        unfold mixAt
        simp only [List.any_eq_true, List.mem_range, Bool.and_eq_true, Bool.not_eq_true']
        exact ⟨j, hj, i, hij, hbit, by rw [ha', hb']; exact hp⟩
      refine ⟨h1.1, ?_⟩
      rcases h1.2 with h2 | h2
      · have ldapp : ∀ {x y : Op}, ptrLd ops.toList x y = true → isApp y = true ∧ ∃ t z, x = .load t z := by
          intro x y hp
          unfold ptrLd at hp
          split at hp
          · rename_i t z
            rw [Bool.and_eq_true] at hp
            exact ⟨hp.1, t, z, rfl⟩
          · cases hp
        refine .inl ⟨h2, fun ⟨q1, q2⟩ => ?_, fun ⟨q1, q2⟩ => ?_⟩
        · cases hp : ptrLd ops.toList a.op b.op with
          | true =>
            obtain ⟨g1, g2⟩ := ldapp hp
            exact .inr ⟨g1, g2, hmx true _ (by rw [q1, q2]; simp [hp])⟩
          | false => exact .inl (hmx false _ (by rw [q1, q2]; simp [hp]))
        · cases hp : ptrLd ops.toList b.op a.op with
          | true =>
            obtain ⟨g1, g2⟩ := ldapp hp
            exact .inr ⟨g1, g2, hmx true _ (by rw [q1, q2]; simp [hp])⟩
          | false => exact .inl (hmx false _ (by rw [q1, q2]; simp [hp]))
      · right
        unfold lateOk at h2
        simp only [Bool.and_eq_true, List.all_eq_true, List.mem_range, Bool.or_eq_true, Bool.not_eq_true'] at h2
        obtain ⟨⟨⟨⟨q1, q2⟩, q3⟩, q4⟩, q5⟩ := h2
        refine ⟨q1, q2, by simpa using q3, ?_, fun k hk => ?_, fun happ => ?_⟩
        · split at q4
          · rename_i d hd
            exact ⟨d, hd, by simpa using q4⟩
          · cases q4
        · by_cases hkl : k < ops.toList.length
          · rcases q5 k hkl with h3 | h3
            · rw [hk] at h3; cases h3
            · exact h3
          · have hlen := (ancB_pre ops.toList []).2
            rw [List.getD_eq_getElem?_getD, List.getElem?_eq_none (by rw [hlen]; simp at hkl ⊢; omega)] at hk
            simp at hk
        · have c1 := soft_cls q1
          have c2 := soft_cls (late_soft q2)
          exact ⟨hmx false _ (by rw [c1, c2]; simp [happ]), hmx false _ (by rw [c1, c2]; simp [happ])⟩
def Closed (ops : Array Oper) (listed : Array Bool) : Prop := ∀ (j : Nat) (o : Oper), ops[j]? = some o → listed.getD j true = true → ∀ e ∈ o.after.toList, Region.binds .any e = true → listed.getD e.on false = true
theorem bit_listed {ops : Array Oper} {P : Program} (hck : Checked P ops) {listed : Array Bool} (hs : listed.size = ops.size) (hcl : Closed ops listed) : ∀ (i : Nat) (o : Oper), ops[i]? = some o → (∀ e ∈ o.after.toList, Region.binds .any e = true → listed.getD e.on false = true) →
    ∀ k, ((ancB ops.toList []).getD i 0).testBit k = true → listed.getD k false = true := by
  intro i
  induction i using Nat.strongRecOn with
  | _ i ih =>
    intro o ho hdep k hk
    obtain ⟨pre, h1, h2, h3⟩ := ancB_get ops.toList [] i o (by simpa using ho)
    simp only [List.length_nil, Nat.zero_add] at h2 h3
    rw [List.getD_eq_getElem?_getD, h3] at hk
    obtain ⟨e, he, hb, hor⟩ := ancM_bit hk
    have hlt := hck.edge i o ho e he hb
    rcases hor with rfl | hbit
    · exact hdep e he hb
    · have hpre : pre.getD e.on 0 = (ancB ops.toList []).getD e.on 0 := by
        obtain ⟨t, ht⟩ := h1
        rw [← ht, List.getD_eq_getElem?_getD, List.getD_eq_getElem?_getD, List.getElem?_append_left (by omega)]
      rw [hpre] at hbit
      have hi : i < ops.size := (Array.getElem?_eq_some_iff.1 ho).1
      have hon : ops[e.on]? = some ops[e.on] := Array.getElem?_eq_getElem (by omega)
      refine ih e.on hlt _ hon ?_ k hbit
      refine hcl e.on _ hon ?_
      have := hdep e he hb
      rw [Array.getD_eq_getD_getElem?] at this ⊢
      rw [Array.getElem?_eq_getElem (by omega)] at this ⊢
      exact this

theorem ready_mem {ops : Array Oper} {listed : Array Bool} {i : Nat} : i ∈ Region.ready .any ops listed ↔ i < ops.size ∧ listed.getD i true = false ∧ ∀ o, ops[i]? = some o → ∀ e ∈ o.after.toList, Region.binds .any e = true → listed.getD e.on false = true := by
  unfold Region.ready
  simp only [List.mem_filter, List.mem_range, Bool.and_eq_true, Bool.not_eq_true']
  constructor
  · rintro ⟨h1, h2, h3⟩
    refine ⟨h1, h2, fun o ho e he hb => ?_⟩
    rw [ho] at h3
    simp only [Option.map_some, Option.getD_some, Array.all_eq_true_iff_forall_mem, Bool.or_eq_true, Bool.not_eq_true'] at h3
    rcases h3 e (by simpa using he) with h4 | h4
    · rw [hb] at h4; exact absurd h4 (by simp)
    · exact h4
  · rintro ⟨h1, h2, h3⟩
    refine ⟨h1, h2, ?_⟩
    have ho : ops[i]? = some ops[i] := Array.getElem?_eq_getElem h1
    rw [ho]
    simp only [Option.map_some, Option.getD_some, Array.all_eq_true_iff_forall_mem, Bool.or_eq_true, Bool.not_eq_true']
    intro e he
    by_cases hb : Region.binds .any e = true
    · exact .inr (h3 _ ho e (by simpa using he) hb)
    · exact .inl (by simpa using hb)

/-! ### Makers that come late -/
def opsAt (ops : Array Oper) (l : List Nat) : List Oper := l.filterMap fun i => ops[i]?
def St.drop (st : St) (d : Nat) : St := { st with env := fun t => if t = d then none else st.env t }
def Sep (ops : List Oper) (x y : Oper) : Prop := (∀ d, x.dst = some d → d ∉ looks ops y) ∧ (∀ d, x.dst = some d → y.dst ≠ some d) ∧ (∀ d, y.dst = some d → d ∉ looks ops x)
theorem Sep.symm {ops : List Oper} {x y : Oper} (h : Sep ops x y) : Sep ops y x := ⟨h.2.2, fun d hd hd' => h.2.1 d hd' hd, h.1⟩
theorem opsD_app {mix : Bool → Option Tmp → Bool} {P : Program} {cal : CalT} {ops : List Oper} : ∀ {l1 l2 : List Oper} {st st' : St}, opsD mix P cal ops (l1 ++ l2) st = some st' → ∃ sm, opsD mix P cal ops l1 st = some sm ∧ opsD mix P cal ops l2 sm = some st'
  | [], l2, st, st', h => ⟨st, rfl, h⟩
  | o :: l1, l2, st, st', h => by
    simp only [List.cons_append, opsD] at h ⊢
    split at h
    · rename_i s1 h1
      obtain ⟨sm, h2, h3⟩ := opsD_app h
      exact ⟨sm, h2, h3⟩
    · exact absurd h (by simp)
theorem opsD_join {mix : Bool → Option Tmp → Bool} {P : Program} {cal : CalT} {ops : List Oper} : ∀ {l1 l2 : List Oper} {st sm st' : St}, opsD mix P cal ops l1 st = some sm → opsD mix P cal ops l2 sm = some st' → opsD mix P cal ops (l1 ++ l2) st = some st'
  | [], l2, st, sm, st', h, k => by
    obtain rfl := Option.some.inj h
    exact k
  | o :: l1, l2, st, sm, st', h, k => by
    simp only [List.cons_append, opsD] at h ⊢
    split at h
    · rename_i s1 h1
      exact opsD_join h k
    · exact absurd h (by simp)
theorem oneD_drop {mix : Bool → Option Tmp → Bool} {P : Program} {cal : CalT} {ops : List Oper} {o : Oper} {d : Nat} {st st1 : St} (h1 : d ∉ looks ops o) (h2 : o.dst ≠ some d) (h : oneD mix P cal ops o st = some st1) : oneD mix P cal ops o (st.drop d) = some (st1.drop d) := by
  obtain ⟨v, H', k, hact, rfl, hk, hkl⟩ := one_open h
  have hact' : actA P cal ops o (st.drop d) = some (v, H', k) := by
    rw [← hact]
    exact actA_congr fun t ht => if_neg fun (he : t = d) => h1 (he ▸ ht)
  have hkl' : ldOk mix o (st.drop d).env = true := by
    rw [← hkl]
    exact ldOk_congr (ops := ops) fun t ht => if_neg fun (he : t = d) => h1 (he ▸ ht)
  rw [one_shut hact' ⟨hk, hkl'⟩]
  congr 1
  cases hd : o.dst with
  | none => rfl
  | some x =>
    have hne : x ≠ d := fun he => h2 (by rw [hd, he])
    simp only [St.put, St.drop]
    congr 1
    funext t
    simp only [upd]
    by_cases ht : t = x
    · rw [if_pos ht, if_neg (fun he => hne (ht.symm.trans he)), if_pos ht]
    · rw [if_neg ht, if_neg ht]
theorem oneD_drop_self {mix : Bool → Option Tmp → Bool} {P : Program} {cal : CalT} {ops : List Oper} {o : Oper} {d : Nat} {st st1 : St} (h1 : d ∉ looks ops o) (h2 : o.dst = some d) (h : oneD mix P cal ops o st = some st1) : oneD mix P cal ops o (st.drop d) = some st1 := by
  obtain ⟨v, H', k, hact, rfl, hk, hkl⟩ := one_open h
  have hact' : actA P cal ops o (st.drop d) = some (v, H', k) := by
    rw [← hact]
    exact actA_congr fun t ht => if_neg fun (he : t = d) => h1 (he ▸ ht)
  have hkl' : ldOk mix o (st.drop d).env = true := by
    rw [← hkl]
    exact ldOk_congr (ops := ops) fun t ht => if_neg fun (he : t = d) => h1 (he ▸ ht)
  rw [one_shut hact' ⟨hk, hkl'⟩]
  congr 1
  rw [h2]
  simp only [St.put, St.drop]
  congr 1
  funext t
  simp only [upd]
  by_cases ht : t = d
  · rw [if_pos ht, if_pos ht]
  · rw [if_neg ht, if_neg ht, if_neg ht]
theorem opsD_drop {mix : Bool → Option Tmp → Bool} {P : Program} {cal : CalT} {ops : List Oper} {d : Nat} : ∀ {l : List Oper} {st st' : St}, (∀ o ∈ l, d ∉ looks ops o ∧ o.dst ≠ some d) → opsD mix P cal ops l st = some st' → opsD mix P cal ops l (st.drop d) = some (st'.drop d)
  | [], st, st', _, h => by
    obtain rfl := Option.some.inj h
    rfl
  | o :: l, st, st', hl, h => by
    rw [opsD] at h ⊢
    split at h
    · rename_i s1 h1
      rw [oneD_drop (hl o (by simp)).1 (hl o (by simp)).2 h1]
      exact opsD_drop (fun o' ho' => hl o' (by simp [ho'])) h
    · exact absurd h (by simp)
theorem opsD_env {mix : Bool → Option Tmp → Bool} {P : Program} {cal : CalT} {ops : List Oper} {t : Nat} : ∀ {l : List Oper} {st st' : St}, (∀ o ∈ l, o.dst ≠ some t) → opsD mix P cal ops l st = some st' → st'.env t = st.env t
  | [], st, st', _, h => by
    obtain rfl := Option.some.inj h
    rfl
  | o :: l, st, st', hl, h => by
    rw [opsD] at h
    split at h
    · rename_i s1 h1
      obtain ⟨v, H', k, _, rfl, _, _⟩ := one_open h1
      rw [opsD_env (fun o' ho' => hl o' (by simp [ho'])) h, put_env (hl o (by simp))]
    · exact absurd h (by simp)
theorem late_opT {P : Program} {cal : CalT} {ops : List Oper} {o : Oper} (hl : isLate P o.op = true) (hg : o.guard = none) {st : St} {v : AV} {H' : List AB} {k : Bool} (h : actA P cal ops o st = some (v, H', k)) : (opT P st.env st.H o.op).run = some (v, H') ∧ k = keepsT st.env o.op := by
  unfold actA wants at h
  rw [hg] at h
  simp only [if_true] at h
  refine (stepA_opT ?_).1 h
  intro f args ts hop
  rw [hop] at hl
  simp [isLate] at hl
theorem late_k {mix : Bool → Option Tmp → Bool} {P : Program} {cal : CalT} {ops : List Oper} {o : Oper} (hl : isLate P o.op = true) (hm : isApp o.op = true → mix false o.dst = true) {st : St} {v : AV} {H' : List AB} {k : Bool} (h : actA P cal ops o st = some (v, H', k)) (hk : ¬ (mix false o.dst = true ∧ isSoft P o.op = true ∧ k = false)) : k = true := by
  by_cases ha : isApp o.op = true
  · cases hq : k with
    | true => rfl
    | false => exact absurd ⟨hm ha, late_soft hl, hq⟩ hk
  · unfold actA at h
    split at h
    · cases h
    · rename_i b _
      split at h
      · have hn : ∀ f args ts, o.op ≠ .call ⟨.value f, args, ts⟩ := by
          intro f args ts hop
          rw [hop] at hl
          simp [isLate] at hl
        obtain ⟨_, rfl⟩ := (stepA_opT hn).1 h
        cases hop : o.op with
        | alloc t => rfl
        | box t x => rfl
        | buildSlice t n ps => rfl
        | call c =>
          rw [hop] at hl ha
          obtain ⟨callee, args, ts⟩ := c
          cases callee with
          | builtin b => cases b <;> simp [isLate] at hl; exact absurd rfl ha
          | _ => simp [isLate] at hl
        | _ => rw [hop] at hl; simp [isLate] at hl
      · simp only [Option.some.injEq, Prod.mk.injEq] at h
        exact h.2.2.symm
theorem put_get {a : Act} {d : Option Tmp} {c : Value} {t : Nat} (h : d ≠ some t) : (a.put d c).tmps.getD t undef = a.tmps.getD t undef := by
  cases d with
  | none => rfl
  | some x =>
    simp only [Act.put]
    rw [Array.getD_eq_getD_getElem?, Array.getD_eq_getD_getElem?, Array.getElem?_setIfInBounds_ne (fun he => h (by rw [he]))]
theorem put_size {a : Act} {d : Option Tmp} {c : Value} : (a.put d c).tmps.size = a.tmps.size := by cases d <;> simp [Act.put]
theorem put_defers {a : Act} {d : Option Tmp} {c : Value} : (a.put d c).defers = a.defers := by cases d <;> rfl
/-- One that was carried out, and whose turn has not come. -/
structure PendI (P : Program) (ops : Array Oper) (n0 : Nat) (x : Option (Nat × Obj)) (o : Oper) (st : St) (M : Mem) (e : RR) (w : World) (a : Act) : Prop where
  late : isLate P o.op = true
  guard : o.guard = none
  mix : isApp o.op = true → mixAt P ops false o.dst = true
  rest : ∃ d c ev Hp Mp ep, o.dst = some d ∧ a.tmps.getD d undef = c ∧ st.env d = none ∧ (∀ t ∈ looks ops.toList o, st.env t = ev t) ∧ Mle Mp M ∧ ep.le e ∧ (isApp o.op = true → keepsB Hp st.H) ∧ Prom P o.op x ev Hp Mp ep c
  blk : ∀ b ob, x = some (b, ob) → Pend n0 M e st.H w b ob
theorem keepsB.trans {A B C : List AB} (h : keepsB A B) (k : keepsB B C) : keepsB A C := fun b x hb => k b x (h b x hb)
theorem PendI.step {P : Program} {ops : Array Oper} {n0 : Nat} {x : Option (Nat × Obj)} {o : Oper} {st st1 : St} {M M1 : Mem} {e e1 : RR} {w w1 : World} {a a1 : Act} (h : PendI P ops n0 x o st M e w a) (hM : Mle M M1) (he : e.le e1)
    (ht : ∀ d, o.dst = some d → a1.tmps.getD d undef = a.tmps.getD d undef ∧ (st.env d = none → st1.env d = none)) (hlk : ∀ t ∈ looks ops.toList o, st1.env t = st.env t) (hk : isApp o.op = true → keepsB st.H st1.H)
    (hb : ∀ b ob, x = some (b, ob) → Pend n0 M e st.H w b ob → Pend n0 M1 e1 st1.H w1 b ob) : PendI P ops n0 x o st1 M1 e1 w1 a1 := by
  obtain ⟨d, c, ev, Hp, Mp, ep, h1, h2, h3, h4, h5, h6, h7, h8⟩ := h.rest
  exact ⟨h.late, h.guard, h.mix, ⟨d, c, ev, Hp, Mp, ep, h1, (ht d h1).1.trans h2, (ht d h1).2 h3, fun t htt => (hlk t htt).trans (h4 t htt), h5.trans hM, h6.trans he, fun ha => (h7 ha).trans (hk ha), h8⟩, fun b ob hx => hb b ob hx (h.blk b ob hx)⟩
def remF (n : Nat) (D : Nat → Bool) : List Nat := (List.range n).filter fun i => !D i
def doneA (D : Nat → Bool) (i : Nat) : Nat → Bool := fun k => if k = i then true else D k
theorem remF_split {n i : Nat} {D : Nat → Bool} (hi : i < n) (hl : D i = false) : ∃ l1 l2, remF n D = l1 ++ i :: l2 ∧ remF n (doneA D i) = l1 ++ l2 ∧ ∀ k ∈ l1, k < i ∧ D k = false := by
  refine ⟨(List.range i).filter fun i => !D i, (List.range' (i + 1) (n - i - 1)).filter fun i => !D i, ?_, ?_, fun k hk => ?_⟩
  · unfold remF
    rw [range_split hi, List.filter_append, List.filter_cons_of_pos (by simp [hl])]
  · unfold remF
    rw [range_split hi, List.filter_append, List.filter_cons_of_neg (by simp [doneA])]
    congr 1
    · apply List.filter_congr
      intro k hk
      have : k ≠ i := by have := List.mem_range.1 hk; omega
      simp [doneA, this]
    · apply List.filter_congr
      intro k hk
      have : k ≠ i := by have := (List.mem_range'_1.1 hk).1; omega
      simp [doneA, this]
  · obtain ⟨h1, h2⟩ := List.mem_filter.1 hk
    exact ⟨List.mem_range.1 h1, by simpa using h2⟩
theorem exists_min {q : Nat → Prop} : ∀ {k : Nat}, q k → ∃ m, q m ∧ ∀ j, j < m → ¬ q j := by
  intro k
  induction k using Nat.strongRecOn with
  | _ k ih =>
    intro hk
    by_cases h : ∃ j, j < k ∧ q j
    · obtain ⟨j, hj, hq⟩ := h
      exact ih j hj hq
    · exact ⟨k, hk, fun j hj hq => h ⟨j, hj, hq⟩⟩
theorem opsAt_app {ops : Array Oper} (l1 l2 : List Nat) : opsAt ops (l1 ++ l2) = opsAt ops l1 ++ opsAt ops l2 := by simp [opsAt, List.filterMap_append]
theorem opsAt_cons {ops : Array Oper} {i : Nat} {o : Oper} (h : ops[i]? = some o) (l : List Nat) : opsAt ops (i :: l) = o :: opsAt ops l := by simp [opsAt, h]
theorem opsAt_mem {ops : Array Oper} {l : List Nat} {o : Oper} (h : o ∈ opsAt ops l) : ∃ k ∈ l, ops[k]? = some o := by
  unfold opsAt at h
  obtain ⟨k, hk, hk'⟩ := List.mem_filterMap.1 h
  exact ⟨k, hk, hk'⟩

section
variable {P : Program} {cal : CalT} (hcal : ∀ f p, cal f = some p → SoundT P f p.2)
include hcal
/-- One operation, with the value that it puts. -/
theorem oneA_put {ops : Array Oper} {o : Oper} {st st' : St} {k : Bool} (hone : oneA P cal ops.toList o st = some (k, st')) {M : Mem} {e : RR} {w : World} {a : Act} (h : HR M e st.H w) (hE : EnvR M e st.env a.tmps)
    (hd : ∀ d, o.dst = some d → d < a.tmps.size) {K : Act → World → Prop} {Q : Exit → Act → World → Prop}
    (hK : ∀ c M' e' w', Tr M e st.H w M' e' st'.H w' → EnvR M' e' st'.env (a.put o.dst c).tmps → K (a.put o.dst c) w') :
    if Region.wanted o (yielded ops a.tmps) then o.wp P a w K Q else K (a.put o.dst undef) w := by
  unfold oneA at hone
  split at hone
  case h_2 => exact absurd hone (by simp)
  rename_i v H' k' hact
  obtain ⟨rfl, rfl⟩ := Prod.mk.inj (Option.some.inj hone)
  have hH : (St.put { st with H := H' } o.dst v).H = H' := by cases o.dst <;> rfl
  have hput : ∀ {M' : Mem} {e' : RR} {w' : World} {c : Value}, Tr M e st.H w M' e' H' w' → VR M' e' v c → K (a.put o.dst c) w' := by
    intro M' e' w' c hT hv
    refine hK _ M' e' w' (by rw [hH]; exact hT) ?_
    cases hdst : o.dst with
    | none => exact hE.mono hT.mle hT.rle
    | some d => exact (hE.mono hT.mle hT.rle).put hv (hd d hdst)
  unfold actA at hact
  split at hact
  · exact absurd hact (by simp)
  · rename_i b hb
    rw [wants_sound hcal hE hb]
    split at hact
    · rename_i hbt
      subst hbt
      simp only [if_true]
      exact stepA_sound hcal hact h hE hd fun c M' e' w' hT hv => hput hT hv
    · rename_i hbf
      have hbf' : b = false := by simpa using hbf
      subst hbf'
      simp only [Bool.false_eq_true, if_false]
      simp only [Option.some.injEq, Prod.mk.injEq] at hact
      obtain ⟨rfl, rfl, rfl⟩ := hact
      exact hput (Tr.refl h) (.tup rfl fun _ _ _ h => by simp at h)
/-- Blocks stay over operations that look, or make blocks. -/
theorem one_keeps {mix : Bool → Option Tmp → Bool} {ops : List Oper} {o : Oper} {st st1 : St} (hc : (clsOf P o.op = .still ∨ clsOf P o.op = .read) ∨ (isSoft P o.op = true ∧ mix false o.dst = true)) (h : oneD mix P cal ops o st = some st1) : keepsB st.H st1.H := by
  obtain ⟨v, H', k, hact, rfl, hk, _⟩ := one_open h
  rw [put_H]
  rcases hc with (hc | hc) | ⟨hc, hm⟩
  · obtain ⟨rfl, _⟩ := act_still (env := st.env) (H := st.H) hc hact
    exact keepsB.refl _
  · obtain ⟨rfl, _⟩ := act_read (env := st.env) (H := st.H) (H2 := st.H) hc hact fun _ _ _ _ _ _ => rfl
    exact keepsB.refl _
  · have : k = true := by
      cases hq : k with
      | true => rfl
      | false => exact absurd ⟨hm, hc, hq⟩ hk
    subst this
    exact act_keeps hcal hc hact
theorem ops_keeps {mix : Bool → Option Tmp → Bool} {ops : List Oper} : ∀ {l : List Oper} {st st' : St}, (∀ o ∈ l, (clsOf P o.op = .still ∨ clsOf P o.op = .read) ∨ (isSoft P o.op = true ∧ mix false o.dst = true)) → opsD mix P cal ops l st = some st' → keepsB st.H st'.H
  | [], st, st', _, h => by
    obtain rfl := Option.some.inj h
    exact keepsB.refl _
  | o :: l, st, st', hl, h => by
    rw [opsD] at h
    split at h
    · rename_i s1 h1
      exact (one_keeps hcal (hl o (by simp)) h1).trans (ops_keeps (fun o' ho' => hl o' (by simp [ho'])) h)
    · exact absurd h (by simp)
omit hcal in
theorem apart_soft {mix : Bool → Option Tmp → Bool} {a b : Oper} (h : Apart mix P a b) (hb : isSoft P b.op = true) : clsOf P a.op = .still ∨ clsOf P a.op = .read := by
  have h1 := h.1
  have hb := soft_cls hb
  unfold effApart at h1
  rw [hb] at h1
  cases hq : clsOf P a.op <;> rw [hq] at h1 <;> simp_all
omit hcal in
theorem apart_soft' {mix : Bool → Option Tmp → Bool} {a b : Oper} (h : Apart mix P a b) (ha : isSoft P a.op = true) : clsOf P b.op = .still ∨ clsOf P b.op = .read := by
  have h1 := h.1
  have ha := soft_cls ha
  unfold effApart at h1
  rw [ha] at h1
  cases hq : clsOf P b.op <;> rw [hq] at h1 <;> simp_all
/-- How far a region has come: what was carried out (lst), of that what the small heap knows (D). -/
structure Inv (P : Program) (cal : CalT) (ops : Array Oper) (nt : Nat) (M0 : Mem) (e0 : RR) (H0 : List AB) (w0 : World) (lst D : Nat → Bool) (st st' : St) (M : Mem) (e : RR) (w : World) (a : Act) : Prop where
  run : opsD (mixAt P ops) P cal ops.toList (opsAt ops (remF ops.size D)) st = some st'
  tr : Tr M0 e0 H0 w0 M e st.H w
  env : EnvR M e st.env a.tmps
  size : a.tmps.size = nt
  sub : ∀ k, k < ops.size → D k = true → lst k = true
  pend : ∃ x : Nat → Option (Nat × Obj), (∀ p o, ops[p]? = some o → lst p = true → D p = false → PendI P ops w0.heap.size (x p) o st M e w a) ∧
    ∀ p q o o', ops[p]? = some o → ops[q]? = some o' → lst p = true → D p = false → lst q = true → D q = false → p ≠ q → ∀ u v, x p = some u → x q = some v → u.1 ≠ v.1
  anc : ∀ p o, ops[p]? = some o → lst p = true → D p = false → ∀ k, k < ops.size → ((ancB ops.toList []).getD p 0).testBit k = true → D k = true
omit hcal in
theorem Checked.sep {ops : Array Oper} (hck : Checked P ops) {i j : Nat} {a b : Oper} (hij : i ≠ j) (ha : ops[i]? = some a) (hb : ops[j]? = some b) (h1 : ((ancB ops.toList []).getD j 0).testBit i = false) (h2 : ((ancB ops.toList []).getD i 0).testBit j = false) : Sep ops.toList a b := by
  by_cases h : i < j
  · exact slotsApart_spec (hck.pair i j a b h ha hb h1).1
  · exact Sep.symm (slotsApart_spec (hck.pair j i b a (by omega) hb ha h2).1)
/-- One of those that came early is adopted. -/
theorem adopt {ops : Array Oper} (hck : Checked P ops) {nt : Nat} (hd : ∀ (i : Nat) (o : Oper), ops[i]? = some o → ∀ d, o.dst = some d → d < nt) {M0 : Mem} {e0 : RR} {H0 : List AB} {w0 : World} {lst D : Nat → Bool} {st st' : St} {M : Mem} {e : RR} {w : World} {a : Act} (hI : Inv P cal ops nt M0 e0 H0 w0 lst D st st' M e w a)
    {p : Nat} {o : Oper} (ho : ops[p]? = some o) (hlp : lst p = true) (hDp : D p = false) (hfree : ∀ k o', ops[k]? = some o' → k < p → D k = false → slotsApart ops.toList o' o = true ∧ Apart (mixAt P ops) P o' o) :
    ∃ st1 e1, Inv P cal ops nt M0 e0 H0 w0 lst (doneA D p) st1 st' M e1 w a := by
  have hp := (Array.getElem?_eq_some_iff.1 ho).1
  obtain ⟨l1, l2, h1, h2, h3⟩ := remF_split hp hDp
  have hrun := hI.run
  rw [h1, opsAt_app, opsAt_cons ho] at hrun
  obtain ⟨st1, hone, hrest⟩ := bubble hcal (nt := nt) ⟨M, e, w, a, hI.tr.hr, hI.env, hI.size⟩ (fun o' ho' => by
    obtain ⟨k, _, hk'⟩ := opsAt_mem ho'
    exact hd k o' hk') (fun o' ho' => by
    obtain ⟨k, hk, hk'⟩ := opsAt_mem ho'
    obtain ⟨hkp, hkD⟩ := h3 k hk
    exact hfree k o' hk' hkp hkD) hrun
  rw [← opsAt_app, ← h2] at hrest
  obtain ⟨v, H', kk, hact, rfl, hkk, _⟩ := one_open hone
  obtain ⟨x, hx, hdis⟩ := hI.pend
  have hPI := hx p o ho hlp hDp
  obtain ⟨d, c, ev, Hp, Mp, ep, g1, g2, g3, g4, g5, g6, g7, g8⟩ := hPI.rest
  obtain ⟨hopT, _⟩ := late_opT hPI.late hPI.guard hact
  have hkt := late_k hPI.late hPI.mix hact hkk
  subst hkt
  have hkeep := act_keeps hcal (late_soft hPI.late) hact
  obtain ⟨e1, q1, q2, q3, q4⟩ := g8 w0.heap.size M e st.H w st.env v H' hI.tr.hr g5 g6 hPI.blk (fun t ht => g4 t (looks_mem ht)) g7 hopT
  have hDA : ∀ q, doneA D p q = false → q ≠ p ∧ D q = false := by
    intro q hq
    unfold doneA at hq
    split at hq
    · cases hq
    · rename_i hne; exact ⟨hne, hq⟩
  have hsep : ∀ q o', ops[q]? = some o' → lst q = true → D q = false → q ≠ p → Sep ops.toList o o' := by
    intro q o' hq hlq hDq hqp
    refine hck.sep (fun h => hqp h.symm) ho hq ?_ ?_
    · cases hb : ((ancB ops.toList []).getD q 0).testBit p with
      | false => rfl
      | true => have := hI.anc q o' hq hlq hDq p hp hb; rw [hDp] at this; cases this
    · cases hb : ((ancB ops.toList []).getD p 0).testBit q with
      | false => rfl
      | true => have := hI.anc p o ho hlp hDp q (Array.getElem?_eq_some_iff.1 hq).1 hb; rw [hDq] at this; cases this
  have hblk := hPI.blk
  refine ⟨_, e1, hrest, ?_, ?_, hI.size, ?_, ⟨x, ?_, ?_⟩, ?_⟩
  · rw [put_H]
    refine ⟨hI.tr.mle, hI.tr.rle.trans q2, q1, hI.tr.os, hI.tr.tape, hI.tr.output, hI.tr.size, hI.tr.same, fun i hi => ?_, hI.tr.fresh⟩
    rcases q3 i hi with h4 | ⟨ob, h4⟩
    · exact hI.tr.ids i h4
    · exact .inr (hblk i ob h4).new
  · rw [g1]
    intro t y hy
    simp only [St.put, upd] at hy
    split at hy
    · rename_i ht
      subst ht
      obtain rfl := Option.some.inj hy
      rw [g2]
      exact q4
    · exact (hI.env t y hy).mono (Mle.refl _) q2
  · intro k hk hkD
    unfold doneA at hkD
    split at hkD
    · rename_i hkp; rw [hkp]; exact hlp
    · exact hI.sub k hk hkD
  · intro q o' hq hlq hDq
    obtain ⟨hqp, hDq⟩ := hDA q hDq
    have hs := hsep q o' hq hlq hDq hqp
    have hPq := hx q o' hq hlq hDq
    refine hPq.step (Mle.refl _) q2 (fun d' hd' => ⟨rfl, fun hn => ?_⟩) (fun t ht => ?_) (fun _ => by rw [put_H]; exact hkeep) fun b ob hb hPb => ?_
    · rw [put_env (fun he => hs.2.1 d' he hd')]; exact hn
    · exact put_env (fun he => hs.1 t he ht)
    · rw [put_H]
      refine ⟨hPb.at_, fun hf => ?_, hPb.mem, hPb.new⟩
      rcases q3 b hf with h4 | ⟨ob', h4⟩
      · exact hPb.out h4
      · exact hdis p q o o' ho hq hlp hDp hlq hDq (fun h => hqp h.symm) _ _ h4 hb rfl
  · intro p1 q1 o1 o2 hp1 hq1 hlp1 hDp1 hlq1 hDq1 hne
    exact hdis p1 q1 o1 o2 hp1 hq1 hlp1 (hDA _ hDp1).2 hlq1 (hDA _ hDq1).2 hne
  · intro q o' hq hlq hDq k hks hk
    have := hI.anc q o' hq hlq (hDA q hDq).2 k hks hk
    unfold doneA
    split
    · rfl
    · exact this
/-- All of a set that is closed are adopted. -/
theorem adoptS {ops : Array Oper} (hck : Checked P ops) {nt : Nat} (hd : ∀ (i : Nat) (o : Oper), ops[i]? = some o → ∀ d, o.dst = some d → d < nt) {M0 : Mem} {e0 : RR} {H0 : List AB} {w0 : World} {lst : Nat → Bool} {st' : St} {M : Mem} {w : World} {a : Act} (S : Nat → Bool)
    (hS : ∀ k p x y, k < p → S p = true → LateP P ops k p x y → S k = true) (hl : ∀ k, k < ops.size → S k = true → lst k = true) : ∀ (m : Nat) {D : Nat → Bool} {st : St} {e : RR}, (remF ops.size D).length = m → Inv P cal ops nt M0 e0 H0 w0 lst D st st' M e w a →
    ∃ D' st1 e1, Inv P cal ops nt M0 e0 H0 w0 lst D' st1 st' M e1 w a ∧ ∀ k, k < ops.size → S k = true → D' k = true := by
  intro m
  induction m with
  | zero =>
    intro D st e hm hI
    refine ⟨D, st, e, hI, fun k hk _ => ?_⟩
    cases hq : D k with
    | true => rfl
    | false =>
      have hnil := List.length_eq_zero_iff.1 hm
      have : k ∈ remF ops.size D := by
        unfold remF
        simp only [List.mem_filter, List.mem_range, Bool.not_eq_true']
        exact ⟨hk, hq⟩
      rw [hnil] at this
      exact absurd this (by simp)
  | succ m ih =>
    intro D st e hm hI
    by_cases hex : ∃ k, k < ops.size ∧ S k = true ∧ D k = false
    · obtain ⟨k0, hk0⟩ := hex
      obtain ⟨p, ⟨hp, hSp, hDp⟩, hmin⟩ := exists_min (q := fun k => k < ops.size ∧ S k = true ∧ D k = false) hk0
      have ho : ops[p]? = some ops[p] := Array.getElem?_eq_getElem hp
      have hlp := hl p hp hSp
      obtain ⟨st1, e1, hI1⟩ := adopt hcal hck hd hI ho hlp hDp fun k o' hk hkp hDk => by
        have hbit : ((ancB ops.toList []).getD p 0).testBit k = false := by
          cases hb : ((ancB ops.toList []).getD p 0).testBit k with
          | false => rfl
          | true => have := hI.anc p _ ho hlp hDp k (Array.getElem?_eq_some_iff.1 hk).1 hb; rw [hDk] at this; cases this
        obtain ⟨h1, h2⟩ := hck.pair k p o' _ hkp hk ho hbit
        rcases h2 with h2 | h2
        · exact ⟨h1, h2⟩
        · exact absurd ⟨(Array.getElem?_eq_some_iff.1 hk).1, hS k p _ _ hkp hSp h2, hDk⟩ (hmin k hkp)
      obtain ⟨l1, l2, h1, h2, _⟩ := remF_split hp hDp
      exact ih (by rw [h2]; rw [h1] at hm; simp at hm ⊢; omega) hI1
    · refine ⟨D, st, e, hI, fun k hk hSk => ?_⟩
      cases hq : D k with
      | true => rfl
      | false => exact absurd ⟨k, hk, hSk, hq⟩ hex
theorem any_late {ops : Array Oper} (hck : Checked P ops) {nt : Nat} (hd : ∀ (i : Nat) (o : Oper), ops[i]? = some o → ∀ d, o.dst = some d → d < nt) {Q : Exit → Act → World → Prop} {M0 : Mem} {e0 : RR} {H0 : List AB} {w0 : World} {st' : St} {df : Act}
    (hQ : ∀ a' M' e' w', Tr M0 e0 H0 w0 M' e' st'.H w' → EnvR M' e' st'.env a'.tmps → a'.tmps.size = nt → a'.defers = df.defers → Q .normal a' w') : ∀ (fuel : Nat) {listed : Array Bool} {D : Nat → Bool} {st : St} {M : Mem} {e : RR} {w : World} {a : Act},
    (rem ops.size listed).length = fuel → listed.size = ops.size → Closed ops listed → Inv P cal ops nt M0 e0 H0 w0 (fun k => listed.getD k true) D st st' M e w a → a.defers = df.defers → wpAny P .any ops Q fuel listed a w := by
  intro fuel
  induction fuel with
  | zero =>
    intro listed D st M e w a hf hs hcl hI hdf
    have hnil : rem ops.size listed = [] := List.length_eq_zero_iff.1 hf
    have hall : ∀ k, k < ops.size → listed.getD k true = true := by
      intro k hk
      cases hq : listed.getD k true with
      | true => rfl
      | false =>
        have : k ∈ rem ops.size listed := by
          unfold rem
          simp only [List.mem_filter, List.mem_range, Bool.not_eq_true']
          exact ⟨hk, hq⟩
        rw [hnil] at this
        exact absurd this (by simp)
    refine ⟨?_, ?_⟩
    · cases hr : Region.ready .any ops listed with
      | nil => rfl
      | cons i r =>
        have hi : i ∈ Region.ready .any ops listed := by rw [hr]; simp
        obtain ⟨h1, h2, _⟩ := ready_mem.1 hi
        rw [hall i h1] at h2
        cases h2
    · obtain ⟨D', st1, e1, hI1, hD'⟩ := adoptS hcal hck hd (fun _ => true) (fun _ _ _ _ _ _ _ => rfl) (fun k hk _ => hall k hk) _ rfl hI
      have hrem : remF ops.size D' = [] := by
        unfold remF
        apply List.filter_eq_nil_iff.2
        intro k hk
        simp [hD' k (List.mem_range.1 hk) rfl]
      have hrun := hI1.run
      rw [hrem] at hrun
      obtain rfl := Option.some.inj (show some st1 = some st' from hrun)
      exact hQ a M e1 w hI1.tr hI1.env hI1.size hdf
  | succ fuel ih =>
    intro listed D st M e w a hf hs hcl hI hdf
    refine ⟨fun hr => ?_, fun i hi => ?_⟩
    · -- the first one that is left is ready
      exfalso
      cases hrem : rem ops.size listed with
      | nil => rw [hrem] at hf; simp at hf
      | cons i r =>
        have hmem : i ∈ rem ops.size listed := by rw [hrem]; simp
        unfold rem at hmem
        simp only [List.mem_filter, List.mem_range, Bool.not_eq_true'] at hmem
        obtain ⟨l1, l2, h1, _, h3⟩ := rem_split hs hmem.1 hmem.2
        have hl1 : l1 = [] := by
          cases l1 with
          | nil => rfl
          | cons k l1 =>
            rw [hrem] at h1
            simp only [List.cons_append, List.cons.injEq] at h1
            have := (h3 k (by simp)).1
            omega
        have hbelow : ∀ k, k < i → listed.getD k true = true := by
          intro k hk
          cases hq : listed.getD k true with
          | true => rfl
          | false =>
            obtain ⟨m1, m2, h4, _, h6⟩ := rem_split hs (by omega : k < ops.size) hq
            rw [hrem] at h4
            cases m1 with
            | nil => simp at h4; omega
            | cons x m1 =>
              simp only [List.cons_append, List.cons.injEq] at h4
              have := (h6 x (by simp)).1
              omega
        have : i ∈ Region.ready .any ops listed := by
          refine ready_mem.2 ⟨hmem.1, hmem.2, fun o ho e he hb => ?_⟩
          have hlt := hck.edge i o ho e he hb
          have := hbelow e.on hlt
          rw [Array.getD_eq_getD_getElem?] at this ⊢
          rw [Array.getElem?_eq_getElem (by omega)] at this ⊢
          exact this
        rw [hr] at this
        exact absurd this (by simp)
    · obtain ⟨hi1, hi2, hi3⟩ := ready_mem.1 hi
      have hoi : ops[i]? = some ops[i] := Array.getElem?_eq_getElem hi1
      generalize hoe : ops[i] = oi at hoi
      have hset : ∀ (k : Nat) (d : Bool), (listed.setIfInBounds i true).getD k d = if k = i then true else listed.getD k d := by
        intro k d
        rw [Array.getD_eq_getD_getElem?, Array.getElem?_setIfInBounds, Array.getD_eq_getD_getElem?]
        by_cases hk : i = k
        · subst hk; simp [hs, hi1]
        · simp [hk, Ne.symm hk]
      have hcl' : Closed ops (listed.setIfInBounds i true) := by
        intro j o hj hl e he hb
        rw [hset] at hl ⊢
        by_cases heq : e.on = i
        · rw [if_pos heq]
        · rw [if_neg heq]
          by_cases hji : j = i
          · subst hji
            exact hi3 o hj e he hb
          · rw [if_neg hji] at hl
            exact hcl j o hj hl e he hb
      have hlen : (rem ops.size (listed.setIfInBounds i true)).length = fuel := by
        obtain ⟨l1, l2, h1, h2, _⟩ := rem_split hs hi1 hi2
        rw [h2]
        rw [h1] at hf
        simp at hf ⊢
        omega
      -- all that it waits for, and that came early, is adopted first
      have hanc : ∀ k, ((ancB ops.toList []).getD i 0).testBit k = true → listed.getD k true = true := by
        intro k hk
        have := bit_listed hck hs hcl i _ hoi (hi3 _ hoi) k hk
        rw [Array.getD_eq_getD_getElem?] at this ⊢
        cases hq : listed[k]? with
        | none => rfl
        | some b => rw [hq] at this; simpa using this
      obtain ⟨D1, st1, e1, hI1, hD1⟩ := adoptS hcal hck hd (fun k => ((ancB ops.toList []).getD i 0).testBit k) (fun k p x y _ h1 h2 => h2.2.2.2.2.1 i h1) (fun k _ h => hanc k h) _ rfl hI
      have hD1i : D1 i = false := by
        cases hq : D1 i with
        | false => rfl
        | true => have := hI1.sub i hi1 hq; rw [hi2] at this; cases this
      have hbit : ∀ k, D1 k = false → k < ops.size → ((ancB ops.toList []).getD i 0).testBit k = false := by
        intro k hk hks
        cases hb : ((ancB ops.toList []).getD i 0).testBit k with
        | false => rfl
        | true => rw [hD1 k hks hb] at hk; cases hk
      obtain ⟨l1, l2, h1, h2, h3⟩ := remF_split hi1 hD1i
      have hrun := hI1.run
      rw [h1, opsAt_app, opsAt_cons hoi] at hrun
      have hpair : ∀ k o, k ∈ l1 → ops[k]? = some o → slotsApart ops.toList o oi = true ∧ (Apart (mixAt P ops) P o oi ∨ LateP P ops k i o oi) := by
        intro k o hk ho
        obtain ⟨hki, hkD⟩ := h3 k hk
        exact hck.pair k i o oi hki ho hoi (hbit k hkD (by omega))
      obtain ⟨x, hx, hdis⟩ := hI1.pend
      have hsep : ∀ p o, ops[p]? = some o → listed.getD p true = true → D1 p = false → Sep ops.toList oi o := by
        intro p o hp hlp hDp
        have hne : i ≠ p := fun h => by rw [h] at hi2; rw [hi2] at hlp; cases hlp
        refine hck.sep hne hoi hp ?_ (hbit p hDp (Array.getElem?_eq_some_iff.1 hp).1)
        cases hb : ((ancB ops.toList []).getD p 0).testBit i with
        | false => rfl
        | true => have := hI1.anc p o hp hlp hDp i hi1 hb; rw [hD1i] at this; cases this
      have hdi : ∀ d, oi.dst = some d → d < a.tmps.size := fun d hd' => by rw [hI1.size]; exact hd i _ hoi d hd'
      by_cases hallA : ∀ k o, k ∈ l1 → ops[k]? = some o → Apart (mixAt P ops) P o oi
      · -- it is carried out at its turn
        obtain ⟨st2, hone, hrest⟩ := bubble hcal (nt := nt) ⟨M, e1, w, a, hI1.tr.hr, hI1.env, hI1.size⟩ (fun o ho' => by
          obtain ⟨k, _, hk'⟩ := opsAt_mem ho'
          exact hd k o hk') (fun o ho' => by
          obtain ⟨k, hk, hk'⟩ := opsAt_mem ho'
          exact ⟨(hpair k o hk hk').1, hallA k o hk hk'⟩) hrun
        rw [← opsAt_app, ← h2] at hrest
        obtain ⟨kk, honeA, _, _⟩ := oneD_some hone
        have hkeeps : ∀ p o, ops[p]? = some o → listed.getD p true = true → D1 p = false → isApp o.op = true → keepsB st1.H st2.H := by
          intro p o hp hlp hDp happ
          have hPp := hx p o hp hlp hDp
          have hso := late_soft hPp.late
          refine one_keeps hcal ?_ hone
          by_cases hpi : p < i
          · rcases (hck.pair p i o oi hpi hp hoi (hbit p hDp (by omega))).2 with h4 | h4
            · exact .inl (apart_soft' h4 hso)
            · by_cases hia : isApp oi.op = true
              · exact .inr ⟨late_soft h4.2.1, (h4.2.2.2.2.2 hia).2⟩
              · -- a variable: it keeps all
                exfalso
                have hmem : p ∈ l1 := by
                  have : p ∈ remF ops.size D1 := by
                    unfold remF
                    simp only [List.mem_filter, List.mem_range, Bool.not_eq_true']
                    exact ⟨by omega, hDp⟩
                  rw [h1] at this
                  rcases List.mem_append.1 this with h5 | h5
                  · exact h5
                  · rcases List.mem_cons.1 h5 with h6 | h6
                    · omega
                    · exfalso
                      have hsorted : (remF ops.size D1).Pairwise (· < ·) := by
                        unfold remF
                        exact List.Pairwise.filter _ List.pairwise_lt_range
                      rw [h1] at hsorted
                      have := (List.pairwise_cons.1 (List.pairwise_append.1 hsorted).2.1).1 p h6
                      omega
                have h5 := apart_soft (hallA p o hmem hp) (late_soft h4.2.1)
                have h6 := soft_cls hso
                rcases h5 with h5 | h5 <;> rw [h6] at h5 <;> cases h5
          · have hip : i < p := by
              have hne : i ≠ p := fun h => by rw [h] at hi2; rw [hi2] at hlp; cases hlp
              omega
            have hb : ((ancB ops.toList []).getD p 0).testBit i = false := by
              cases hb : ((ancB ops.toList []).getD p 0).testBit i with
              | false => rfl
              | true => have := hI1.anc p o hp hlp hDp i hi1 hb; rw [hD1i] at this; cases this
            rcases (hck.pair i p oi o hip hoi hp hb).2 with h4 | h4
            · exact .inl (apart_soft h4 hso)
            · exact .inr ⟨h4.1, (h4.2.2.2.2.2 happ).1⟩
        have hst2 : ∀ t, oi.dst ≠ some t → st2.env t = st1.env t := by
          obtain ⟨v, H', k, _, rfl, _, _⟩ := one_open hone
          intro t ht
          exact put_env ht
        have key := oneA_put hcal honeA hI1.tr.hr hI1.env hdi (K := wpAny P .any ops Q fuel (listed.setIfInBounds i true)) (Q := Q) fun c M2 e2 w2 hT hE2 => by
          refine ih (D := doneA D1 i) (st := st2) (M := M2) (e := e2) hlen (by simpa using hs) hcl' ⟨hrest, hI1.tr.trans hT, hE2, put_size.trans hI1.size, ?_, ⟨x, ?_, ?_⟩, ?_⟩ (put_defers.trans hdf)
          · intro k hk hkD
            show (listed.setIfInBounds i true).getD k true = true
            rw [hset]
            unfold doneA at hkD
            split at hkD
            · rename_i hki; rw [if_pos hki]
            · rename_i hki; rw [if_neg hki]; exact hI1.sub k hk hkD
          · intro p o hp hlp hDp
            have hlp : (listed.setIfInBounds i true).getD p true = true := hlp
            unfold doneA at hDp
            split at hDp
            · cases hDp
            · rename_i hpi
              rw [hset, if_neg hpi] at hlp
              have hs' := hsep p o hp hlp hDp
              refine (hx p o hp hlp hDp).step hT.mle hT.rle (fun d' hd' => ⟨put_get fun he => hs'.2.1 d' he hd', fun hn => ?_⟩) (fun t ht => hst2 t fun he => hs'.1 t he ht) (hkeeps p o hp hlp hDp) fun b ob _ hPb => hPb.step hT
              rw [hst2 d' fun he => hs'.2.1 d' he hd']; exact hn
          · intro p q o o' hp hq hlp hDp hlq hDq
            have hlp : (listed.setIfInBounds i true).getD p true = true := hlp
            have hlq : (listed.setIfInBounds i true).getD q true = true := hlq
            unfold doneA at hDp hDq
            split at hDp
            · cases hDp
            · rename_i hpi
              split at hDq
              · cases hDq
              · rename_i hqi
                rw [hset, if_neg hpi] at hlp
                rw [hset, if_neg hqi] at hlq
                exact hdis p q o o' hp hq hlp hDp hlq hDq
          · intro p o hp hlp hDp k hks hk
            have hlp : (listed.setIfInBounds i true).getD p true = true := hlp
            unfold doneA at hDp ⊢
            split at hDp
            · cases hDp
            · rename_i hpi
              rw [hset, if_neg hpi] at hlp
              have := hI1.anc p o hp hlp hDp k hks hk
              split
              · rfl
              · exact this
        unfold wpOp
        rw [hoi]
        simp only
        split
        · rename_i hw
          rw [if_pos hw] at key
          exact .inl key
        · rename_i hw
          rw [if_neg hw] at key
          exact key
      · -- it comes early
        have hlate : ∃ k o, k ∈ l1 ∧ ops[k]? = some o ∧ LateP P ops k i o oi := by
          apply Classical.byContradiction
          intro hno
          refine hallA fun k o hk ho => ?_
          rcases (hpair k o hk ho).2 with h4 | h4
          · exact h4
          · exact absurd ⟨k, o, hk, ho, h4⟩ hno
        obtain ⟨k0, o0, hk0, ho0, hL⟩ := hlate
        obtain ⟨_, hLl, hLg, ⟨d, hLd, hLn⟩, _, hLm⟩ := hL
        obtain ⟨sm, hrun1, hrun2⟩ := opsD_app hrun
        rw [opsD] at hrun2
        split at hrun2
        case h_2 => exact absurd hrun2 (by simp)
        rename_i sn hone
        obtain ⟨v, H', kk, hact, hsn, hkk, _⟩ := one_open hone
        have hl1 : ∀ o ∈ opsAt ops l1, Sep ops.toList o oi := fun o ho => by
          obtain ⟨k, hk, hk'⟩ := opsAt_mem ho
          exact slotsApart_spec (hpair k o hk hk').1
        have hact1 : actA P cal ops.toList oi ⟨st1.env, sm.H⟩ = some (v, H', kk) := by
          rw [← hact]
          refine actA_congr (env := sm.env) (H := sm.H) fun t ht => ?_
          exact (opsD_env (fun o ho he => (hl1 o ho).1 t he ht) hrun1).symm
        obtain ⟨hopT, hkkT⟩ := late_opT hLl hLg hact1
        have hkt := late_k hLl (fun ha => (hLm ha).2) hact1 hkk
        subst hkt
        obtain ⟨c, w2, xb, hrunc, hT, hPb, hProm⟩ := late_run hLl hI1.tr.hr hI1.env hopT fun happ => ⟨show keepsB st1.H sm.H from ops_keeps hcal (fun o ho => by
          obtain ⟨k, hk, hk'⟩ := opsAt_mem ho
          rcases (hpair k o hk hk').2 with h4 | h4
          · exact .inl (apart_soft h4 (late_soft hLl))
          · exact .inr ⟨h4.1, (h4.2.2.2.2.2 happ).1⟩) hrun1, hkkT.symm⟩
        have hdrop : ∀ t, t ≠ d → (st1.drop d).env t = st1.env t := fun t ht => if_neg ht
        have hnew : wpAny P .any ops Q fuel (listed.setIfInBounds i true) (a.put oi.dst c) w2 := by
          refine ih (D := D1) (st := st1.drop d) (M := M) (e := e1) hlen (by simpa using hs) hcl' ⟨?_, hI1.tr.trans hT, ?_, put_size.trans hI1.size, ?_, ⟨fun q => if q = i then xb else x q, ?_, ?_⟩, ?_⟩ (put_defers.trans hdf)
          · rw [h1, opsAt_app, opsAt_cons hoi]
            refine opsD_join (opsD_drop (fun o ho => ⟨(hl1 o ho).2.2 d hLd, fun he => (hl1 o ho).2.1 d he hLd⟩) hrun1) ?_
            rw [opsD, oneD_drop_self hLn hLd hone]
            exact hrun2
          · intro t y hy
            simp only [St.drop] at hy
            split at hy
            · cases hy
            · rename_i htd
              rw [put_get (fun he => htd (by rw [hLd] at he; injection he with he; exact he.symm))]
              exact hI1.env t y hy
          · intro k hk hkD
            show (listed.setIfInBounds i true).getD k true = true
            rw [hset]
            split
            · rfl
            · exact hI1.sub k hk hkD
          · intro p o hp hlp hDp
            have hlp : (listed.setIfInBounds i true).getD p true = true := hlp
            by_cases hpi : p = i
            · subst hpi
              obtain rfl := Option.some.inj (hoi.symm.trans hp)
              dsimp only
              rw [if_pos rfl]
              refine ⟨hLl, hLg, fun ha => (hLm ha).2, ⟨d, c, st1.env, st1.H, M, e1, hLd, ?_, if_pos rfl, fun t ht => hdrop t fun he => hLn (he ▸ ht), Mle.refl _, RR.le.refl _, fun _ => keepsB.refl _, hProm⟩, fun b ob hb => ?_⟩
              · rw [hLd]
                simp only [Act.put]
                rw [Array.getD_eq_getD_getElem?, Array.getElem?_setIfInBounds_self_of_lt (hdi d hLd)]
                rfl
              · have := hPb b ob hb
                exact ⟨this.at_, this.out, this.mem, Nat.le_trans hI1.tr.size this.new⟩
            · dsimp only
              rw [if_neg hpi]
              rw [hset, if_neg hpi] at hlp
              have hs' := hsep p o hp hlp hDp
              refine (hx p o hp hlp hDp).step hT.mle hT.rle (fun d' hd' => ⟨put_get fun he => hs'.2.1 d' he hd', fun hn => ?_⟩) (fun t ht => hdrop t fun he => hs'.1 d hLd (he ▸ ht)) (fun _ => keepsB.refl _) fun b ob _ hPb => hPb.step hT
              rw [hdrop d' fun he => hs'.2.1 d hLd (he ▸ hd')]; exact hn
          · intro p q o o' hp hq hlp hDp hlq hDq hpq u u' hu hu'
            have hlp : (listed.setIfInBounds i true).getD p true = true := hlp
            have hlq : (listed.setIfInBounds i true).getD q true = true := hlq
            dsimp only at hu hu'
            have hlt : ∀ r o, ops[r]? = some o → listed.getD r true = true → D1 r = false → ∀ y, x r = some y → y.1 < w.heap.size := by
              intro r o hr hlr hDr y hy
              exact (Array.getElem?_eq_some_iff.1 ((hx r o hr hlr hDr).blk y.1 y.2 hy).at_).1
            by_cases hpi : p = i
            · rw [if_pos hpi] at hu
              have hqi : q ≠ i := fun h => hpq (hpi.trans h.symm)
              rw [if_neg hqi] at hu'
              rw [hset, if_neg hqi] at hlq
              have h4 := (hPb u.1 u.2 hu).new
              have h5 := hlt q o' hq hlq hDq u' hu'
              omega
            · rw [if_neg hpi] at hu
              rw [hset, if_neg hpi] at hlp
              by_cases hqi : q = i
              · rw [if_pos hqi] at hu'
                have h4 := (hPb u'.1 u'.2 hu').new
                have h5 := hlt p o hp hlp hDp u hu
                omega
              · rw [if_neg hqi] at hu'
                rw [hset, if_neg hqi] at hlq
                exact hdis p q o o' hp hq hlp hDp hlq hDq hpq u u' hu hu'
          · intro p o hp hlp hDp k hks hk
            have hlp : (listed.setIfInBounds i true).getD p true = true := hlp
            by_cases hpi : p = i
            · rw [hpi] at hk
              cases hq : D1 k with
              | true => rfl
              | false =>
                rw [hbit k hq hks] at hk; cases hk
            · rw [hset, if_neg hpi] at hlp
              exact hI1.anc p o hp hlp hDp k hks hk
        unfold wpOp
        rw [hoi]
        simp only
        have hw : Region.wanted oi (yielded ops a.tmps) = true := by
          unfold Region.wanted
          rw [hLg]
        rw [if_pos hw]
        refine .inl ?_
        unfold Oper.wp
        rw [hrunc, Oper.upon_value]
        exact hnew
theorem any_sound {ops : Array Oper} (hck : Checked P ops) {nt : Nat} (hd : ∀ (i : Nat) (o : Oper), ops[i]? = some o → ∀ d, o.dst = some d → d < nt) {Q : Exit → Act → World → Prop} (fuel : Nat) {listed : Array Bool} {st st' : St}
    (hf : (rem ops.size listed).length = fuel) (hs : listed.size = ops.size) (hcl : Closed ops listed) (ho : opsD (mixAt P ops) P cal ops.toList (opsAt ops (rem ops.size listed)) st = some st') {M : Mem} {e : RR} {w : World} {a : Act} (h : HR M e st.H w) (hE : EnvR M e st.env a.tmps) (hsz : a.tmps.size = nt)
    (hQ : ∀ a' M' e' w', Tr M e st.H w M' e' st'.H w' → EnvR M' e' st'.env a'.tmps → a'.tmps.size = a.tmps.size → a'.defers = a.defers → Q .normal a' w') : wpAny P .any ops Q fuel listed a w := by
  refine any_late hcal hck hd (df := a) (fun a' M' e' w' hT hE' hs' hdf => hQ a' M' e' w' hT hE' (hs'.trans hsz.symm) hdf) fuel (D := fun k => listed.getD k true) hf hs hcl ⟨ho, Tr.refl h, hE, hsz, fun k _ hk => hk, ⟨fun _ => none, fun p o _ h1 h2 => ?_, fun p q o o' _ _ h1 h2 => ?_⟩, fun p o _ h1 h2 => ?_⟩ rfl
  · rw [h1] at h2; cases h2
  · rw [h1] at h2; cases h2
  · rw [h1] at h2; cases h2
end
theorem opsDT_run {β : Type} {P : Program} {cal : CalT} {mx : Bool → Option Tmp → Bool} {ops : List Oper} : ∀ {l : List Oper} {st : St} {K : St → DT β} {r : β}, (opsDT P cal mx ops l st K).run = some r → ∃ st', opsD mx P cal ops l st = some st' ∧ (K st').run = some r
  | [], st, K, r, h => ⟨st, rfl, h⟩
  | o :: l, st, K, r, h => by
    rw [opsDT] at h
    split at h
    · exact (run_no h).elim
    rename_i hld
    obtain ⟨k, st1, h1, h2⟩ := oneT_run h
    have go : (opsDT P cal mx ops l st1 K).run = some r → ¬ (mx false o.dst = true ∧ isSoft P o.op = true ∧ k = false) → ∃ st', opsD mx P cal ops (o :: l) st = some st' ∧ (K st').run = some r := by
      intro h2 hne
      obtain ⟨st2, h3, h4⟩ := opsDT_run h2
      refine ⟨st2, ?_, h4⟩
      rw [opsD]
      have : oneD mx P cal ops o st = some st1 := by
        unfold oneD
        rw [h1]
        simp only
        rw [if_neg (fun hh => hh.elim hne (fun h2 => by rw [hld] at h2; cases h2))]
      rw [this]
      exact h3
    split at h2
    · split at h2
      · exact (run_no h2).elim
      · rename_i hmx
        exact go h2 fun hh => by rw [hmx] at hh; cases hh.1
    · rename_i hne
      exact go h2 fun hh => hne hh.2.1 hh.2.2
end Go.Sm
/- Code, loops, functions: what the evaluator finds is what Go does. Conditions: the program's orders are mixed ones; its text passes 'codeOk'. -/
set_option linter.unusedVariables false
set_option linter.unusedSimpArgs false
set_option linter.unusedSectionVars false
namespace Go.Sm

def Ex.out : Ex → Exit
  | .nrm => .normal
  | .ret => .ret
  | .ext id => .exit id
theorem readL_sound {M : Mem} {e : RR} {env : Env} {tmps : Array Value} (hE : EnvR M e env tmps) : ∀ {keep : List Nat} {vs : List AV}, readL env keep = some vs → CR M e vs (keep.map fun i => tmps.getD i undef).toArray
  | [], vs, h => by
    rw [readL] at h
    obtain rfl := Option.some.inj h
    exact ⟨rfl, fun _ _ _ h => by simp at h⟩
  | i :: r, vs, h => by
    rw [readL] at h
    split at h
    · rename_i v h1
      split at h
      · rename_i vs' h2
        obtain rfl := Option.some.inj h
        have ih := readL_sound hE h2
        refine ⟨by simpa using ih.size, fun k y c hy hc => ?_⟩
        cases k with
        | zero =>
          simp at hy hc
          subst hy
          subst hc
          have := hE i _ h1
          rwa [Array.getD_eq_getD_getElem?] at this
        | succ k => exact ih.get k y c (by simpa using hy) (by simpa using hc)
      · exact absurd h (by simp)
    · exact absurd h (by simp)
theorem writeL_sound {M : Mem} {e : RR} {tmps : Array Value} : ∀ {keep : List Nat} {vs : List AV}, CR M e vs (keep.map fun i => tmps.getD i undef).toArray → EnvR M e (writeL keep vs) tmps
  | [], vs, _ => by
    cases vs <;> intro t x hx <;> simp [writeL, emp] at hx
  | i :: r, [], _ => fun t x hx => by simp [writeL, emp] at hx
  | i :: r, v :: vs, h => by
    intro t x hx
    simp only [writeL, upd] at hx
    split at hx
    · rename_i ht
      subst ht
      obtain rfl := Option.some.inj hx
      exact h.get 0 _ _ rfl rfl
    · refine writeL_sound (keep := r) (vs := vs) ⟨by have := h.size; simpa using this, fun k y c hy hc => ?_⟩ t x hx
      exact h.get (k + 1) y c (by simpa using hy) (by simpa using hc)
/-- How far a function has come. -/
structure At (M0 : Mem) (e0 : RR) (H0 : List AB) (w0 : World) (s0 : Nat) (st : St) (M : Mem) (e : RR) (w : World) (a : Act) : Prop where
  tr : Tr M0 e0 H0 w0 M e st.H w
  env : EnvR M e st.env a.tmps
  size : a.tmps.size = s0
  defers : a.defers = []
/-- The same, of the slots that are kept. -/
structure AtL (M0 : Mem) (e0 : RR) (H0 : List AB) (w0 : World) (s0 : Nat) (keep : List (Nat × Option Cd)) (vs : List AV) (H : List AB) (M : Mem) (e : RR) (w : World) (a : Act) : Prop where
  tr : Tr M0 e0 H0 w0 M e H w
  slots : CR M e vs ((keep.map Prod.fst).map fun i => a.tmps.getD i undef).toArray
  size : a.tmps.size = s0
  defers : a.defers = []
theorem AtL.at {M0 : Mem} {e0 : RR} {H0 : List AB} {w0 : World} {s0 : Nat} {keep : List (Nat × Option Cd)} {vs : List AV} {H : List AB} {M : Mem} {e : RR} {w : World} {a : Act} (h : AtL M0 e0 H0 w0 s0 keep vs H M e w a) :
    At M0 e0 H0 w0 s0 ⟨writeL (keep.map Prod.fst) vs, H⟩ M e w a := ⟨h.tr, writeL_sound h.slots, h.size, h.defers⟩
structure Begin (M0 : Mem) (e0 : RR) (H0 : List AB) (w0 : World) : Prop where
  hr : HR M0 e0 H0 w0
  young : young H0 = true
theorem Begin.len {M0 : Mem} {e0 : RR} {H0 : List AB} {w0 : World} (h : Begin M0 e0 H0 w0) {b : Nat} (hb : b < H0.length) (ha : e0.arr b = true) : e0.len b = 0 := by
  have hx : H0[b]? = some H0[b] := List.getElem?_eq_getElem hb
  have hk := h.hr.kind b _ hx
  rw [ha] at hk
  have hy := h.young
  unfold Sm.young at hy
  have h1 := List.all_eq_true.1 hy _ (List.getElem_mem hb)
  have hblk := h.hr.blk b _ hx
  cases hq : H0[b] with
  | arr ice v c l =>
    rw [hq] at h1 hblk
    simp only [decide_eq_true_eq] at h1
    rw [hblk.1, h1]
  | cells cs => rw [hq] at hk; cases hk
  | iter s p => rw [hq] at hk; cases hk
theorem Tr.keep {M0 : Mem} {e0 : RR} {H0 : List AB} {w0 : World} {M : Mem} {e e' : RR} {H H' : List AB} {w : World} {bump : Bool} (h : Tr M0 e0 H0 w0 M e H w) (hB : Begin M0 e0 H0 w0) (hr : HR M e' H' w) (hf : ∀ i, foot e' H' i → foot e H i) (hle : H0.length ≤ e'.N)
    (hsame : ∀ b, b < H0.length → e'.ρ b = e.ρ b ∧ e'.g b = e.g b ∧ e'.cnt b = e.cnt b ∧ e'.arr b = e.arr b ∧ (e.arr b = true → e'.len b = cond bump 1 (e.len b))) : Tr M0 e0 H0 w0 M e' H' w where
  mle := h.mle
  rle := by
    have hN := hB.hr.N
    refine ⟨by omega, fun b hb => ?_, fun b hb => ?_, fun b hb ha => ?_, fun b hb ha hq => ?_⟩
    · rw [(hsame b (by omega)).1]; exact h.rle.ρ b hb
    · rw [(hsame b (by omega)).2.2.2.1]; exact h.rle.arr b hb
    · obtain ⟨_, _, _, _, h5⟩ := hsame b (by omega)
      rw [h5 ((h.rle.arr b hb).trans ha)]
      cases bump with
      | true => rw [hB.len (by omega) ha]; exact Nat.zero_le _
      | false => exact h.rle.len b hb ha
    · obtain ⟨_, h2, h3, _, h5⟩ := hsame b (by omega)
      rw [h5 ((h.rle.arr b hb).trans ha)] at hq
      cases bump with
      | true => rw [hB.len (by omega) ha] at hq; cases hq
      | false =>
        rw [h2, h3]
        exact h.rle.g b hb ha hq
  hr := hr
  os := h.os
  tape := h.tape
  output := h.output
  size := h.size
  same := h.same
  ids i hi := h.ids i (hf i hi)
  fresh := h.fresh
theorem Tr.len_le {M0 : Mem} {e0 : RR} {H0 : List AB} {w0 : World} {M : Mem} {e : RR} {H : List AB} {w : World} (hB : Begin M0 e0 H0 w0) (h : Tr M0 e0 H0 w0 M e H w) : H0.length ≤ H.length := by
  have h1 := h.rle.N
  rw [hB.hr.N, h.hr.N] at h1
  exact h1
theorem range_all : ∀ (l : List Oper), (List.range l.length).filterMap (fun i => l[i]?) = l
  | [] => rfl
  | o :: r => by
    rw [List.length_cons, List.range_succ_eq_map, List.filterMap_cons]
    simp only [List.getElem?_cons_zero, List.filterMap_map]
    congr 1
    have := range_all r
    simpa [Function.comp_def] using this
theorem opsAt_all (ops : Array Oper) : opsAt ops (List.range ops.size) = ops.toList := by
  have := range_all ops.toList
  simpa [opsAt] using this
section
variable {M0 : Mem} {e0 : RR} {H0 : List AB} {w0 : World} {s0 : Nat}
/-- What is kept of a state. -/
theorem trim_sound (hB : Begin M0 e0 H0 w0) {bump : Bool} {keep : List (Nat × Option Cd)} {st : St} {vs : List AV} {H : List AB} (ht : trimT H0.length bump keep st = some (vs, H)) {M : Mem} {e : RR} {w : World} {a : Act} (hA : At M0 e0 H0 w0 s0 st M e w a) :
    ∃ e', AtL M0 e0 H0 w0 s0 keep vs H M e' w a := by
  unfold trimT at ht
  split at ht
  · exact absurd ht (by simp)
  · rename_i vs0 hvs
    obtain ⟨e1, h1, h2, _⟩ := own_sound (os := keep.map Prod.snd) hA.tr.hr (readL_sound hA.env hvs)
    have hT := hA.tr.trans h1
    obtain ⟨e', h3, h4, h5, h6, h7⟩ := gc_sound hT.hr (Tr.len_le hB hT) h2 ht
    exact ⟨e', hT.keep hB h3 h5 h6 h7, h4, hA.size, hA.defers⟩
end

/-! ### Loops -/
/-- A loop does as its contract says. -/
def LoopOk (P : Program) (nt : Nat) (kp : Keep) (N : Nat) (bump : Bool) (b : Code) (L : LT) : Prop :=
  ∀ vs H ex vs' H', (L vs H).run = some (ex, vs', H') → ∀ (M0 : Mem) (e0 : RR) (H0 : List AB) (w0 : World) (s0 : Nat), nt ≤ s0 → Begin M0 e0 H0 w0 → H0.length = N → ∀ (M : Mem) (e : RR) (w : World) (a : Act),
    AtL M0 e0 H0 w0 s0 (kp (keyOf b) 0) vs H M e w a → ∀ (Q : Exit → Act → World → Prop),
    (∀ a' M' e' w', AtL M0 e0 H0 w0 s0 (kp (keyOf b) ex.num) vs' H' M' e' w' a' → Q ex.out a' w') → ∃ k, Code.rounds P b Q k a w
def loopsOf : Code → List Code
  | .seq a b => loopsOf a ++ loopsOf b
  | .cond _ a b => loopsOf a ++ loopsOf b
  | .block _ b => loopsOf b
  | .loop b => b :: loopsOf b
  | _ => []
def LpsOk (P : Program) (nt : Nat) (kp : Keep) (N : Nat) (bump : Bool) (lps : Lps) : List Code → Prop
  | [] => True
  | b :: r => (∀ L, lps (keyOf b) = some L → LoopOk P nt kp N bump b L) ∧ LpsOk P nt kp N bump lps r
theorem LpsOk.append {P : Program} {nt : Nat} {kp : Keep} {N : Nat} {bump : Bool} {lps : Lps} : ∀ {l m : List Code}, LpsOk P nt kp N bump lps (l ++ m) → LpsOk P nt kp N bump lps l ∧ LpsOk P nt kp N bump lps m
  | [], m, h => ⟨trivial, h⟩
  | b :: l, m, h => ⟨⟨h.1, (LpsOk.append h.2).1⟩, (LpsOk.append h.2).2⟩

section
variable {P : Program} (hm : P.follows .mixedOrders = true) {cal : CalT} (hcal : ∀ f p, cal f = some p → SoundT P f p.2)
include hm hcal
theorem evT_sound {kp : Keep} {lps : Lps} {bump : Bool} {nt s0 : Nat} {M0 : Mem} {e0 : RR} {H0 : List AB} {w0 : World} (hB : Begin M0 e0 H0 w0) (hnt : nt ≤ s0) : ∀ (c : Code), codeOk P nt c = true → LpsOk P nt kp H0.length bump lps (loopsOf c) → ∀ {β : Type} {st : St} {K : Ex → St → DT β} {r : β},
    (evT P cal kp lps H0.length bump c st K).run = some r → ∀ {M : Mem} {e : RR} {w : World} {a : Act}, At M0 e0 H0 w0 s0 st M e w a → ∀ {Q : Exit → Act → World → Prop},
    (∀ ex st' a' M' e' w', (K ex st').run = some r → At M0 e0 H0 w0 s0 st' M' e' w' a' → Q ex.out a' w') → c.wp P Q a w := by
  intro c
  induction c with
  | skip =>
    intro hok hl β st K r hr M e w a hA Q hQ
    exact wp_skip (hQ .nrm st _ _ _ _ hr hA)
  | exit id =>
    intro hok hl β st K r hr M e w a hA Q hQ
    exact wp_exit (hQ (.ext id) st _ _ _ _ hr hA)
  | ret =>
    intro hok hl β st K r hr M e w a hA Q hQ
    exact wp_ret (hQ .ret st _ _ _ _ hr hA)
  | region id ops d =>
    intro hok hl β st K r hr M e w a hA Q hQ
    rw [codeOk, Bool.and_eq_true] at hok
    have hdst : ∀ (i : Nat) (o : Oper), ops[i]? = some o → ∀ x, o.dst = some x → x < s0 := by
      intro i o ho x hx
      have := hok.1
      unfold opsIn at this
      have h1 := (Array.all_eq_true_iff_forall_mem.1 this) o (Array.mem_of_getElem? ho)
      rw [hx] at h1
      simp only [decide_eq_true_eq] at h1
      exact Nat.lt_of_lt_of_le h1 hnt
    cases d with
    | false =>
      rw [evT] at hr
      obtain ⟨st1, h1, h2⟩ := opsT_run hr
      refine wp_region_list (opsA_sound hcal h1 hA.tr.hr hA.env (fun o ho x hx => ?_) fun a' M' e' w' hT hE hs hd => hQ .nrm st1 a' M' e' w' h2 ⟨hA.tr.trans hT, hE, hs.trans hA.size, hd.trans hA.defers⟩)
      obtain ⟨i, hi⟩ := List.mem_iff_getElem?.1 ho
      rw [hA.size]
      exact hdst i o (by simpa using hi) x hx
    | true =>
      rw [evT] at hr
      obtain ⟨st1, h1, h2⟩ := opsDT_run hr
      have hck := checked_of (by simpa using hok.2)
      refine wp_region_any hm ?_
      have hTd := Tr.drew hA.tr.hr
      have hrem : rem ops.size (Array.replicate ops.size false) = List.range ops.size := by
        unfold rem
        apply List.filter_eq_self.2
        intro i hi
        have := List.mem_range.1 hi
        simp [Array.getD_eq_getD_getElem?, this]
      have hall : opsAt ops (List.range ops.size) = ops.toList := opsAt_all ops
      refine any_sound hcal hck hdst (nt := s0) ops.size (by rw [hrem]; simp) (by simp) (fun j o hj hl => ?_) (by rw [hrem, hall]; exact h1) (w := w.drew) hTd.hr hA.env hA.size fun a' M' e' w' hT hE hs hd => ?_
      · have hlt := (Array.getElem?_eq_some_iff.1 hj).1
        rw [Array.getD_eq_getD_getElem?] at hl
        simp [hlt] at hl
      · exact hQ .nrm st1 a' M' e' w' h2 ⟨hA.tr.trans (hTd.trans hT), hE, hs.trans hA.size, hd.trans hA.defers⟩
  | seq x y ihx ihy =>
    intro hok hl β st K r hr M e w a hA Q hQ
    rw [codeOk, Bool.and_eq_true] at hok
    rw [loopsOf] at hl
    obtain ⟨hlx, hly⟩ := hl.append
    rw [evT] at hr
    refine wp_seq ?_
    refine ihx hok.1 hlx hr hA fun ex st' a' M' e' w' hK hA' => ?_
    cases ex with
    | nrm => exact ihy hok.2 hly hK hA' hQ
    | ret => exact hQ _ _ _ _ _ _ hK hA'
    | ext id => exact hQ _ _ _ _ _ _ hK hA'
  | cond cnd x y ihx ihy =>
    intro hok hl β st K r hr M e w a hA Q hQ
    rw [codeOk, Bool.and_eq_true] at hok
    rw [loopsOf] at hl
    obtain ⟨hlx, hly⟩ := hl.append
    rw [evT] at hr
    split at hr
    · rename_i t ht
      have hv := opd_sound hA.env ht
      generalize hc : a.eval cnd = c at hv
      cases hv
      refine wp_cond hc ?_
      rcases run_ite hr with ⟨rfl, hr⟩ | ⟨rfl, hr⟩
      · rw [knowO_eq ht] at hr
        exact ihx hok.1 hlx hr hA hQ
      · rw [knowO_eq ht] at hr
        exact ihy hok.2 hly hr hA hQ
    · exact (run_no hr).elim
  | block id b ih =>
    intro hok hl β st K r hr M e w a hA Q hQ
    rw [codeOk] at hok
    rw [loopsOf] at hl
    rw [evT] at hr
    refine wp_block ?_
    refine ih hok hl hr hA fun ex st' a' M' e' w' hK hA' => ?_
    cases ex with
    | nrm => exact hQ _ _ _ _ _ _ hK hA'
    | ret => exact hQ _ _ _ _ _ _ hK hA'
    | ext j =>
      simp only at hK
      split at hK
      · rename_i hj
        obtain rfl := of_decide_eq_true hj
        simp only [Ex.out, Exit.inBlock, if_true]
        exact hQ _ _ _ _ _ _ hK hA'
      · rename_i hj
        have hj := of_decide_eq_false hj
        simp only [Ex.out, Exit.inBlock]
        rw [if_neg hj]
        exact hQ _ _ _ _ _ _ hK hA'
  | loop b ih =>
    intro hok hl β st K r hr M e w a hA Q hQ
    rw [codeOk] at hok
    rw [loopsOf] at hl
    rw [evT] at hr
    split at hr
    · rename_i L hL
      split at hr
      · rename_i vs H ht
        obtain ⟨⟨ex, vs', H'⟩, h1, h2⟩ := bind_run hr
        obtain ⟨e', hA'⟩ := trim_sound hB ht hA
        obtain ⟨k, hk⟩ := hl.1 L hL vs H ex vs' H' h1 M0 e0 H0 w0 s0 hnt hB rfl M e' w a hA' Q fun a' M' e' w' hA' => hQ ex _ a' M' e' w' h2 hA'.at
        exact wp_loop_rounds k hk
      · exact (run_no hr).elim
    · refine wp_loop_rounds 12 ?_
      have key : ∀ (n : Nat) {st : St}, (iterT (evT P cal kp lps H0.length bump b) (trim H0.length bump (kp (keyOf b) 0)) n st fun ex st' => match trim H0.length bump (kp (keyOf b) ex.num) st' with | some st2 => K ex st2 | none => .no).run = some r →
          ∀ {M : Mem} {e : RR} {w : World} {a : Act}, At M0 e0 H0 w0 s0 st M e w a → Code.rounds P b Q n a w := by
        intro n
        induction n with
        | zero => intro st h; exact (run_no h).elim
        | succ n ihn =>
          intro st h M e w a hA
          rw [iterT] at h
          split at h
          · exact (run_no h).elim
          · rename_i st1 htr
            unfold trim at htr
            split at htr
            · rename_i vs H ht
              obtain rfl := Option.some.inj htr
              obtain ⟨e', hA1⟩ := trim_sound hB ht hA
              rw [rounds_succ]
              refine ih hok hl.2 h hA1.at fun ex st' a' M' e' w' hK hA' => ?_
              have left : ∀ ex : Ex, (match trim H0.length bump (kp (keyOf b) ex.num) st' with | some st2 => K ex st2 | none => .no).run = some r → Q ex.out a' w' := by
                intro ex hK
                split at hK
                · rename_i st2 htr
                  unfold trim at htr
                  split at htr
                  · rename_i vs2 H2 ht2
                    obtain rfl := Option.some.inj htr
                    obtain ⟨e2, hA2⟩ := trim_sound hB ht2 hA'
                    exact hQ ex _ _ _ _ _ hK hA2.at
                  · exact absurd htr (by simp)
                · exact (run_no hK).elim
              cases ex with
              | nrm => exact ihn hK hA'
              | ret => exact left .ret hK
              | ext id => exact left (.ext id) hK
            · exact absurd htr (by simp)
      exact key 12 hr hA
  | _ =>
    intros
    rename_i hr _ _ _ _ _ _ _
    exact (run_no hr).elim

/-! ### Functions -/
theorem envOf_sound {M : Mem} {e : RR} {tmps : Array Value} : ∀ (args : List AV) (k : Nat), (∀ (i : Nat) (x : AV), args[i]? = some x → VR M e x (tmps.getD (k + i) undef)) → EnvR M e (envOf args k) tmps
  | [], k, _ => fun t x hx => by simp [envOf, emp] at hx
  | v :: r, k, h => by
    intro t x hx
    simp only [envOf, upd] at hx
    split at hx
    · rename_i ht
      subst ht
      obtain rfl := Option.some.inj hx
      exact h 0 _ rfl
    · exact envOf_sound r (k + 1) (fun i y hy => by
        have := h (i + 1) y (by simpa using hy)
        rwa [show k + (i + 1) = k + 1 + i by omega] at this) t x hx
def resM (tmps : Array Value) : ResultVar → Sem Value
  | .tmp t => pure (tmps.getD t undef)
  | .cell x t => do loadVar t (← asAddr (tmps.getD x undef))
theorem resL_sound {st : St} {M : Mem} {e : RR} {w : World} {a : Act} (h : HR M e st.H w) (hE : EnvR M e st.env a.tmps) : ∀ {l : List ResultVar} {vs : List AV}, resL P st l = some vs →
    ∃ cs : List Value, (l.mapM (resM a.tmps)).run P w = .ok cs w ∧ CR M e vs cs.toArray
  | [], vs, hr => by
    rw [resL] at hr
    obtain rfl := Option.some.inj hr
    exact ⟨[], by simp, rfl, fun _ _ _ h => by simp at h⟩
  | x :: r, vs, hr => by
    rw [resL] at hr
    split at hr
    · rename_i v h1
      split at hr
      · rename_i vs' h2
        obtain rfl := Option.some.inj hr
        obtain ⟨cs, h3, h4⟩ := resL_sound h hE h2
        have hx : ∃ c, (resM a.tmps x).run P w = .ok c w ∧ VR M e v c := by
          cases x with
          | tmp t => exact ⟨_, rfl, hE t _ h1⟩
          | cell p t =>
            simp only [resA] at h1
            split at h1
            · rename_i ti b o hT hp
              split at h1
              · rename_i cells hb
                have hv := hE p _ hp
                obtain ⟨ho, arr, ty, h5, h6, h7⟩ := h.blk b _ hb
                generalize hc : a.tmps.getD p undef = c at hv
                cases hv with
                | ptr hbN =>
                  obtain ⟨c, h8, h9⟩ := load_sound (P := P) (M := M) (e := e) (w := w) hT h1 ho (g := e.ρ b) (p := 0) (fun j => arr.getD j undef) (fun j y hy => by
                    obtain ⟨u, hu, _⟩ := h6.at hy
                    simp [World.cell?, h5, hu, Array.getD_eq_getD_getElem?]) (fun j y hy => by
                    obtain ⟨u, hu, hvu⟩ := h6.at hy
                    rw [Array.getD_eq_getD_getElem?, hu]
                    exact hvu)
                  refine ⟨c, ?_, h9⟩
                  simp only [resM, hc, asAddr, Sem.run_bind, Sem.run_pure, Result.andThen_ok]
                  simpa using h8
              · exact absurd h1 (by simp)
            · exact absurd h1 (by simp)
        obtain ⟨c, h5, h6⟩ := hx
        refine ⟨c :: cs, ?_, ?_⟩
        · simp only [List.mapM_cons, Sem.run_bind, h5, Result.andThen_ok, h3, Sem.run_pure]
        · refine ⟨by have := h4.size; simpa using this, fun i y u hy hu => ?_⟩
          cases i with
          | zero => simp at hy hu; subst hy; subst hu; exact h6
          | succ i => exact h4.get i y u (by simpa using hy) (by simpa using hu)
      · exact absurd hr (by simp)
    · exact absurd hr (by simp)

/-- A function. -/
theorem fn_sound {f : FuncId} {fn : Func} {c : Code} (hf : P.funcs[f]? = some fn) (hb : fn.body = some c) (hname : (fn.name == "runtime.NumGoroutine") = false) (hok : codeOk P fn.ntmps c = true) {kp : Keep} {lps : Lps} {bump ice : Bool} {args : List AV} {H : List AB}
    (hl : LpsOk P fn.ntmps kp H.length bump lps (loopsOf c)) {r : AV} {H' : List AB} (h : (fnT P cal kp lps bump ice fn args H).run = some (r, H')) : Sim P f args H r H' := by
  refine ⟨⟨fn, hf, by rw [hb]; rfl, hname⟩, fun M e w vs hr hargs => ?_⟩
  unfold fnT at h
  split at h
  case h_2 => exact (run_no h).elim
  rename_i c' hb' hyoung
  obtain rfl : c = c' := Option.some.inj (hb.symm.trans hb')
  have hB : Begin M e H w := ⟨hr, hyoung⟩
  refine calls_of_wp hf hb ?_
  have hsz : (vs ++ Array.replicate (fn.ntmps - vs.size) undef).size = vs.size + (fn.ntmps - vs.size) := by simp
  have hA : At M e H w (vs.size + (fn.ntmps - vs.size)) ⟨envOf args 0, H⟩ M e w { tmps := vs ++ Array.replicate (fn.ntmps - vs.size) undef, defers := [] } := by
    refine ⟨Tr.refl hr, envOf_sound hm hcal args 0 fun i x hx => ?_, hsz, rfl⟩
    obtain ⟨v, hv, hxv⟩ := hargs.at hx
    have hi := (Array.getElem?_eq_some_iff.1 hv).1
    rw [Nat.zero_add, Array.getD_eq_getD_getElem?, Array.getElem?_append_left hi, hv]
    exact hxv
  refine evT_sound hm hcal hB (nt := fn.ntmps) (by omega) c hok hl h hA fun ex st a' M' e' w' hend hA' => ?_
  unfold endT at hend
  split at hend
  · exact (run_no hend).elim
  rename_i hnext
  split at hend
  · exact (run_no hend).elim
  rename_i vals hvals
  obtain ⟨cs, hrun, hcs⟩ := resL_sound hm hcal hA'.tr.hr hA'.env hvals
  -- slices that are handed out for good
  have hice : ∃ M2, Tr M e H w M2 e' (iceL true st.H (lendFb ice st.H vals)) w' ∧ CR M2 e' (lendArgs ice st.H vals) cs.toArray := by
    cases ice with
    | false => exact ⟨M', hA'.tr, hcs⟩
    | true =>
      obtain ⟨M2, h1, _⟩ := ice_sound (fb := softB st.H (lentL st.H vals)) hA'.tr.hr
      exact ⟨M2, hA'.tr.trans h1, thawL_sound h1.mle h1.hr hcs fun b hb ice k c l hbb => lent_ice hb hbb⟩
  obtain ⟨M2, hT2, hcs2⟩ := hice
  have hres : ∀ v, (v = if h : cs.toArray.size = 1 then cs.toArray[0] else .tuple cs.toArray) → (results fn a'.tmps).run P w' = .ok v w' := by
    intro v hv
    show (do let vs ← fn.results.mapM (resM a'.tmps); pure (if h : vs.size = 1 then vs[0] else .tuple vs) : Sem Value).run P w' = _
    rw [← Array.toArray_toList (xs := fn.results), List.mapM_toArray]
    simp only [Sem.run_bind, Sem.run_map, hrun, Result.andThen_ok, Sem.run_pure, hv]
  have hpost : ∀ v, (v = if h : cs.toArray.size = 1 then cs.toArray[0] else .tuple cs.toArray) → (∃ M'' e'', Tr M e H w M'' e'' H' w' ∧ VR M'' e'' r v) → bodyPost P fn (fun en w' => ∃ c M' e', en = .returned c ∧ Tr M e H w M' e' H' w' ∧ VR M' e' r c) ex.out a' w' := by
    intro v hv hR
    obtain ⟨M'', e'', h1, h2⟩ := hR
    cases ex with
    | nrm => exact ⟨hA'.defers, v, hres v hv, v, M'', e'', rfl, h1, h2⟩
    | ret => exact ⟨hA'.defers, v, hres v hv, v, M'', e'', rfl, h1, h2⟩
    | ext id => exact (hnext id rfl).elim
  split at hend
  · rename_i v H1 hgc
    obtain ⟨rfl, rfl⟩ := Prod.mk.inj (run_ret hend)
    obtain ⟨e'', h1, h2, h3, h4, h5⟩ := gc_sound hT2.hr (Tr.len_le hB hT2) hcs2 hgc
    have hsize := h2.size
    simp at hsize
    obtain ⟨c0, rfl⟩ : ∃ c0, cs = [c0] := by
      match cs, hsize with
      | [c0], _ => exact ⟨c0, rfl⟩
    exact hpost c0 rfl ⟨M2, e'', hT2.keep hB h1 h3 h4 h5, h2.get 0 _ _ rfl rfl⟩
  · rename_i vs' H1 hne hgc
    obtain ⟨rfl, rfl⟩ := Prod.mk.inj (run_ret hend)
    obtain ⟨e'', h1, h2, h3, h4, h5⟩ := gc_sound hT2.hr (Tr.len_le hB hT2) hcs2 hgc
    have hn1 : ¬ cs.toArray.size = 1 := by
      intro h1
      have := h2.size
      rw [h1] at this
      obtain ⟨x, rfl⟩ : ∃ x, vs' = [x] := by
        match vs', this with
        | [x], _ => exact ⟨x, rfl⟩
      exact hne x rfl
    exact hpost (.tuple cs.toArray) (by rw [dif_neg hn1]) ⟨M2, e'', hT2.keep hB h1 h3 h4 h5, .tup h2.size h2.get⟩
  · exact (run_no hend).elim
end

/-! ### Tables of contracts -/
def lookT : List (FuncId × Bool × SpecT) → CalT
  | [], _ => none
  | (g, s) :: t, f => match decide (f = g) with
    | true => some s
    | false => lookT t f
def AllSound (P : Program) : List (FuncId × Bool × SpecT) → Prop
  | [] => True
  | p :: r => SoundT P p.1 p.2.2 ∧ AllSound P r
theorem lookT_sound {P : Program} : ∀ {t : List (FuncId × Bool × SpecT)}, AllSound P t → ∀ f p, lookT t f = some p → SoundT P f p.2
  | [], _, f, p, h => by cases h
  | (g, s) :: t, ht, f, p, h => by
    rw [lookT] at h
    split at h
    · rename_i hfg
      obtain rfl := of_decide_eq_true hfg
      obtain rfl := Option.some.inj h
      exact ht.1
    · exact lookT_sound ht.2 f p h
theorem AllSound.app {P : Program} : ∀ {l m : List (FuncId × Bool × SpecT)}, AllSound P l → AllSound P m → AllSound P (l ++ m)
  | [], m, _, h => h
  | p :: l, m, h, k => ⟨h.1, AllSound.app h.2 k⟩
def loopAt (fn : Func) (i : Nat) : Code :=
  match fn.body with
  | some c => (loopsOf c).getD i .skip
  | none => .skip
def keepT : List (Nat × Nat × List (Nat × Option Cd)) → Keep
  | [], _, _ => []
  | (k, e, l) :: t, k', e' => match decide (k = k'), decide (e = e') with
    | true, true => l
    | _, _ => keepT t k' e'
def loopsT : List (Nat × LT) → Lps
  | [], _ => none
  | (k, L) :: t, k' => match decide (k = k') with
    | true => some L
    | false => loopsT t k'
end Go.Sm
/- Arguments, slots and results as typed data; loops as partial functions; a function's contract is its evaluation. No condition but the program's mixed orders. -/
set_option linter.unusedVariables false
set_option linter.unusedSimpArgs false
namespace Go.Sm

/-! ### Loops as partial functions -/
def runS {α β : Type} (step : α → Option (α ⊕ β)) : Nat → α → Option β
  | 0, _ => none
  | n + 1, x => match step x with
    | none => none
    | some (.inl y) => runS step n y
    | some (.inr b) => some b
theorem runS_more {α β : Type} {step : α → Option (α ⊕ β)} : ∀ {n m : Nat} {x : α} {b : β}, runS step n x = some b → n ≤ m → runS step m x = some b
  | 0, _, _, _, h, _ => by cases h
  | n + 1, m, x, b, h, hm => by
    obtain ⟨m, rfl⟩ : ∃ k, m = k + 1 := ⟨m - 1, by omega⟩
    rw [runS] at h ⊢
    split at h
    · cases h
    · exact runS_more h (by omega)
    · exact h
open Classical in
noncomputable def whileO {α β : Type} (step : α → Option (α ⊕ β)) (x : α) : Option β :=
  if h : ∃ b n, runS step n x = some b then some h.choose else none
theorem whileO_iff {α β : Type} {step : α → Option (α ⊕ β)} {x : α} {b : β} : whileO step x = some b ↔ ∃ n, runS step n x = some b := by
  unfold whileO
  constructor
  · intro h
    split at h
    · rename_i hex
      obtain rfl := Option.some.inj h
      exact hex.choose_spec
    · cases h
  · rintro ⟨n, hn⟩
    have hex : ∃ b n, runS step n x = some b := ⟨b, n, hn⟩
    rw [dif_pos hex]
    obtain ⟨m, hm⟩ := hex.choose_spec
    have h1 := runS_more hn (Nat.le_max_left n m)
    have h2 := runS_more hm (Nat.le_max_right n m)
    rw [h1] at h2
    exact h2.symm
theorem whileO_eq {α β : Type} (step : α → Option (α ⊕ β)) (x : α) : whileO step x = (step x).bind (Sum.elim (whileO step) some) := by
  apply Option.ext
  intro b
  rw [whileO_iff]
  constructor
  · rintro ⟨n, hn⟩
    cases n with
    | zero => cases hn
    | succ n =>
      rw [runS] at hn
      split at hn
      · cases hn
      · rename_i y hy
        rw [hy]
        exact whileO_iff.2 ⟨n, hn⟩
      · rename_i c hc
        rw [hc]
        exact hn
  · intro h
    cases hs : step x with
    | none => rw [hs] at h; cases h
    | some z =>
      rw [hs] at h
      cases z with
      | inl y =>
        obtain ⟨n, hn⟩ := whileO_iff.1 h
        exact ⟨n + 1, by rw [runS, hs]; exact hn⟩
      | inr c => exact ⟨1, by rw [runS, hs]; exact h⟩

/-! ### The same small heap, with cells said otherwise -/
def Eqv (vs : List AV) (H : List AB) (vs' : List AV) (H' : List AB) : Prop :=
  ∀ (M : Mem) (e : RR) (w : World), HR M e H w → HR M e H' w ∧ (∀ i, foot e H' i ↔ foot e H i) ∧ ∀ cs, CR M e vs cs → CR M e vs' cs
theorem HR.repl {M : Mem} {e : RR} {H : List AB} {w : World} (h : HR M e H w) {b : Nat} {cs cs' : List AV} (hb : H[b]? = some (.cells cs)) (ho : ones cs') (hc : ∀ arr, CR M e cs arr → CR M e cs' arr) : HR M e (H.set b (.cells cs')) w ∧ ∀ i, foot e (H.set b (.cells cs')) i ↔ foot e H i := by
  have hcase : ∀ k y, (H.set b (.cells cs'))[k]? = some y → ∃ z, H[k]? = some z ∧ cid e k y = cid e k z ∧ y.isArr = z.isArr ∧ (BR M e w k z → BR M e w k y) := by
    intro k y hy
    rcases getElem?_set_cases hy with ⟨_, hz⟩ | ⟨rfl, rfl, _⟩
    · exact ⟨y, hz, rfl, rfl, fun h => h⟩
    · refine ⟨_, hb, rfl, rfl, ?_⟩
      rintro ⟨_, arr, ty, h2, h3, h4⟩
      exact ⟨ho, arr, ty, h2, hc arr h3, h4⟩
  refine ⟨⟨by rw [h.N]; simp, h.mem, fun k y hy => ?_, fun k k' y y' i hy hy' hi hi' => ?_, h.glob, fun k y hy => ?_⟩, fun i => ⟨?_, ?_⟩⟩
  · obtain ⟨z, hz, _, _, h4⟩ := hcase k y hy
    exact h4 (h.blk k z hz)
  · obtain ⟨z, hz, h2, _, _⟩ := hcase k y hy
    obtain ⟨z', hz', h2', _, _⟩ := hcase k' y' hy'
    exact h.inj k k' z z' i hz hz' (h2 ▸ hi) (h2' ▸ hi')
  · obtain ⟨z, hz, _, h3, _⟩ := hcase k y hy
    rw [h3]; exact h.kind k z hz
  · rintro ⟨k, y, hy, hi⟩
    obtain ⟨z, hz, h2, _, _⟩ := hcase k y hy
    exact ⟨k, z, hz, h2 ▸ hi⟩
  · rintro ⟨k, y, hy, hi⟩
    by_cases hk : k = b
    · subst hk
      rw [hb] at hy
      obtain rfl := Option.some.inj hy
      exact ⟨k, .cells cs', by rw [List.getElem?_set_self (List.getElem?_eq_some_iff.1 hb).1], hi⟩
    · exact ⟨k, y, by rw [List.getElem?_set_ne (fun h => hk h.symm)]; exact hy, hi⟩
theorem Eqv.refl (vs : List AV) (H : List AB) : Eqv vs H vs H := fun _ _ _ h => ⟨h, fun _ => Iff.rfl, fun _ hc => hc⟩
theorem Tr.eqv {M0 : Mem} {e0 : RR} {H0 H0' : List AB} {w0 : World} {M : Mem} {e : RR} {H H' : List AB} {w : World} (h : Tr M0 e0 H0 w0 M e H w) (h0 : ∀ i, foot e0 H0 i ↔ foot e0 H0' i) (hr : HR M e H' w) (hf : ∀ i, foot e H' i ↔ foot e H i) : Tr M0 e0 H0' w0 M e H' w where
  mle := h.mle
  rle := h.rle
  hr := hr
  os := h.os
  tape := h.tape
  output := h.output
  size := h.size
  same i hi hn := h.same i hi fun hf' => hn ((h0 i).1 hf')
  ids i hi := by
    rcases h.ids i ((hf i).1 hi) with h1 | h1
    · exact .inl ((h0 i).1 h1)
    · exact .inr h1
  fresh g o h1 h2 := by
    rcases h.fresh g o h1 h2 with h3 | h3
    · exact .inl ((h0 g).1 h3)
    · exact .inr h3
/-- The results of a call as a list. -/
def unR (n : Nat) (r : AV) : Option (List AV) :=
  match n with
  | 1 => some [r]
  | _ => match r with
    | .tup vs => some vs
    | _ => none
def mkR (n : Nat) (vs : List AV) : AV :=
  match n with
  | 1 => match vs with
    | [v] => v
    | vs => .tup vs
  | _ => .tup vs
theorem unR_sound {M : Mem} {e : RR} {n : Nat} {r : AV} {vs : List AV} (h : unR n r = some vs) {c : Value} (hv : VR M e r c) : ∃ cs, CR M e vs cs ∧ ∀ vs', CR M e vs' cs → VR M e (mkR n vs') c := by
  have tup : ∀ {vs : List AV} {r : AV}, r = .tup vs → VR M e r c → ∃ cs, CR M e vs cs ∧ ∀ vs', CR M e vs' cs → VR M e (.tup vs') c := by
    rintro vs r rfl hv
    cases hv with
    | tup hs hg => exact ⟨_, ⟨hs, hg⟩, fun vs' hc => .tup hc.size hc.get⟩
  unfold unR at h
  split at h
  · obtain rfl := Option.some.inj h
    refine ⟨#[c], ⟨rfl, fun i x v hx hv' => ?_⟩, fun vs' hc => ?_⟩
    · cases i with
      | zero => simp at hx hv'; subst hx; subst hv'; exact hv
      | succ i => simp at hx
    · have hs := hc.size
      match vs', hs with
      | [v], _ => exact hc.get 0 v c rfl rfl
  · rename_i hn
    split at h
    · obtain rfl := Option.some.inj h
      obtain ⟨cs, h1, h2⟩ := tup rfl hv
      refine ⟨cs, h1, fun vs' hc => ?_⟩
      have := h2 vs' hc
      unfold mkR
      split
      · exact absurd rfl hn
      · exact this
    · exact absurd h (by simp)
theorem Sim.eqv {P : Program} {f : FuncId} {vs vs' : List AV} {H H' : List AB} {r : AV} {H1 : List AB} (h : Sim P f vs' H' r H1) (hA : Eqv vs H vs' H') {n : Nat} {rs rs' : List AV} {H2 : List AB} (hu : unR n r = some rs) (hR : Eqv rs H1 rs' H2) : Sim P f vs H (mkR n rs') H2 := by
  refine ⟨h.there, fun M e w cs hr hc => ?_⟩
  obtain ⟨h1, h2, h3⟩ := hA M e w hr
  refine (h.calls M e w cs h1 (h3 cs hc)).mono ?_
  rintro en w' ⟨c, M', e', rfl, hT, hv⟩
  obtain ⟨k1, k2, k3⟩ := hR M' e' w' hT.hr
  obtain ⟨cs', q1, q2⟩ := unR_sound hu hv
  exact ⟨c, M', e', rfl, hT.eqv h2 k1 k2, q2 rs' (k3 cs' q1)⟩

/-! ### Codecs -/
structure Codec (σ : Type) where
  inj : σ → List AV × List AB
  dec : List AV → List AB → Option σ
  law : ∀ vs H x, dec vs H = some x → Eqv vs H (inj x).1 (inj x).2
/-- Cells: data; a slice of one's own; a slice whose memory stands elsewhere. -/
inductive CI where
  | p (c : Cd) | o (c : Cd) | r (b : Nat)
abbrev hdC : CI → Type
  | .p c => τ c
  | .o c => List (τ c)
  | .r _ => Unit
abbrev τCs : List CI → Type
  | [] => Unit
  | [x] => hdC x
  | x :: y :: r => hdC x × τCs (y :: r)
/-- Cells as data, just as data's cells are written. -/
def decS : (c : Cd) → List AV → Option (τ c × List AV)
  | .u8, .u8 b :: r => some (b, r)
  | .int k, .int k' n :: r => (match decide (k' = k) with | true => some (n, r) | false => none)
  | .bool, .bool b :: r => some (b, r)
  | .str, .str s :: r => some (s, r)
  | .err, .eno n :: r => some (n, r)
  | .lst c, .lst c' l :: r => (match castL l c with | some l' => some (l', r) | none => none)
  | .one c, cs => decS c cs
  | .pair a b, cs => (match decS a cs with
    | some (x, r) => (match decS b r with
      | some (y, r') => some ((x, y), r')
      | none => none)
    | none => none)
  | _, _ => none
theorem decS_eq : ∀ (c : Cd) {vs r : List AV} {a : τ c}, decS c vs = some (a, r) → vs = cellsC c a ++ r := by
  intro c
  induction c with
  | u8 =>
    intro vs r a h
    match vs, h with
    | .u8 b :: r', h => obtain ⟨rfl, rfl⟩ := Prod.mk.inj (Option.some.inj h); rfl
  | int k =>
    intro vs r a h
    match vs, h with
    | .int k' n :: r', h =>
      simp only [decS] at h
      split at h
      · rename_i hk
        obtain ⟨rfl, rfl⟩ := Prod.mk.inj (Option.some.inj h)
        rw [of_decide_eq_true hk]
        rfl
      · exact absurd h (by simp)
  | bool =>
    intro vs r a h
    match vs, h with
    | .bool b :: r', h => obtain ⟨rfl, rfl⟩ := Prod.mk.inj (Option.some.inj h); rfl
  | str =>
    intro vs r a h
    match vs, h with
    | .str b :: r', h => obtain ⟨rfl, rfl⟩ := Prod.mk.inj (Option.some.inj h); rfl
  | err =>
    intro vs r a h
    match vs, h with
    | .eno b :: r', h => obtain ⟨rfl, rfl⟩ := Prod.mk.inj (Option.some.inj h); rfl
  | lst c _ =>
    intro vs r a h
    match vs, h with
    | .lst c' l :: r', h =>
      simp only [decS] at h
      split at h
      · rename_i l' hl
        obtain ⟨hcc, hq⟩ := castL_some hl
        obtain ⟨h1, h2⟩ := Prod.mk.inj (Option.some.inj h)
        subst hcc
        obtain rfl := eq_of_heq hq
        subst h1; subst h2
        rfl
      · exact absurd h (by simp)
  | one c ih =>
    intro vs r a h
    exact ih (by simpa only [decS] using h)
  | pair ca cb iha ihb =>
    intro vs r a h
    simp only [decS] at h
    split at h
    · rename_i x r1 h1
      split at h
      · rename_i y r2 h2
        obtain ⟨rfl, rfl⟩ := Prod.mk.inj (Option.some.inj h)
        rw [iha h1, ihb h2]
        simp [cellsC]
      · exact absurd h (by simp)
    · exact absurd h (by simp)
def injC1 (bv : Nat) : (x : CI) → hdC x → Nat → List AV × List AB
  | .p c, a, _ => (cellsC c a, [])
  | .o c, l, k => ([.slc k bv], [.arr false bv c l])
  | .r b, _, _ => ([.slc b bv], [])
def injCs (bv : Nat) : (cs : List CI) → τCs cs → Nat → List AV × List AB
  | [], _, _ => ([], [])
  | [x], a, k => injC1 bv x a k
  | x :: y :: r, a, k => ((injC1 bv x a.1 k).1 ++ (injCs bv (y :: r) a.2 (k + (injC1 bv x a.1 k).2.length)).1, (injC1 bv x a.1 k).2 ++ (injCs bv (y :: r) a.2 (k + (injC1 bv x a.1 k).2.length)).2)
def decC1 (bv : Nat) : (x : CI) → List AV → List AB → Nat → Option (hdC x × List AV × Nat)
  | .p c, vs, _, k => (match decS c vs with | some (a, r) => some (a, r, k) | none => none)
  | .o c, .slc b v :: r, H, k => (match decide (b = k ∧ v = bv) with
    | true => (match H[k]? with
      | some (.arr false v' c' l) => (match decide (v' = bv) with
        | true => (match castL l c with | some l' => some (l', r, k + 1) | none => none)
        | false => none)
      | _ => none)
    | false => none)
  | .r b, .slc b' v :: r, _, k => (match decide (b' = b ∧ v = bv) with | true => some ((), r, k) | false => none)
  | _, _, _, _ => none
def decCs (bv : Nat) : (cs : List CI) → List AV → List AB → Nat → Option (τCs cs × List AV × Nat)
  | [], vs, _, k => some ((), vs, k)
  | [x], vs, H, k => decC1 bv x vs H k
  | x :: y :: r, vs, H, k => match decC1 bv x vs H k with
    | some (a, vs1, k1) => (match decCs bv (y :: r) vs1 H k1 with
      | some (z, vs2, k2) => some ((a, z), vs2, k2)
      | none => none)
    | none => none
/-- What cells' parts say. -/
def CellsOk (inj : List AV × List AB) (vs r : List AV) (H : List AB) (k k' : Nat) : Prop :=
  vs = inj.1 ++ r ∧ k' = k + inj.2.length ∧ (∀ (i : Nat) (b : AB), inj.2[i]? = some b → H[k + i]? = some b) ∧ ones inj.1
theorem decC1_law {bv : Nat} {x : CI} {a : hdC x} {vs r : List AV} {H : List AB} {k k' : Nat} (h : decC1 bv x vs H k = some (a, r, k')) : CellsOk (injC1 bv x a k) vs r H k k' := by
  cases x with
  | p c =>
    simp only [decC1] at h
    split at h
    · rename_i a' r' hd
      simp only [Option.some.injEq, Prod.mk.injEq] at h
      obtain ⟨rfl, rfl, rfl⟩ := h
      exact ⟨decS_eq c hd, rfl, fun _ _ h => by simp [injC1] at h, (cellsC_spec c _).2⟩
    · exact absurd h (by simp)
  | o c =>
    match vs, h with
    | .slc b v :: r', h =>
      simp only [decC1] at h
      split at h
      · rename_i hd
        have hd := of_decide_eq_true hd
        split at h
        · rename_i v' c' l hH
          split at h
          · rename_i hv
            have hv := of_decide_eq_true hv
            split at h
            · rename_i l' hl
              obtain ⟨hcc, hq⟩ := castL_some hl
              simp only [Option.some.injEq, Prod.mk.injEq] at h
              obtain ⟨h1, h2, h3⟩ := h
              subst hcc
              obtain rfl := eq_of_heq hq
              obtain ⟨hd1, hd2⟩ := hd
              subst h1; subst h2; subst h3; subst hd1; subst hd2; subst hv
              refine ⟨rfl, rfl, fun i x hx => ?_, ones_single rfl⟩
              cases i with
              | zero => simp [injC1] at hx; subst hx; exact hH
              | succ i => simp [injC1] at hx
            · exact absurd h (by simp)
          · exact absurd h (by simp)
        · exact absurd h (by simp)
      · exact absurd h (by simp)
  | r b =>
    match vs, h with
    | .slc b' v :: r', h =>
      have h2 : (match decide (b' = b ∧ v = bv) with | true => some ((), r', k) | false => (none : Option (Unit × List AV × Nat))) = some (a, r, k') := h
      cases hd : decide (b' = b ∧ v = bv) with
      | false => rw [hd] at h2; cases h2
      | true =>
        rw [hd] at h2
        obtain ⟨rfl, rfl⟩ := of_decide_eq_true hd
        obtain ⟨_, h3⟩ := Prod.mk.inj (Option.some.inj h2)
        obtain ⟨rfl, rfl⟩ := Prod.mk.inj h3
        exact ⟨rfl, rfl, fun _ _ h => by simp [injC1] at h, ones_single rfl⟩
theorem CellsOk.app {p q : List AV × List AB} {vs r1 r2 : List AV} {H : List AB} {k k1 k2 : Nat} (h1 : CellsOk p vs r1 H k k1) (h2 : CellsOk q r1 r2 H k1 k2) : CellsOk (p.1 ++ q.1, p.2 ++ q.2) vs r2 H k k2 := by
  obtain ⟨rfl, rfl, h3, h5⟩ := h1
  obtain ⟨rfl, rfl, h6, h8⟩ := h2
  refine ⟨by simp, by simp; omega, fun i x hx => ?_, ones_app h5 h8⟩
  by_cases hi : i < p.2.length
  · rw [List.getElem?_append_left hi] at hx
    exact h3 i x hx
  · rw [List.getElem?_append_right (by omega)] at hx
    have := h6 _ x hx
    rwa [show k + p.2.length + (i - p.2.length) = k + i by omega] at this
theorem decCs_law {bv : Nat} : ∀ {cs : List CI} {x : τCs cs} {vs r : List AV} {H : List AB} {k k' : Nat}, decCs bv cs vs H k = some (x, r, k') → CellsOk (injCs bv cs x k) vs r H k k'
  | [], x, vs, r, H, k, k', h => by
    simp only [decCs, Option.some.injEq, Prod.mk.injEq] at h
    obtain ⟨_, rfl, rfl⟩ := h
    exact ⟨rfl, rfl, fun _ _ h => by simp [injCs] at h, fun z hz => by simp [injCs] at hz⟩
  | [x], a, vs, r, H, k, k', h => decC1_law h
  | x :: y :: l, a, vs, r, H, k, k', h => by
    simp only [decCs] at h
    split at h
    · rename_i a1 vs1 k1 h1
      split at h
      · rename_i z vs2 k2 h2
        simp only [Option.some.injEq, Prod.mk.injEq] at h
        obtain ⟨rfl, rfl, rfl⟩ := h
        have p1 := decC1_law h1
        have p2 := decCs_law h2
        have hk : k1 = k + (injC1 bv x a1 k).2.length := p1.2.1
        subst hk
        exact p1.app p2
      · exact absurd h (by simp)
    · exact absurd h (by simp)
/-- A slot or a cell: data; a slice of one's own; a pointer to a handed-in block (in a struct of its own, too); a struct of cells; a pointer to cells; the cells alone; a function; one with such a pointer. -/
inductive It where
  | pure (c : Cd) | own (c : Cd) | par (b : Nat) | parA (b : Nat) | it | box (c : Cd) | mem (c : Cd) | nl | np | cut (c : Cd)
  | aggw (cs : List CI) | boxw (cs : List CI) | memw (cs : List CI) | fn0 (f : FuncId) | fnb (f : FuncId) (cs : List CI)
abbrev hdI : It → Type
  | .pure c => τ c
  | .own c => List (τ c)
  | .par _ => Unit
  | .parA _ => Unit
  | .it => List UInt8 × Nat
  | .box c => τ c
  | .mem c => List (τ c)
  | .nl => Unit
  | .np => Unit
  | .cut c => List (τ c)
  | .aggw cs => τCs cs
  | .boxw cs => τCs cs
  | .memw cs => τCs cs
  | .fn0 _ => Unit
  | .fnb _ cs => τCs cs
abbrev τI : List It → Type
  | [] => Unit
  | [x] => hdI x
  | x :: y :: r => hdI x × τI (y :: r)
def inj1 (bv : Nat) (cell : Bool) : (x : It) → hdI x → Nat → List AV × List AB
  | .pure c, a, _ => (match cell with | true => cellsC c a | false => [inj c a], [])
  | .own c, l, k => ([.slc k bv], [.arr false bv c l])
  | .par b, _, _ => ([.ptr b 0], [])
  | .parA b, _, _ => ([.agg [.ptr b 0]], [])
  | .it, a, k => ([.ptr k 0], [.iter a.1 a.2])
  | .box c, a, k => ([.ptr k 0], [.cells (cellsC c a)])
  | .mem c, l, k => ([], [.arr false bv c l])
  | .nl, _, _ => ([.nils], [])
  | .np, _, _ => ([.nilp], [])
  | .cut c, l, k => ([.sub k bv (sizeC c) 0 0], [.arr false bv c l])
  | .aggw cs, a, k => ([.agg (injCs bv cs a k).1], (injCs bv cs a k).2)
  | .boxw cs, a, k => ([.ptr k 0], .cells (injCs bv cs a (k + 1)).1 :: (injCs bv cs a (k + 1)).2)
  | .memw cs, a, k => ([], .cells (injCs bv cs a (k + 1)).1 :: (injCs bv cs a (k + 1)).2)
  | .fn0 f, _, _ => ([.fn f []], [])
  | .fnb f cs, a, k => ([.fn f [.ptr k 0]], .cells (injCs bv cs a (k + 1)).1 :: (injCs bv cs a (k + 1)).2)
def injI (bv : Nat) (cell : Bool) : (its : List It) → τI its → Nat → List AV × List AB
  | [], _, _ => ([], [])
  | [x], a, k => inj1 bv cell x a k
  | x :: y :: r, a, k => ((inj1 bv cell x a.1 k).1 ++ (injI bv cell (y :: r) a.2 (k + (inj1 bv cell x a.1 k).2.length)).1, (inj1 bv cell x a.1 k).2 ++ (injI bv cell (y :: r) a.2 (k + (inj1 bv cell x a.1 k).2.length)).2)
def dec1 (bv : Nat) (cell : Bool) : (x : It) → List AV → List AB → Nat → Option (hdI x × List AV × Nat)
  | .pure c, vs, _, k => (match cell with
    | true => (match decC c vs with | some (a, r) => some (a, r, k) | none => none)
    | false => (match vs with
      | v :: r => (match dec c v with | some a => some (a, r, k) | none => none)
      | [] => none))
  | .own c, .slc b v :: r, H, k => (match decide (b = k ∧ v = bv) with
    | true => (match H[k]? with
      | some (.arr false v' c' l) => (match decide (v' = bv) with
        | true => (match castL l c with | some l' => some (l', r, k + 1) | none => none)
        | false => none)
      | _ => none)
    | false => none)
  | .par b, .ptr b' o :: r, _, k => (match decide (b' = b ∧ o = 0) with | true => some ((), r, k) | false => none)
  | .it, .ptr b o :: r, H, k => (match decide (b = k ∧ o = 0) with
    | true => (match H[k]? with
      | some (.iter s p) => some ((s, p), r, k + 1)
      | _ => none)
    | false => none)
  | .box c, .ptr b o :: r, H, k => (match decide (b = k ∧ o = 0) && flatC c with
    | true => (match H[k]? with
      | some (.cells cs) => (match decC c cs with
        | some (x, []) => some (x, r, k + 1)
        | _ => none)
      | _ => none)
    | false => none)
  | .mem c, vs, H, k => (match H[k]? with
      | some (.arr false v' c' l) => (match decide (v' = bv) with
        | true => (match castL l c with | some l' => some (l', vs, k + 1) | none => none)
        | false => none)
      | _ => none)
  | .nl, .nils :: r, _, k => some ((), r, k)
  | .np, .nilp :: r, _, k => some ((), r, k)
  | .cut c, .sub b v z i n :: r, H, k => (match decide (b = k ∧ v = bv ∧ z = sizeC c ∧ i = 0 ∧ n = 0) with
    | true => (match H[k]? with
      | some (.arr false v' c' l) => (match decide (v' = bv) with
        | true => (match castL l c with | some l' => some (l', r, k + 1) | none => none)
        | false => none)
      | _ => none)
    | false => none)
  | .parA b, .agg [.ptr b' o] :: r, _, k => (match decide (b' = b ∧ o = 0 ∧ cell = false) with | true => some ((), r, k) | false => none)
  | .aggw cs, .agg ws :: r, H, k => (match cell with
    | true => none
    | false => (match decCs bv cs ws H k with
      | some (a, [], k') => some (a, r, k')
      | _ => none))
  | .boxw cs, .ptr b o :: r, H, k => (match decide (b = k ∧ o = 0) with
    | true => (match H[k]? with
      | some (.cells ws) => (match decCs bv cs ws H (k + 1) with
        | some (a, [], k') => some (a, r, k')
        | _ => none)
      | _ => none)
    | false => none)
  | .memw cs, vs, H, k => (match H[k]? with
      | some (.cells ws) => (match decCs bv cs ws H (k + 1) with
        | some (a, [], k') => some (a, vs, k')
        | _ => none)
      | _ => none)
  | .fn0 f, .fn g [] :: r, _, k => (match decide (g = f) with | true => some ((), r, k) | false => none)
  | .fnb f cs, .fn g [.ptr b o] :: r, H, k => (match decide (g = f ∧ b = k ∧ o = 0) with
    | true => (match H[k]? with
      | some (.cells ws) => (match decCs bv cs ws H (k + 1) with
        | some (a, [], k') => some (a, r, k')
        | _ => none)
      | _ => none)
    | false => none)
  | _, _, _, _ => none
def decI (bv : Nat) (cell : Bool) : (its : List It) → List AV → List AB → Nat → Option (τI its × List AV × Nat)
  | [], vs, _, k => some ((), vs, k)
  | [x], vs, H, k => dec1 bv cell x vs H k
  | x :: y :: r, vs, H, k => match dec1 bv cell x vs H k with
    | some (a, vs1, k1) => (match decI bv cell (y :: r) vs1 H k1 with
      | some (z, vs2, k2) => some ((a, z), vs2, k2)
      | none => none)
    | none => none
theorem decC_app : ∀ (c : Cd) {vs r : List AV} {a : τ c}, decC c vs = some (a, r) → ∃ pre, vs = pre ++ r ∧ ∀ q, decC c (pre ++ q) = some (a, q) := by
  intro c
  induction c with
  | u8 =>
    intro vs r a h
    match vs, h with
    | .u8 b :: r', h => obtain ⟨rfl, rfl⟩ := Prod.mk.inj (Option.some.inj h); exact ⟨[.u8 b], rfl, fun _ => rfl⟩
  | int k =>
    intro vs r a h
    match vs, h with
    | .int k' n :: r', h =>
      simp only [decC] at h
      split at h
      · rename_i hk
        obtain ⟨rfl, rfl⟩ := Prod.mk.inj (Option.some.inj h)
        exact ⟨[.int k' n], rfl, fun q => by simp only [List.cons_append, List.nil_append, decC]; rw [hk]⟩
      · exact absurd h (by simp)
  | bool =>
    intro vs r a h
    match vs, h with
    | .bool b :: r', h => obtain ⟨rfl, rfl⟩ := Prod.mk.inj (Option.some.inj h); exact ⟨[.bool b], rfl, fun _ => rfl⟩
  | str =>
    intro vs r a h
    match vs, h with
    | .str b :: r', h => obtain ⟨rfl, rfl⟩ := Prod.mk.inj (Option.some.inj h); exact ⟨[.str b], rfl, fun _ => rfl⟩
  | err =>
    intro vs r a h
    match vs, h with
    | .eno b :: r', h => obtain ⟨rfl, rfl⟩ := Prod.mk.inj (Option.some.inj h); exact ⟨[.eno b], rfl, fun _ => rfl⟩
  | lst c _ =>
    intro vs r a h
    match vs, h with
    | .lst c' l :: r', h =>
      simp only [decC] at h
      split at h
      · rename_i l' hl
        obtain ⟨rfl, rfl⟩ := Prod.mk.inj (Option.some.inj h)
        exact ⟨[.lst c' l], rfl, fun q => by simp only [List.cons_append, List.nil_append, decC]; rw [hl]⟩
      · exact absurd h (by simp)
    | .nils :: r', h => obtain ⟨rfl, rfl⟩ := Prod.mk.inj (Option.some.inj h); exact ⟨[.nils], rfl, fun _ => rfl⟩
  | one c ih =>
    intro vs r a h
    obtain ⟨pre, h1, h2⟩ := ih (by simpa only [decC] using h)
    exact ⟨pre, h1, fun q => by simpa only [decC] using h2 q⟩
  | pair ca cb iha ihb =>
    intro vs r a h
    simp only [decC] at h
    split at h
    · rename_i x r1 h1
      split at h
      · rename_i y r2 h2
        obtain ⟨rfl, rfl⟩ := Prod.mk.inj (Option.some.inj h)
        obtain ⟨p1, rfl, h3⟩ := iha h1
        obtain ⟨p2, rfl, h4⟩ := ihb h2
        exact ⟨p1 ++ p2, by simp, fun q => by simp only [List.append_assoc, decC, h3, h4]⟩
      · exact absurd h (by simp)
    · exact absurd h (by simp)
theorem decC_flat : ∀ (c : Cd) {vs r : List AV} {a : τ c}, flatC c = true → decC c vs = some (a, r) → vs = cellsC c a ++ r := by
  intro c
  induction c with
  | u8 =>
    intro vs r a _ h
    match vs, h with
    | .u8 b :: r', h => obtain ⟨rfl, rfl⟩ := Prod.mk.inj (Option.some.inj h); rfl
  | int k =>
    intro vs r a _ h
    match vs, h with
    | .int k' n :: r', h =>
      simp only [decC] at h
      split at h
      · rename_i hk
        obtain ⟨rfl, rfl⟩ := Prod.mk.inj (Option.some.inj h)
        rw [of_decide_eq_true hk]
        rfl
      · exact absurd h (by simp)
  | bool =>
    intro vs r a _ h
    match vs, h with
    | .bool b :: r', h => obtain ⟨rfl, rfl⟩ := Prod.mk.inj (Option.some.inj h); rfl
  | str =>
    intro vs r a _ h
    match vs, h with
    | .str b :: r', h => obtain ⟨rfl, rfl⟩ := Prod.mk.inj (Option.some.inj h); rfl
  | err =>
    intro vs r a _ h
    match vs, h with
    | .eno b :: r', h => obtain ⟨rfl, rfl⟩ := Prod.mk.inj (Option.some.inj h); rfl
  | lst c _ => intro vs r a hf; cases hf
  | one c ih =>
    intro vs r a hf h
    exact ih hf (by simpa only [decC] using h)
  | pair ca cb iha ihb =>
    intro vs r a hf h
    rw [flatC, Bool.and_eq_true] at hf
    simp only [decC] at h
    split at h
    · rename_i x r1 h1
      split at h
      · rename_i y r2 h2
        obtain ⟨rfl, rfl⟩ := Prod.mk.inj (Option.some.inj h)
        rw [iha hf.1 h1, ihb hf.2 h2]
        simp [cellsC]
      · exact absurd h (by simp)
    · exact absurd h (by simp)
/-- What a codec's part says. -/
def PartOk (inj : List AV × List AB) (vs r : List AV) (H : List AB) (k k' : Nat) (cell : Bool) : Prop :=
  ∃ pre, vs = pre ++ r ∧ k' = k + inj.2.length ∧ (∀ (i : Nat) (b : AB), inj.2[i]? = some b → H[k + i]? = some b) ∧ (∀ M e cs, CR M e pre cs → CR M e inj.1 cs) ∧ (cell = true → ones inj.1)
theorem CR.one {M : Mem} {e : RR} {x : AV} {c : Value} (h : VR M e x c) : CR M e [x] #[c] := ⟨rfl, fun i y v hy hv => by
  cases i with
  | zero => simp at hy hv; subst hy; subst hv; exact h
  | succ i => simp at hy⟩
theorem boxed_blocks {H : List AB} {k : Nat} {ws : List AV} {q : List AV × List AB} (hH : H[k]? = some (.cells ws)) (h1 : ws = q.1) (h2 : ∀ (i : Nat) (b : AB), q.2[i]? = some b → H[k + 1 + i]? = some b) :
    ∀ (i : Nat) (b : AB), (AB.cells q.1 :: q.2)[i]? = some b → H[k + i]? = some b := by
  intro i b hb
  cases i with
  | zero => simp at hb; subst hb; subst h1; exact hH
  | succ i => rw [List.getElem?_cons_succ] at hb; have := h2 i b hb; rwa [show k + (i + 1) = k + 1 + i by omega]
theorem dec1_law {bv : Nat} {cell : Bool} {x : It} {a : hdI x} {vs r : List AV} {H : List AB} {k k' : Nat} (h : dec1 bv cell x vs H k = some (a, r, k')) : PartOk (inj1 bv cell x a k) vs r H k k' cell := by
  cases x with
  | pure c =>
    simp only [dec1] at h
    split at h
    · split at h
      · rename_i a' r' hd
        simp only [Option.some.injEq, Prod.mk.injEq] at h
        obtain ⟨rfl, rfl, rfl⟩ := h
        obtain ⟨pre, h1, h2⟩ := decC_app c hd
        have h3 := h2 []
        rw [List.append_nil] at h3
        refine ⟨pre, h1, rfl, fun _ _ h => by simp [inj1] at h, fun M e cs hc => ?_, fun _ => (cellsC_spec c _).2⟩
        obtain ⟨q1, q2, q3⟩ := decC_sound (M := M) (e := e) (vs := cs.toList) c h3 (by simpa using hc.size) (fun i x v hx hv => hc.get i x v hx (by simpa using hv))
        have hlen := congrArg List.length q1
        simp only [List.length_nil, List.length_drop] at hlen
        refine ⟨?_, fun i y v hy hv => ?_⟩
        · simp only [inj1]
          rw [(cellsC_spec c _).1, ← hc.size]
          omega
        · obtain ⟨u, hu, hr⟩ := q3 i y hy
          have : some u = some v := by rw [← hu]; simpa using hv
          obtain rfl := Option.some.inj this
          exact hr.of_nul
      · exact absurd h (by simp)
    · split at h
      · rename_i v r'
        split at h
        · rename_i a' hd
          simp only [Option.some.injEq, Prod.mk.injEq] at h
          obtain ⟨rfl, rfl, rfl⟩ := h
          refine ⟨[v], rfl, rfl, fun _ _ h => by simp [inj1] at h, fun M e cs hc => ?_, fun hc => by cases hc⟩
          have hs := hc.size
          refine ⟨by simpa [inj1] using hs, fun i y u hy hu => ?_⟩
          cases i with
          | zero =>
            simp [inj1] at hy
            subst hy
            exact (dec_vr hd (hc.get 0 v u rfl hu)).of_nul
          | succ i => simp [inj1] at hy
        · exact absurd h (by simp)
      · exact absurd h (by simp)
  | own c =>
    match vs, h with
    | .slc b v :: r', h =>
      simp only [dec1] at h
      split at h
      · rename_i hd
        have hd := of_decide_eq_true hd
        split at h
        · rename_i v' c' l hH
          split at h
          · rename_i hv
            have hv := of_decide_eq_true hv
            split at h
            · rename_i l' hl
              obtain ⟨hcc, hq⟩ := castL_some hl
              simp only [Option.some.injEq, Prod.mk.injEq] at h
              obtain ⟨h1, h2, h3⟩ := h
              subst hcc
              obtain rfl := eq_of_heq hq
              obtain ⟨hd1, hd2⟩ := hd
              subst h1; subst h2; subst h3; subst hd1; subst hd2; subst hv
              refine ⟨[.slc _ _], rfl, rfl, fun i x hx => ?_, fun M e cs hc => hc, fun _ => ones_single rfl⟩
              cases i with
              | zero => simp [inj1] at hx; subst hx; exact hH
              | succ i => simp [inj1] at hx
            · exact absurd h (by simp)
          · exact absurd h (by simp)
        · exact absurd h (by simp)
      · exact absurd h (by simp)
  | par b =>
    match vs, h with
    | .ptr b' o :: r', h =>
      simp only [dec1] at h
      split at h
      · rename_i hd
        obtain ⟨rfl, rfl⟩ := of_decide_eq_true hd
        simp only [Option.some.injEq, Prod.mk.injEq] at h
        obtain ⟨_, rfl, rfl⟩ := h
        exact ⟨[.ptr b' 0], rfl, rfl, fun _ _ h => by simp [inj1] at h, fun M e cs hc => hc, fun _ => ones_single rfl⟩
      · exact absurd h (by simp)
  | nl =>
    match vs, h with
    | .nils :: r', h =>
      simp only [dec1, Option.some.injEq, Prod.mk.injEq] at h
      obtain ⟨_, rfl, rfl⟩ := h
      exact ⟨[.nils], rfl, rfl, fun _ _ h => by simp [inj1] at h, fun M e cs hc => hc, fun _ => ones_single rfl⟩
  | np =>
    match vs, h with
    | .nilp :: r', h =>
      simp only [dec1, Option.some.injEq, Prod.mk.injEq] at h
      obtain ⟨_, rfl, rfl⟩ := h
      exact ⟨[.nilp], rfl, rfl, fun _ _ h => by simp [inj1] at h, fun M e cs hc => hc, fun _ => ones_single rfl⟩
  | cut c =>
    match vs, h with
    | .sub b v z i n :: r', h =>
      simp only [dec1] at h
      split at h
      · rename_i hd
        have hd := of_decide_eq_true hd
        split at h
        · rename_i v' c' l hH
          split at h
          · rename_i hv
            have hv := of_decide_eq_true hv
            split at h
            · rename_i l' hl
              obtain ⟨hcc, hq⟩ := castL_some hl
              simp only [Option.some.injEq, Prod.mk.injEq] at h
              obtain ⟨h1, h2, h3⟩ := h
              subst hcc
              obtain rfl := eq_of_heq hq
              obtain ⟨hd1, hd2, hd3, hd4, hd5⟩ := hd
              subst h1; subst h2; subst h3; subst hd1; subst hd2; subst hv; subst hd3; subst hd4; subst hd5
              refine ⟨[.sub _ _ _ 0 0], rfl, rfl, fun i x hx => ?_, fun M e cs hc => hc, fun _ => ones_single rfl⟩
              cases i with
              | zero => simp [inj1] at hx; subst hx; exact hH
              | succ i => simp [inj1] at hx
            · exact absurd h (by simp)
          · exact absurd h (by simp)
        · exact absurd h (by simp)
      · exact absurd h (by simp)
  | mem c =>
    simp only [dec1] at h
    split at h
    · rename_i v' c' l hH
      split at h
      · rename_i hv
        have hv := of_decide_eq_true hv
        split at h
        · rename_i l' hl
          obtain ⟨hcc, hq⟩ := castL_some hl
          simp only [Option.some.injEq, Prod.mk.injEq] at h
          obtain ⟨h1, h2, h3⟩ := h
          subst hcc
          obtain rfl := eq_of_heq hq
          subst h1; subst h2; subst h3; subst hv
          refine ⟨[], rfl, rfl, fun i x hx => ?_, fun M e cs hc => hc, fun _ z hz => by simp [inj1] at hz⟩
          cases i with
          | zero => simp [inj1] at hx; subst hx; exact hH
          | succ i => simp [inj1] at hx
        · exact absurd h (by simp)
      · exact absurd h (by simp)
    · exact absurd h (by simp)
  | box c =>
    match vs, h with
    | .ptr b o :: r', h =>
      simp only [dec1] at h
      split at h
      · rename_i hd
        rw [Bool.and_eq_true] at hd
        obtain ⟨hd, hf⟩ := hd
        have hd := of_decide_eq_true hd
        split at h
        · rename_i cs hH
          split at h
          · rename_i x hx
            simp only [Option.some.injEq, Prod.mk.injEq] at h
            obtain ⟨h1, h2, h3⟩ := h
            obtain ⟨hd1, hd2⟩ := hd
            subst h1; subst h2; subst h3; subst hd1; subst hd2
            have hcs := decC_flat c hf hx
            rw [List.append_nil] at hcs
            refine ⟨[.ptr _ 0], rfl, rfl, fun i x hx => ?_, fun M e cs hc => hc, fun _ => ones_single rfl⟩
            cases i with
            | zero => simp [inj1] at hx; subst hx; rw [← hcs]; exact hH
            | succ i => simp [inj1] at hx
          · exact absurd h (by simp)
        · exact absurd h (by simp)
      · exact absurd h (by simp)
  | it =>
    match vs, h with
    | .ptr b o :: r', h =>
      simp only [dec1] at h
      split at h
      · rename_i hd
        have hd := of_decide_eq_true hd
        split at h
        · rename_i s p hH
          simp only [Option.some.injEq, Prod.mk.injEq] at h
          obtain ⟨h1, h2, h3⟩ := h
          obtain ⟨hd1, hd2⟩ := hd
          subst h1; subst h2; subst h3; subst hd1; subst hd2
          refine ⟨[.ptr _ 0], rfl, rfl, fun i x hx => ?_, fun M e cs hc => hc, fun _ => ones_single rfl⟩
          cases i with
          | zero => simp [inj1] at hx; subst hx; exact hH
          | succ i => simp [inj1] at hx
        · exact absurd h (by simp)
      · exact absurd h (by simp)
  | parA b =>
    match vs, h with
    | .agg [.ptr b' o] :: r', h =>
      simp only [dec1] at h
      split at h
      · rename_i hd
        obtain ⟨rfl, rfl, hcf⟩ := of_decide_eq_true hd
        simp only [Option.some.injEq, Prod.mk.injEq] at h
        obtain ⟨_, rfl, rfl⟩ := h
        exact ⟨[.agg [.ptr b' 0]], rfl, rfl, fun _ _ h => by simp [inj1] at h, fun M e cs hc => hc, fun hc => by rw [hcf] at hc; cases hc⟩
      · exact absurd h (by simp)
  | aggw cs =>
    match vs, h with
    | .agg ws :: r', h =>
      simp only [dec1] at h
      split at h
      · exact absurd h (by simp)
      · split at h
        · rename_i a' k1 hx
          obtain ⟨q1, q2, q3, q4⟩ := decCs_law hx
          simp only [Option.some.injEq, Prod.mk.injEq] at h
          obtain ⟨rfl, rfl, rfl⟩ := h
          rw [List.append_nil] at q1
          refine ⟨[.agg ws], rfl, q2, q3, fun M e cs hc => ?_, fun hc => by cases hc⟩
          rw [q1] at hc
          exact hc
        · exact absurd h (by simp)
  | boxw cs =>
    match vs, h with
    | .ptr b o :: r', h =>
      simp only [dec1] at h
      split at h
      · rename_i hd
        obtain ⟨rfl, rfl⟩ := of_decide_eq_true hd
        split at h
        · rename_i ws hH
          split at h
          · rename_i a' k1 hx
            obtain ⟨q1, q2, q3, q4⟩ := decCs_law hx
            simp only [Option.some.injEq, Prod.mk.injEq] at h
            obtain ⟨rfl, rfl, rfl⟩ := h
            rw [List.append_nil] at q1
            exact ⟨[.ptr _ 0], rfl, by simp only [inj1, List.length_cons]; omega, boxed_blocks hH q1 q3, fun M e cs hc => hc, fun _ => ones_single rfl⟩
          · exact absurd h (by simp)
        · exact absurd h (by simp)
      · exact absurd h (by simp)
  | memw cs =>
    simp only [dec1] at h
    split at h
    · rename_i ws hH
      split at h
      · rename_i a' k1 hx
        obtain ⟨q1, q2, q3, q4⟩ := decCs_law hx
        simp only [Option.some.injEq, Prod.mk.injEq] at h
        obtain ⟨rfl, rfl, rfl⟩ := h
        rw [List.append_nil] at q1
        exact ⟨[], rfl, by simp only [inj1, List.length_cons]; omega, boxed_blocks hH q1 q3, fun M e cs hc => hc, fun _ z hz => by simp [inj1] at hz⟩
      · exact absurd h (by simp)
    · exact absurd h (by simp)
  | fn0 f =>
    match vs, h with
    | .fn g [] :: r', h =>
      simp only [dec1] at h
      split at h
      · rename_i hd
        obtain rfl := of_decide_eq_true hd
        simp only [Option.some.injEq, Prod.mk.injEq] at h
        obtain ⟨_, rfl, rfl⟩ := h
        exact ⟨[.fn _ []], rfl, rfl, fun _ _ h => by simp [inj1] at h, fun M e cs hc => hc, fun _ => ones_single rfl⟩
      · exact absurd h (by simp)
  | fnb f cs =>
    match vs, h with
    | .fn g [.ptr b o] :: r', h =>
      simp only [dec1] at h
      split at h
      · rename_i hd
        obtain ⟨rfl, rfl, rfl⟩ := of_decide_eq_true hd
        split at h
        · rename_i ws hH
          split at h
          · rename_i a' k1 hx
            obtain ⟨q1, q2, q3, q4⟩ := decCs_law hx
            simp only [Option.some.injEq, Prod.mk.injEq] at h
            obtain ⟨rfl, rfl, rfl⟩ := h
            rw [List.append_nil] at q1
            exact ⟨[.fn _ [.ptr _ 0]], rfl, by simp only [inj1, List.length_cons]; omega, boxed_blocks hH q1 q3, fun M e cs hc => hc, fun _ => ones_single rfl⟩
          · exact absurd h (by simp)
        · exact absurd h (by simp)
      · exact absurd h (by simp)
theorem PartOk.app {p q : List AV × List AB} {vs r1 r2 : List AV} {H : List AB} {k k1 k2 : Nat} {cell : Bool} (h1 : PartOk p vs r1 H k k1 cell) (h2 : PartOk q r1 r2 H k1 k2 cell) : PartOk (p.1 ++ q.1, p.2 ++ q.2) vs r2 H k k2 cell := by
  obtain ⟨a, rfl, rfl, h3, h4, h5⟩ := h1
  obtain ⟨b, rfl, rfl, h6, h7, h8⟩ := h2
  refine ⟨a ++ b, by simp, by simp; omega, fun i x hx => ?_, fun M e cs hc => ?_, fun hc => ones_app (h5 hc) (h8 hc)⟩
  · simp only at hx
    by_cases hi : i < p.2.length
    · rw [List.getElem?_append_left hi] at hx
      exact h3 i x hx
    · rw [List.getElem?_append_right (by omega)] at hx
      have := h6 _ x hx
      rwa [show k + p.2.length + (i - p.2.length) = k + i by omega] at this
  · have hs := hc.size
    simp only [List.length_append] at hs
    have ha : CR M e a (cs.toList.take a.length).toArray := by
      refine ⟨by simp; omega, fun i x v hx hv => ?_⟩
      have hi := (List.getElem?_eq_some_iff.1 hx).1
      simp only [List.getElem?_toArray] at hv
      rw [List.getElem?_take_of_lt hi] at hv
      exact hc.get i x v (by rw [List.getElem?_append_left hi]; exact hx) (by simpa using hv)
    have hb : CR M e b (cs.toList.drop a.length).toArray := by
      refine ⟨by simp; omega, fun i x v hx hv => ?_⟩
      simp only [List.getElem?_toArray] at hv
      rw [List.getElem?_drop] at hv
      exact hc.get (a.length + i) x v (by rw [List.getElem?_append_right (by omega)]; simpa using hx) (by simpa using hv)
    have := CR.app (h4 M e _ ha) (h7 M e _ hb)
    simpa using this
theorem decI_law {bv : Nat} {cell : Bool} : ∀ {its : List It} {x : τI its} {vs r : List AV} {H : List AB} {k k' : Nat}, decI bv cell its vs H k = some (x, r, k') → PartOk (injI bv cell its x k) vs r H k k' cell
  | [], x, vs, r, H, k, k', h => by
    simp only [decI, Option.some.injEq, Prod.mk.injEq] at h
    obtain ⟨_, rfl, rfl⟩ := h
    exact ⟨[], rfl, rfl, fun _ _ h => by simp [injI] at h, fun M e cs hc => hc, fun _ z hz => by simp [injI] at hz⟩
  | [x], a, vs, r, H, k, k', h => dec1_law h
  | x :: y :: l, a, vs, r, H, k, k', h => by
    simp only [decI] at h
    split at h
    · rename_i a1 vs1 k1 h1
      split at h
      · rename_i z vs2 k2 h2
        simp only [Option.some.injEq, Prod.mk.injEq] at h
        obtain ⟨rfl, rfl, rfl⟩ := h
        have p1 := dec1_law h1
        have p2 := decI_law h2
        have hk : k1 = k + (inj1 bv cell x a1 k).2.length := by
          obtain ⟨_, _, hk, _⟩ := p1
          exact hk
        subst hk
        exact p1.app p2
      · exact absurd h (by simp)
    · exact absurd h (by simp)
def codP (its : List It) : Codec (τI its) where
  inj x := injI 0 false its x 0
  dec vs H := match decI 0 false its vs H 0 with
    | some (x, [], k) => (match decide (k = H.length) with | true => some x | false => none)
    | _ => none
  law vs H x h := by
    split at h
    · rename_i y k hd
      split at h
      · rename_i hk
        have hk := of_decide_eq_true hk
        obtain rfl := Option.some.inj h
        obtain ⟨pre, h1, h2, h3, h4, _⟩ := decI_law hd
        rw [List.append_nil] at h1
        subst h1
        have hH : (injI 0 false its y 0).2 = H := by
          apply List.ext_getElem?
          intro i
          rw [Nat.zero_add] at h2
          cases hq : (injI 0 false its y 0).2[i]? with
          | none => rw [List.getElem?_eq_none_iff] at hq; rw [List.getElem?_eq_none (by omega)]
          | some b => have := h3 i b hq; rw [Nat.zero_add] at this; exact this.symm
        rw [hH]
        exact fun M e w hr => ⟨hr, fun _ => Iff.rfl, fun cs hc => h4 M e cs hc⟩
      · exact absurd h (by simp)
    · exact absurd h (by simp)
def codR (bv : Nat) (rv its : List It) : Codec (τI rv × τI its) where
  inj x := ((injI 0 false its x.2 (1 + (injI bv true rv x.1 1).2.length)).1, .cells (injI bv true rv x.1 1).1 :: ((injI bv true rv x.1 1).2 ++ (injI 0 false its x.2 (1 + (injI bv true rv x.1 1).2.length)).2))
  dec vs H := match H with
    | .cells cs :: r => (match decI bv true rv cs (.cells cs :: r) 1 with
      | some (x, [], k1) => (match decI 0 false its vs (.cells cs :: r) k1 with
        | some (y, [], k2) => (match decide (k2 = r.length + 1) with | true => some (x, y) | false => none)
        | _ => none)
      | _ => none)
    | _ => none
  law vs H x h := by
    split at h
    · rename_i cs r
      split at h
      · rename_i y k1 hd1
        split at h
        · rename_i z k2 hd2
          split at h
          · rename_i hk
            have hk := of_decide_eq_true hk
            obtain rfl := Option.some.inj h
            obtain ⟨pre, h1, h2, h3, h4, h5⟩ := decI_law hd1
            obtain ⟨pre', h1', h2', h3', h4', _⟩ := decI_law hd2
            rw [List.append_nil] at h1 h1'
            subst h1; subst h1'; subst h2
            simp only
            have hH : (injI bv true rv y 1).2 ++ (injI 0 false its z (1 + (injI bv true rv y 1).2.length)).2 = r := by
              apply List.ext_getElem?
              intro i
              by_cases hi : i < (injI bv true rv y 1).2.length
              · rw [List.getElem?_append_left hi]
                have := h3 i _ (List.getElem?_eq_getElem hi)
                rw [List.getElem?_eq_getElem hi, ← this, Nat.add_comm]
                rfl
              · rw [List.getElem?_append_right (by omega)]
                cases hq : (injI 0 false its z (1 + (injI bv true rv y 1).2.length)).2[i - (injI bv true rv y 1).2.length]? with
                | none => rw [List.getElem?_eq_none_iff] at hq; rw [List.getElem?_eq_none (by omega)]
                | some b =>
                  have := h3' _ b hq
                  rw [show 1 + (injI bv true rv y 1).2.length + (i - (injI bv true rv y 1).2.length) = i + 1 by omega] at this
                  exact this.symm
            rw [hH]
            intro M e w hr
            obtain ⟨q1, q2⟩ := hr.repl (b := 0) (cs := cs) (cs' := (injI bv true rv y 1).1) rfl (h5 rfl) (fun arr hc => h4 M e arr hc)
            exact ⟨q1, q2, fun cs' hc => h4' M e cs' hc⟩
          · exact absurd h (by simp)
        · exact absurd h (by simp)
      · exact absurd h (by simp)
    · exact absurd h (by simp)
end Go.Sm
/- A function's contract is its evaluation; a loop's is the repetition of its round. No condition but the program's mixed orders. -/
set_option linter.unusedVariables false
set_option linter.unusedSimpArgs false
namespace Go.Sm

/-! ### Functions -/
def specF {σ ρ : Type} (A : Codec σ) (n : Nat) (R : Codec ρ) (F : σ → Option ρ) : SpecT := fun args H =>
  match A.dec args H with
  | some x => .bnd (F x) fun y => .ret (mkR n (R.inj y).1, (R.inj y).2)
  | none => .no
def decR {ρ : Type} (n : Nat) (R : Codec ρ) (r : Res) : DT ρ :=
  match unR n r.1 with
  | some vs => (match R.dec vs r.2 with | some y => .ret y | none => .no)
  | none => .no
def evalF {σ ρ : Type} (P : Program) (cal : CalT) (kp : Keep) (lps : Lps) (bump ice : Bool) (fn : Func) (A : Codec σ) (n : Nat) (R : Codec ρ) (x : σ) : DT ρ :=
  (fnT P cal kp lps bump ice fn (A.inj x).1 (A.inj x).2).bind (decR n R)
theorem specF_of {σ ρ : Type} {P : Program} {f : FuncId} {A : Codec σ} {n : Nat} {R : Codec ρ} {F : σ → Option ρ}
    (h : ∀ x y, F x = some y → ∃ r H' vs, Sim P f (A.inj x).1 (A.inj x).2 r H' ∧ unR n r = some vs ∧ R.dec vs H' = some y) : SoundT P f (specF A n R F) := by
  intro args H r H' hr
  unfold specF at hr
  split at hr
  · rename_i x hx
    obtain ⟨y, hy, hr⟩ := run_bnd hr
    obtain ⟨rfl, rfl⟩ := Prod.mk.inj (run_ret hr)
    obtain ⟨r1, H1, vs, h1, h2, h3⟩ := h x y hy
    exact h1.eqv (A.law _ _ _ hx) h2 (R.law _ _ _ h3)
  · exact (run_no hr).elim
theorem decR_run {ρ : Type} {n : Nat} {R : Codec ρ} {r : Res} {y : ρ} (h : (decR n R r).run = some y) : ∃ vs, unR n r.1 = some vs ∧ R.dec vs r.2 = some y := by
  unfold decR at h
  split at h
  · rename_i vs hu
    split at h
    · rename_i y' hd
      obtain rfl := run_ret h
      exact ⟨vs, hu, hd⟩
    · exact (run_no h).elim
  · exact (run_no h).elim

/-! ### Results of two shapes -/
def codS {σ ρ : Type} (A : Codec σ) (B : Codec ρ) : Codec (σ ⊕ ρ) where
  inj := Sum.elim A.inj B.inj
  dec vs H := match A.dec vs H with
    | some x => some (.inl x)
    | none => (match B.dec vs H with
      | some y => some (.inr y)
      | none => none)
  law vs H x h := by
    split at h
    · rename_i y hy
      obtain rfl := Option.some.inj h
      exact A.law _ _ _ hy
    · split at h
      · rename_i y hy
        obtain rfl := Option.some.inj h
        exact B.law _ _ _ hy
      · exact absurd h (by simp)
def specS {σ ρ ρ' : Type} (A : Codec σ) (n : Nat) (R : Codec ρ) (R' : Codec ρ') (F : σ → Option (ρ ⊕ ρ')) : SpecT := fun args H =>
  match A.dec args H with
  | some x => .bnd (F x) fun y => .cas y (fun a => .ret (mkR n (R.inj a).1, (R.inj a).2)) fun b => .ret (mkR n (R'.inj b).1, (R'.inj b).2)
  | none => .no
theorem specS_of {σ ρ ρ' : Type} {P : Program} {f : FuncId} {A : Codec σ} {n : Nat} {R : Codec ρ} {R' : Codec ρ'} {F : σ → Option (ρ ⊕ ρ')} (h : SoundT P f (specF A n (codS R R') F)) : SoundT P f (specS A n R R' F) := by
  intro args H r H' hr
  refine h args H r H' ?_
  unfold specS at hr
  unfold specF
  split at hr
  · rename_i x hx
    obtain ⟨y, hy, hr⟩ := run_bnd hr
    simp only [DT.run, hy, Option.bind_some]
    cases y <;> exact hr
  · exact (run_no hr).elim

/-! ### Loops -/
/-- Data for the ways out of a loop. -/
structure ExC (β : Type) where
  inj : β → Ex × List AV × List AB
  dec : Ex → List AV → List AB → Option β
  law : ∀ ex vs H b, dec ex vs H = some b → (inj b).1 = ex ∧ Eqv vs H (inj b).2.1 (inj b).2.2
  tree : β → DT (Ex × List AV × List AB)
  tree_run : ∀ b, (tree b).run = some (inj b)
theorem Ex.num_inj {a b : Ex} (h : a.num = b.num) : a = b := by
  cases a <;> cases b <;> simp [Ex.num] at h <;> first | rfl | omega | (subst h; rfl)
def exO {β : Type} (ex0 : Ex) (C : Codec β) : ExC β where
  inj b := (ex0, C.inj b)
  dec ex vs H := match decide (ex.num = ex0.num) with | true => C.dec vs H | false => none
  law ex vs H b h := by
    split at h
    · rename_i hd
      exact ⟨(Ex.num_inj (of_decide_eq_true hd)).symm, C.law _ _ _ h⟩
    · exact absurd h (by simp)
  tree b := .ret (ex0, C.inj b)
  tree_run _ := rfl
def exS {β γ : Type} (A : ExC β) (B : ExC γ) : ExC (β ⊕ γ) where
  inj b := match b with | .inl x => A.inj x | .inr y => B.inj y
  dec ex vs H := match A.dec ex vs H with
    | some x => some (.inl x)
    | none => (match B.dec ex vs H with | some y => some (.inr y) | none => none)
  law ex vs H b h := by
    split at h
    · rename_i x hx
      obtain rfl := Option.some.inj h
      exact A.law _ _ _ _ hx
    · split at h
      · rename_i y hy
        obtain rfl := Option.some.inj h
        exact B.law _ _ _ _ hy
      · exact absurd h (by simp)
  tree b := .cas b A.tree B.tree
  tree_run b := by
    cases b with
    | inl x => exact A.tree_run x
    | inr y => exact B.tree_run y
def stepL {σ β : Type} (P : Program) (cal : CalT) (kp : Keep) (lps : Lps) (N : Nat) (bump : Bool) (b : Code) (S : Codec σ) (X : ExC β) (x : σ) : DT (σ ⊕ β) :=
  roundT P cal kp lps N bump b (S.inj x).1 (S.inj x).2
    (fun vs H => match S.dec vs H with | some y => .ret (.inl y) | none => .no)
    (fun ex vs H => match X.dec ex vs H with | some y => .ret (.inr y) | none => .no)
def ltF {σ β : Type} (S : Codec σ) (X : ExC β) (W : σ → Option β) : LT := fun vs H =>
  match S.dec vs H with
  | some x => .bnd (W x) X.tree
  | none => .no
theorem AtL.eqv {M0 : Mem} {e0 : RR} {H0 : List AB} {w0 : World} {s0 : Nat} {keep : List (Nat × Option Cd)} {vs vs' : List AV} {H H' : List AB} {M : Mem} {e : RR} {w : World} {a : Act} (h : AtL M0 e0 H0 w0 s0 keep vs H M e w a) (hq : Eqv vs H vs' H') :
    AtL M0 e0 H0 w0 s0 keep vs' H' M e w a := by
  obtain ⟨h1, h2, h3⟩ := hq M e w h.tr.hr
  exact ⟨h.tr.eqv (fun _ => Iff.rfl) h1 h2, h3 _ h.slots, h.size, h.defers⟩

section
variable {P : Program} (hm : P.follows .mixedOrders = true) {cal : CalT} (hcal : ∀ f p, cal f = some p → SoundT P f p.2)
include hm hcal
theorem soundF {σ ρ : Type} {f : FuncId} {fn : Func} {c : Code} (hf : P.funcs[f]? = some fn) (hb : fn.body = some c) (hname : (fn.name == "runtime.NumGoroutine") = false) (hok : codeOk P fn.ntmps c = true) {kp : Keep} {lps : Lps} {bump ice : Bool} {A : Codec σ} {n : Nat} {R : Codec ρ}
    (hl : ∀ x, LpsOk P fn.ntmps kp (A.inj x).2.length bump lps (loopsOf c)) : SoundT P f (specF A n R fun x => (evalF P cal kp lps bump ice fn A n R x).run) := by
  refine specF_of fun x y hxy => ?_
  obtain ⟨⟨r, H'⟩, h1, h2⟩ := bind_run hxy
  obtain ⟨vs, h3, h4⟩ := decR_run h2
  exact ⟨r, H', vs, fn_sound hm hcal hf hb hname hok (hl x) h1, h3, h4⟩
theorem loopF {σ β : Type} {nt : Nat} {kp : Keep} {lps : Lps} {N : Nat} {bump : Bool} {b : Code} (hok : codeOk P nt b = true) {S : Codec σ} {X : ExC β} (hl : LpsOk P nt kp N bump lps (loopsOf b)) :
    LoopOk P nt kp N bump b (ltF S X (whileO fun x => (stepL P cal kp lps N bump b S X x).run)) := by
  intro vs H ex vs' H' hr M0 e0 H0 w0 s0 hs0 hB hN M e w a hA Q hQ
  unfold ltF at hr
  split at hr
  case h_2 => exact (run_no hr).elim
  rename_i x hx
  obtain ⟨y, hy, hr⟩ := run_bnd hr
  rw [X.tree_run] at hr
  have hr := Option.some.inj hr
  obtain ⟨n, hn⟩ := whileO_iff.1 hy
  refine ⟨n, ?_⟩
  have hA := hA.eqv (S.law _ _ _ hx)
  have key : ∀ (n : Nat) (x : σ), runS (fun x => (stepL P cal kp lps N bump b S X x).run) n x = some y → ∀ (M : Mem) (e : RR) (w : World) (a : Act),
      AtL M0 e0 H0 w0 s0 (kp (keyOf b) 0) (S.inj x).1 (S.inj x).2 M e w a → Code.rounds P b Q n a w := by
    intro n
    induction n with
    | zero => intro x h; cases h
    | succ n ih =>
      intro x h M e w a hA
      rw [runS] at h
      rw [rounds_succ]
      have step : ∃ z, (stepL P cal kp lps N bump b S X x).run = some z ∧ ((∃ x', z = .inl x' ∧ runS (fun x => (stepL P cal kp lps N bump b S X x).run) n x' = some y) ∨ z = .inr y) := by
        cases hq : (stepL P cal kp lps N bump b S X x).run with
        | none => rw [hq] at h; cases h
        | some z =>
          rw [hq] at h
          cases z with
          | inl x' => exact ⟨_, rfl, .inl ⟨x', rfl, h⟩⟩
          | inr y' =>
            obtain rfl := Option.some.inj h
            exact ⟨_, rfl, .inr rfl⟩
      obtain ⟨z, hz, hzz⟩ := step
      unfold stepL roundT at hz
      subst hN
      refine evT_sound hm hcal hB hs0 b hok hl hz hA.at fun ex1 st' a' M' e' w' hK hA' => ?_
      split at hK
      case h_2 => exact (run_no hK).elim
      rename_i vs1 H1 ht
      have left : ∀ ex1 : Ex, trimT H0.length bump (kp (keyOf b) ex1.num) st' = some (vs1, H1) → (match X.dec ex1 vs1 H1 with | some y => (.ret (.inr y) : DT (σ ⊕ β)) | none => .no).run = some z → Q ex1.out a' w' := by
        intro ex1 ht hK
        split at hK
        · rename_i y1 hy1
          obtain rfl := run_ret hK
          rcases hzz with ⟨x', hx', _⟩ | hy'
          · cases hx'
          · obtain rfl := Sum.inr.inj hy'
            obtain ⟨k1, k2⟩ := X.law _ _ _ _ hy1
            rw [hr] at k1 k2
            obtain rfl := k1
            obtain ⟨e2, hA2⟩ := trim_sound hB ht hA'
            exact hQ a' M' e2 w' (hA2.eqv k2)
        · exact (run_no hK).elim
      cases ex1 with
      | nrm =>
        simp only at hK ht
        split at hK
        · rename_i x2 hx2
          obtain rfl := run_ret hK
          rcases hzz with ⟨x', hx', hrun⟩ | hy'
          · obtain rfl := Sum.inl.inj hx'
            obtain ⟨e2, hA2⟩ := trim_sound hB ht hA'
            exact ih _ hrun M' e2 w' a' (hA2.eqv (S.law _ _ _ hx2))
          · cases hy'
        · exact (run_no hK).elim
      | ret => exact left .ret ht hK
      | ext id => exact left (.ext id) ht hK
  exact key n x hn M e w a hA
end
/-- A contract that is another one's, said by a function that is the same. -/
theorem SoundT.congr {σ ρ : Type} {P : Program} {f : FuncId} {A : Codec σ} {n : Nat} {R : Codec ρ} {F F' : σ → Option ρ} (h : SoundT P f (specF A n R F)) (he : ∀ x, F' x = F x) : SoundT P f (specF A n R F') := by
  rwa [show F' = F from funext he]
end Go.Sm
