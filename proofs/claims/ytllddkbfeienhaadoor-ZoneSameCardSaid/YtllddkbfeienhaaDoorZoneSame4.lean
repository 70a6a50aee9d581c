/- Plain Lean: a zone of its own memory; all its memory changed. -/
import Derived.Test.YtllddkbfeienhaaDoorZoneSame3
import Derived.Test.YtllddkbfeienhaaDoorZoneSame1
set_option linter.unusedVariables false
set_option linter.unusedSimpArgs false
namespace Go.Sm
open Go.Proofs

theorem own_ok {z : Zon} (h : Short z) : F_law19own z = some z := by
  have h1 := h.trans
  have h2 := h.kinds
  have h3 := h.types
  have h4 := h.leaps
  rw [e_law19own, room_any (by omega) (by omega), room_any (by omega) (by omega), room_any (by omega) (by omega), room_any (by omega) (by omega)]
  rfl
theorem loop_ex {σ α β : Type} {step : σ → Option (σ ⊕ β)} (st : Nat → α → σ) (fin : α → β) (n : Nat) (ok : α → Prop) (h1 : ∀ i, i < n → ∀ a, ok a → ∃ a', ok a' ∧ step (st i a) = some (.inl (st (i + 1) a')))
    (h3 : ∀ a, ok a → step (st n a) = some (.inr (fin a))) : ∀ k i a, i + k = n → ok a → ∃ a', ok a' ∧ whileO step (st i a) = some (fin a') := by
  intro k
  induction k with
  | zero =>
    intro i a hi ha
    obtain rfl : i = n := by omega
    exact ⟨a, ha, by rw [whileO_eq, h3 a ha]; rfl⟩
  | succ k ih =>
    intro i a hi ha
    obtain ⟨a1, h2, h4⟩ := h1 i (by omega) a ha
    obtain ⟨a', h5, h6⟩ := ih (i + 1) a1 (by omega) h2
    exact ⟨a', h5, by rw [whileO_eq, h4]; exact h6⟩
theorem spoil_ok (a b : List Int) (c : List Typ) (d : List Cor) (q : Bool × Pln) (ha : midL a.length) (hb : midL b.length) (hc : midL c.length) (hd : midL d.length) :
    ∃ a' b' c' d', F_law19spoil (a, b, c, d, q) = some (a', b', c', d') ∧ a'.length = a.length ∧ b'.length = b.length ∧ c'.length = c.length ∧ d'.length = d.length := by
  obtain ⟨a', k1, l1⟩ := loop_ex (step := sp_law19spoil_0) (fun i (x : List Int) => (x, b, c, d, ((), (), (), (), q), (a.length : Int), (i : Int))) (fun x => (x, b, c, d, ((), (), (), (), q))) a.length (fun x => x.length = a.length) (fun i hi x hx => by
    have hix : i < x.length := by omega
    refine ⟨x.set i (IntKind.i64.wrap (x[i] + 1)), by simpa using hx, ?_⟩
    rw [es_law19spoil_0, cond_dec, if_pos (by omega), cond_dec, if_pos (by omega), Int.toNat_natCast, List.getElem?_eq_getElem hix, Option.bind_some, Option.bind_some, wrap_up (by omega), cond_dec, if_pos (by omega)]) (fun x hx => by rw [es_law19spoil_0, cond_dec, if_neg (by omega)]) a.length 0 a (by omega) rfl
  obtain ⟨b', k2, l2⟩ := loop_ex (step := sp_law19spoil_1) (fun i (x : List Int) => (a', x, c, d, ((), (), (), (), q), (b.length : Int), (i : Int))) (fun x => (a', x, c, d, ((), (), (), (), q))) b.length (fun x => x.length = b.length) (fun i hi x hx => by
    have hix : i < x.length := by omega
    refine ⟨x.set i (IntKind.i64.wrap (x[i] + 1)), by simpa using hx, ?_⟩
    rw [es_law19spoil_1, cond_dec, if_pos (by omega), cond_dec, if_pos (by omega), Int.toNat_natCast, List.getElem?_eq_getElem hix, Option.bind_some, Option.bind_some, wrap_up (by omega), cond_dec, if_pos (by omega)]) (fun x hx => by rw [es_law19spoil_1, cond_dec, if_neg (by omega)]) b.length 0 b (by omega) rfl
  obtain ⟨c', k3, l3⟩ := loop_ex (step := sp_law19spoil_2) (fun i (x : List Typ) => (a', b', x, d, ((), (), (), (), q), (c.length : Int), (i : Int))) (fun x => (a', b', x, d, ((), (), (), (), q))) c.length (fun x => x.length = c.length) (fun i hi x hx => by
    have hix : i < x.length := by omega
    refine ⟨x.set i (IntKind.i64.wrap (x[i].1 + 1), x[i].2.1, x[i].2.2), by simpa using hx, ?_⟩
    rw [es_law19spoil_2, cond_dec, if_pos (by omega), cond_dec, if_pos (by omega), Int.toNat_natCast, List.getElem?_eq_getElem hix, Option.bind_some, Option.bind_some, wrap_up (by omega), cond_dec, if_pos (by omega)]) (fun x hx => by rw [es_law19spoil_2, cond_dec, if_neg (by omega)]) c.length 0 c (by omega) rfl
  obtain ⟨d', k4, l4⟩ := loop_ex (step := sp_law19spoil_3) (fun i (x : List Cor) => (a', b', c', x, ((), (), (), (), q), (d.length : Int), (i : Int))) (fun x => (a', b', c', x)) d.length (fun x => x.length = d.length) (fun i hi x hx => by
    have hix : i < x.length := by omega
    refine ⟨x.set i (IntKind.i64.wrap (x[i].1 + 1), x[i].2), by simpa using hx, ?_⟩
    rw [es_law19spoil_3, cond_dec, if_pos (by omega), cond_dec, if_pos (by omega), Int.toNat_natCast, List.getElem?_eq_getElem hix, Option.bind_some, Option.bind_some, wrap_up (by omega), cond_dec, if_pos (by omega)]) (fun x hx => by rw [es_law19spoil_3, cond_dec, if_neg (by omega)]) d.length 0 d (by omega) rfl
  refine ⟨a', b', c', d', ?_, k1, k2, k3, k4⟩
  rw [e_law19spoil]
  have m1 : w_law19spoil_0 (a, b, c, d, ((), (), (), (), q), (a.length : Int), 0) = _ := l1
  rw [m1, Option.bind_some]
  have m2 : w_law19spoil_1 (a', b, c, d, ((), (), (), (), q), (b.length : Int), 0) = _ := l2
  dsimp only
  rw [m2, Option.bind_some]
  have m3 : w_law19spoil_2 (a', b', c, d, ((), (), (), (), q), (c.length : Int), 0) = _ := l3
  dsimp only
  rw [m3, Option.bind_some]
  have m4 : w_law19spoil_3 (a', b', c', d, ((), (), (), (), q), (d.length : Int), 0) = _ := l4
  dsimp only
  rw [m4, Option.bind_some]
theorem Short.mid {z : Zon} (h : Short z) : MidZ z := by
  have h1 := h.trans
  have h2 := h.kinds
  have h3 := h.types
  have h4 := h.leaps
  exact ⟨by unfold midL; omega, by unfold midL; omega, by unfold midL; omega, by unfold midL; omega⟩
end Go.Sm
/- The same zones, copies; the law ZoneSame. As trees. No condition. -/
set_option linter.unusedVariables false
namespace Go.Sm
open Go.Proofs
theorem e_lawZoneSame (y z : List Int × List Int × List (Int × Bool × List UInt8) × List (Int × Int) × Bool × (List UInt8 × List UInt8 × Int × Int × (Int × Int × Int × Int × Int) × (Int × Int × Int × Int × Int))) : F_lawZoneSame (y, z) = (
  (F_law19alive ()).bind fun x1 =>
    bif !x1 then some false
    else
      (F_law19Long y).bind fun x2 =>
        bif x2 then some true
        else
          (F_law19Long z).bind fun x3 =>
            bif x3 then some true
            else
              (F_zSame (y, z)).bind fun x4 =>
                (F_law19Document y).bind fun x5 =>
                  (F_law19Document z).bind fun x6 =>
                    (F_r9Same (x5, x6)).bind fun x7 =>
                      bif !x4 == x7 then some false
                      else
                        (F_zSame (z, z)).bind fun x8 =>
                          bif !x8 then some false
                          else
                            (F_law19own z).bind fun x9 =>
                              (F_zCopy x9).bind fun x10 =>
                                (F_law19spoil x9).bind fun x11 =>
                                  (F_zSame (x10, z)).bind fun x12 =>
                                    bif !x12 then some false
                                    else
                                      (F_law19spoil x10).bind fun x13 =>
                                        (F_zSame
                                              ((x11.fst, x11.snd.fst, x11.snd.snd.fst, x11.snd.snd.snd, x9.snd.snd.snd.snd), x13.fst, x13.snd.fst, x13.snd.snd.fst, x13.snd.snd.snd,
                                                x10.snd.snd.snd.snd)).bind
                                          fun x14 => some x14) := by kernel_rfl


end Go.Sm
/- Plain Lean: the law ZoneSame. -/
set_option linter.unusedVariables false
set_option linter.unusedSimpArgs false
namespace Go.Sm
open Go.Proofs

theorem lawZoneSame (y z : Zon) (hy : y.2.2.1.length ≤ 9223372036854775807) (hz : z.2.2.1.length ≤ 9223372036854775807) : F_lawZoneSame (y, z) = some true := by
  rw [e_lawZoneSame, law19alive]
  simp only [Option.bind_some, Bool.not_true, cond_false]
  obtain ⟨b1, hb1, hS1⟩ := law19Long y hy
  obtain ⟨b2, hb2, hS2⟩ := law19Long z hz
  rw [hb1, Option.bind_some]
  cases b1 with
  | true => rfl
  | false =>
    rw [cond_false, hb2, Option.bind_some]
    cases b2 with
    | true => rfl
    | false =>
      have hY := hS1 rfl
      have hZ := hS2 rfl
      have t1 := hY.types
      have t2 := hY.leaps
      have t3 := hZ.types
      have t4 := hZ.leaps
      rw [cond_false, zSame y z hY.mid, Option.bind_some, law19Document y (by omega) (by omega), Option.bind_some, law19Document z (by omega) (by omega), Option.bind_some, r9Same y z hY.mid, Option.bind_some]
      have hself : (!(decide (y = z) == decide (y = z))) = false := by simp
      rw [hself, cond_false, zSame z z hZ.mid, Option.bind_some, decide_eq_true (rfl : z = z), Bool.not_true, cond_false, own_ok hZ, Option.bind_some, zCopy hZ, Option.bind_some]
      obtain ⟨a, b, c, d, q⟩ := z
      have hm := hZ.mid
      obtain ⟨a', b', c', d', hs, l1, l2, l3, l4⟩ := spoil_ok a b c d q hm.a hm.b hm.c hm.d
      rw [hs, Option.bind_some, zSame _ _ hZ.mid, Option.bind_some, decide_eq_true rfl, Bool.not_true, cond_false, Option.bind_some]
      dsimp only
      have hm' : MidZ (a', b', c', d', q) := ⟨by unfold midL; have := hm.a; unfold midL at this; rw [l1]; exact this, by unfold midL; have := hm.b; unfold midL at this; rw [l2]; exact this,
        by unfold midL; have := hm.c; unfold midL at this; rw [l3]; exact this, by unfold midL; have := hm.d; unfold midL at this; rw [l4]; exact this⟩
      have hfin : F_zSame ((a', b', c', d', q), (a', b', c', d', q)) = _ := zSame _ _ hm'
      rw [hfin, decide_eq_true rfl]
      rfl
end Go.Sm
/- From a law's function that answers true to its contract. -/
set_option linter.unusedVariables false
namespace Go.Sm
theorem sim_true {P : Program} {f : FuncId} {σ : Type} {A : Codec σ} {F : σ → Option Bool} (h : SoundT P f (specF A 1 (codP [pB]) F)) {args : List AV} {x : σ} (hd : A.dec args [] = some x) (hF : F x = some true) : Sim P f args [] (.bool true) [] := by
  refine h args [] (.bool true) [] ?_
  show (specF A 1 (codP [pB]) F args []).run = _
  unfold specF
  rw [hd]
  dsimp only
  rw [hF]
  rfl
end Go.Sm
