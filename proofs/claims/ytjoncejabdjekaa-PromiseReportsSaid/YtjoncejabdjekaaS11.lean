/- promise: the law PromiseReports. -/
import Derived.Test.YtjoncejabdjekaaS10
import Derived.Test.YtjoncejabdjekaaG4
set_option linter.unusedVariables false
set_option linter.unusedSimpArgs false
namespace Go.Proofs.Ytjoncejabdjekaa.D
open Go Go.Proofs Go.Proofs.Ytjoncejabdjekaa.L

/-- A loop with a measure. -/
theorem while_mu {σ ρ : Type} {step : σ → Option (σ ⊕ ρ)} (R : σ → Prop) (μ : σ → Nat) (Q : ρ → Prop) (h : ∀ x, R x → (∃ r, step x = some (.inr r) ∧ Q r) ∨ ∃ y, step x = some (.inl y) ∧ R y ∧ μ y < μ x) (x0 : σ) (h0 : R x0) (hn : μ x0 < 18446744073709551616) : ∃ r, whileF step x0 = some r ∧ Q r := by
  have key : ∀ (m : Nat) (x : σ), R x → μ x < m → ∃ r, goF step m x = some r ∧ Q r := by
    intro m
    induction m with
    | zero => intro x _ h; omega
    | succ m ih =>
      intro x hx hm
      rcases h x hx with ⟨r, h1, h2⟩ | ⟨y, h1, h2, h3⟩
      · exact ⟨r, by simp only [goF, h1], h2⟩
      · obtain ⟨r, h4, h5⟩ := ih y h2 (by omega)
        exact ⟨r, by simp only [goF, h1]; exact h4, h5⟩
  exact key _ x0 h0 hn

abbrev MovT := List Int × Int × Int × Int × Int
theorem swap_mem {mv : List Ran} {a b : Nat} (ha : a < mv.length) (hb : b < mv.length) (r : Ran) : r ∈ (mv.set a (ran mv b)).set b (ran mv a) ↔ r ∈ mv := by
  have hat : ∀ j, j < mv.length → ran ((mv.set a (ran mv b)).set b (ran mv a)) j = if j = b then ran mv a else if j = a then ran mv b else ran mv j := fun j hj => by
    show ((mv.set a (ran mv b)).set b (ran mv a)).getD j default = _
    rw [getD_set _ _ _ _ _ (by rw [List.length_set]; exact hj), getD_set _ _ _ _ _ hj]; rfl
  have hl : ((mv.set a (ran mv b)).set b (ran mv a)).length = mv.length := by simp
  constructor
  · intro h
    obtain ⟨j, hj, e⟩ := mem_ran h
    rw [hl] at hj
    rw [hat j hj] at e
    rw [← e]
    split
    · exact ran_mem ha
    · split
      · exact ran_mem hb
      · exact ran_mem hj
  · intro h
    obtain ⟨j, hj, e⟩ := mem_ran h
    have put : ∀ i, i < mv.length → ran ((mv.set a (ran mv b)).set b (ran mv a)) i = r → r ∈ (mv.set a (ran mv b)).set b (ran mv a) := fun i hi e => by
      rw [← e]; exact ran_mem (by rw [hl]; exact hi)
    by_cases h1 : j = a
    · exact put b hb (by rw [hat b hb, if_pos rfl, ← e, h1])
    · by_cases h2 : j = b
      · refine put a ha ?_
        rw [hat a ha]
        by_cases h3 : a = b
        · exact absurd (h2.trans h3.symm) h1
        · rw [if_neg h3, if_pos rfl, ← e, h2]
      · exact put j hj (by rw [hat j hj, if_neg h2, if_neg h1, e])

def SameR (mv l : List Ran) : Prop := mv.length = l.length ∧ ∀ r, r ∈ mv ↔ r ∈ l
theorem L6_1_eq (l : List Ran) (c : Cmp) (x : MovT) (i : Nat) (mv : List Ran) (hi : i < mv.length) (hb : i < x.1.length) (hl : mv.length < 1000000) :
    ∃ mv', L6_1 (l, (i : Int), (i : Int), c, x, mv) = some (l, (i : Int), c, x, mv') ∧ SameR mv' mv := by
  obtain ⟨r, h1, mv', h2, h3⟩ := while_mu (step := fun y => p6_1 y.1 y.2.1 y.2.2.1 y.2.2.2.1 y.2.2.2.2.1 y.2.2.2.2.2)
    (fun y => ∃ (k : Nat) (m : List Ran), y = (l, (i : Int), (k : Int), c, x, m) ∧ k ≤ i ∧ SameR m mv) (fun y => y.2.2.1.toNat) (fun r => ∃ m, r = (l, (i : Int), c, x, m) ∧ SameR m mv)
    (fun y ⟨k, m, hy, hk, hm⟩ => by
      subst hy
      cases h0 : decide ((0 : Int) < (k : Int)) with
      | false => exact .inl ⟨_, by simp only [p6_1, q6_1, h0, cond_false], m, rfl, hm⟩
      | true =>
        have h0' : 0 < k := by have := of_decide_eq_true h0; omega
        have f1 : fits .i64 ((k : Int) - 1) = true := fits_of (by omega) (by omega)
        have e1 : (k : Int) - 1 = ((k - 1 : Nat) : Int) := by omega
        have i1 : inR (k : Int) m.length = true := inR_nat (by rw [hm.1]; omega)
        have i2 : inR ((k - 1 : Nat) : Int) m.length = true := inR_nat (by rw [hm.1]; omega)
        have i3 : inR ((k - 1 : Nat) : Int) (m.set k (ran m (k - 1))).length = true := by rw [List.length_set]; exact i2
        have g1 : ix m ((k - 1 : Nat) : Int) = ran m (k - 1) := ix_nat _ _
        have g2 : ix m (k : Int) = ran m k := ix_nat _ _
        cases hd : decide (IntKind.wrap .i64 ((i : Int) - ix x.1 (i : Int)) < (k : Int)) with
        | false => exact .inl ⟨_, by simp only [p6_1, q6_1, h0, cond_true, inR_nat hb, chk_t, hd, cond_false], m, rfl, hm⟩
        | true =>
          refine .inr ⟨(l, (i : Int), ((k - 1 : Nat) : Int), c, x, (m.set k (ran m (k - 1))).set (k - 1) (ran m k)), ?_, ⟨k - 1, _, rfl, by omega, ⟨by simp [hm.1], fun r => (swap_mem (by rw [hm.1]; omega) (by rw [hm.1]; omega) r).trans (hm.2 r)⟩⟩, by show ((k - 1 : Nat) : Int).toNat < ((k : Int)).toNat; omega⟩
          rw [e1] at f1
          simp only [p6_1, q6_1, h0, cond_true, inR_nat hb, chk_t, hd, e1, f1, i1, i2, g1, g2, Int.toNat_natCast, i3])
    (l, (i : Int), (i : Int), c, x, mv) ⟨i, mv, rfl, Nat.le_refl _, rfl, fun _ => Iff.rfl⟩ (by show ((i : Int)).toNat < _; omega)
  subst h2
  exact ⟨mv', h1, h3⟩
theorem L6_0_eq (l : List Ran) (c : Cmp) (x : MovT) (hl : l.length < 1000000) : ∃ mv, L6_0 (l, 0, c, x, l) = some (l, c, x, mv) ∧ SameR mv l := by
  obtain ⟨r, h1, mv', h2, h3⟩ := while_mu (step := fun y => p6_0 y.1 y.2.1 y.2.2.1 y.2.2.2.1 y.2.2.2.2)
    (fun y => ∃ (i : Nat) (m : List Ran), y = (l, (i : Int), c, x, m) ∧ i ≤ l.length ∧ SameR m l) (fun y => l.length - y.2.1.toNat) (fun r => ∃ m, r = (l, c, x, m) ∧ SameR m l)
    (fun y ⟨i, m, hy, hi, hm⟩ => by
      subst hy
      cases h0 : decide ((i : Int) < (m.length : Int)) with
      | false => exact .inl ⟨_, by simp only [p6_0, q6_0, h0, cond_false], m, rfl, hm⟩
      | true =>
        cases h1 : decide ((i : Int) < (x.1.length : Int)) with
        | false => exact .inl ⟨_, by simp only [p6_0, q6_0, h0, cond_true, h1, cond_false], m, rfl, hm⟩
        | true =>
          have h0' : i < m.length := by have := of_decide_eq_true h0; omega
          have h1' : i < x.1.length := by have := of_decide_eq_true h1; omega
          obtain ⟨m', e, hs⟩ := L6_1_eq l c x i m h0' h1' (by rw [hm.1]; exact hl)
          have hml := hm.1
          refine .inr ⟨(l, ((i + 1 : Nat) : Int), c, x, m'), ?_, ⟨i + 1, m', rfl, by omega, hs.1.trans hm.1, fun r => (hs.2 r).trans (hm.2 r)⟩, by show l.length - ((i + 1 : Nat) : Int).toNat < l.length - ((i : Int)).toNat; omega⟩
          simp only [p6_0, q6_0, h0, cond_true, h1, e, bind_some', fits_nat (show i < 9223372036854775807 by omega), chk_t, cast_succ])
    (l, (0 : Int), c, x, l) ⟨0, l, rfl, Nat.zero_le _, rfl, fun _ => Iff.rfl⟩ (by show l.length - _ < _; omega)
  subst h2
  exact ⟨mv', h1, h3⟩
theorem L6_2_eq (l : List Ran) (c : Cmp) (x : MovT) (mv : List Ran) (hs : SameR mv l) (hl : l.length ≤ 28) : ∃ mv', L6_2 (l, c, x, mv) = some (l, c, x, mv') ∧ mv'.length ≤ 29 ∧ ∀ r, r ∈ l ↔ r ∈ mv' := by
  have hsl := hs.1
  cases h0 : decide ((0 : Int) < (l.length : Int)) with
  | false => exact ⟨mv, by simp only [L6_2, p6_2, q6_2, h0, cond_false], by omega, fun r => (hs.2 r).symm⟩
  | true =>
    have h0' : 0 < l.length := by have := of_decide_eq_true h0; omega
    have e1 : (l.length : Int) - 1 = ((l.length - 1 : Nat) : Int) := by omega
    have f1 : fits .i64 ((l.length - 1 : Nat) : Int) = true := fits_of (by omega) (by omega)
    have i1 : inR ((l.length - 1 : Nat) : Int) l.length = true := inR_nat (by omega)
    have g1 : ix l ((l.length - 1 : Nat) : Int) = ran l (l.length - 1) := ix_nat _ _
    have f2 : capOk 24 (mv.length + [ran l (l.length - 1)].length) = true := capOk_of (by simp; omega)
    refine ⟨mv ++ [ran l (l.length - 1)], by simp only [L6_2, p6_2, q6_2, h0, cond_true, e1, f1, i1, g1, f2, chk_t], by simp; omega, fun r => ?_⟩
    rw [List.mem_append, hs.2 r, List.mem_singleton]
    constructor
    · exact .inl
    · rintro (h | rfl)
      · exact h
      · exact ran_mem (by omega)

theorem lateC_zero {c : Cmp} (hv : valid c = true) : lateC 0 c = c := by
  have h := lateN_at 0 c.1 c.1.length (Nat.le_refl _)
  have : lateN 0 c.1.length c.1 = c.1 := by
    refine List.ext_getElem h.1 fun i h1 h2 => ?_
    have h3 := h.2 i h2
    rw [if_pos h2, getD_lt _ _ h1, getD_lt _ _ h2] at h3
    rw [h3]
    have hS := valid_shw hv h2
    have hg : shw c i = c.1[i] := getD_lt _ _ h2
    rw [hg] at hS
    simp only [okS, Bool.and_eq_true, wi_iff] at hS
    have : decide ((c.1[i]).1 < 0) = false := by simp; omega
    unfold late1; rw [this]; rfl
  unfold lateC; rw [this]

set_option maxRecDepth 20000 in
theorem Pure.PromiseReports (c : Cmp) (_ : Wf (.pair (.sl (.pair (.int .i64) (.pair (.int .i64) (.int .i64)))) (.sl (.pair (.int .i64) (.pair (.int .i64) (.pair (.int .i64) (.pair (.int .i64) (.pair (.int .i64) (.int .i64)))))))) c)
    (l : List Ran) (_ : Wf (.sl (.pair (.int .i64) (.pair (.int .i64) (.int .i64)))) l)
    (x : MovT) (_ : Wf (.pair (.sl (.int .i64)) (.pair (.int .i64) (.pair (.int .i64) (.pair (.int .i64) (.int .i64))))) x) : P6 (c, l, x) = some true := by
  cases hr : readyB c with
  | false => simp only [P6, p6, q6, P21_eq, hr, bind_some', Bool.not_false, cond_true, works]
  | true =>
  have hv := ready_valid hr
  have hl := ready_len hr
  cases b1 : decide ((28 : Int) < (l.length : Int)) with
  | true => simp only [P6, p6, q6, P21_eq, hr, bind_some', Bool.not_true, cond_false, b1, cond_true, works]
  | false =>
  have w1 : l.length ≤ 28 := by have := of_decide_eq_false b1; omega
  cases b2 : decide ((40 : Int) < (x.1.length : Int)) with
  | true => simp only [P6, p6, q6, P21_eq, hr, bind_some', Bool.not_true, cond_false, b1, b2, cond_true, works]
  | false =>
  cases b3 : repB c.1.length l with
  | false =>
    have d : (!decide ((72 : Int) = 0)) = true := by decide
    simp only [P6, p6, q6, P21_eq, hr, bind_some', Bool.not_true, cond_false, b1, b2, P23_eq c l (by omega), b3, d, cond_true, works]
  | true =>
  cases b4 : decide (x.2.2.2.2 < (0 : Int)) with
  | true => simp only [P6, p6, q6, P21_eq, hr, bind_some', Bool.not_true, cond_false, b1, b2, P23_eq c l (by omega), b3, cond_true, decide_true, b4, works]
  | false =>
  cases b5 : decide ((99 : Int) ≤ x.2.2.2.2) with
  | true => simp only [P6, p6, q6, P21_eq, hr, bind_some', Bool.not_true, cond_false, b1, b2, P23_eq c l (by omega), b3, cond_true, decide_true, b4, b5, works]
  | false =>
  have w4 := of_decide_eq_false b4
  have w5 := of_decide_eq_false b5
  have hR := repB_iff.1 b3
  obtain ⟨mv, e0, s0⟩ := L6_0_eq l c x (by omega)
  obtain ⟨mv2, e2, hl2, hm2⟩ := L6_2_eq l c x mv s0 w1
  have hR2 : RepOk c.1.length mv2 := hR.of_mem (by omega) fun r h => (hm2 r).2 h
  have hR0 : RepOk c.1.length [] := hR.of_mem (by simp) fun r h => by cases h
  obtain ⟨sn1, dn1, wa, h17, o1⟩ := P17_eq hv hR
  obtain ⟨sn2, dn2, wb, h17', o2⟩ := P17_eq hv hR2
  obtain ⟨ex3, sn3, dn3, wc, h19, o3⟩ := P19_eq hv hR x.2.2.2.2 ⟨by omega, by omega⟩
  obtain ⟨ex4, sn4, dn4, wd, h19', o4⟩ := P19_eq hv hR2 (x.2.2.2.2 + 1) ⟨by omega, by omega⟩
  obtain ⟨ex5, sn5, dn5, we, h19'', o5⟩ := P19_eq hv hR0 0 ⟨by decide, by decide⟩
  have hex : extraB c mv2 mv2.length = extraB c l l.length := (extra_mem hm2).symm
  obtain ⟨rfl, hdn2⟩ := owe_mem hm2 o1 o2
  obtain ⟨rfl, hdn3⟩ := owe_mem (fun _ => Iff.rfl) o1 o3
  obtain ⟨rfl, hdn4⟩ := owe_mem hm2 o1 o4
  have hwl := o1.wl
  have hroom : ∀ k, k < c.1.length → 0 ≤ (shw c k).2.2 := fun k hk => by
    have := valid_shw hv hk
    simp only [okS, Bool.and_eq_true, wi_iff] at this
    exact this.2.2.1
  have hwb : ∀ i, i < wa.length → 0 ≤ ix wa (i : Int) ∧ ix wa (i : Int) ≤ 8 := (late_good hv o1 0).t
  have hsum := sumN_bd (f := fun i => ix wa (i : Nat)) (a := 0) (b := 8) (n := wa.length) hwb
  have h24 := P24_eq wa hwb (by omega)
  have gR : ∀ (D : Int) (k : Nat), k < (lateC D c).1.length → 0 ≤ (ix (lateC D c).1 (k : Int)).2.2 := fun D k hk => ((late_good hv o1 D).r k hk).1
  have z1 : leastB (lateC x.2.2.2.2 c) dn3 wa ≤ sumN wa.length fun i => ix wa (i : Nat) := by
    have := least_le (c := lateC x.2.2.2.2 c) (d := dn3) (w := wa) (setsN_pos _)
    rw [show ((0 : Nat) : Int) = 0 from rfl, bnd_zero (gR _)] at this
    exact this
  have z2 : leastB (lateC (x.2.2.2.2 + 1) c) dn4 wa ≤ leastB (lateC x.2.2.2.2 c) dn3 wa :=
    least_mono rfl fun y _ => bnd_late _ _ (by omega) rfl hroom (fun i k hi hk => by rw [← hdn3 i k hi hk, hdn4 i k hi hk]) y
  have z3 : 0 ≤ leastB (lateC (x.2.2.2.2 + 1) c) dn4 wa := least_nonneg (late_good hv o4 _)
  obtain ⟨rfl, hdn5⟩ := owe_mem (l := []) (l' := []) (fun _ => Iff.rfl) o5 (OweI.zero (l := []) hv)
  have z4 : leastB (lateC 0 c) dn5 (times c) = most c := by
    have a := least_mono (c1 := lateC 0 c) (d1 := dn5) (w1 := times c) (c2 := lateC 0 c) (d2 := []) (w2 := times c) rfl fun y _ => bnd_late (c := c) 0 0 (Int.le_refl _) rfl hroom (fun i k hi hk => (hdn5 i k hi hk).symm) y
    have b := least_mono (c1 := lateC 0 c) (d1 := []) (w1 := times c) (c2 := lateC 0 c) (d2 := dn5) (w2 := times c) rfl fun y _ => bnd_late (c := c) 0 0 (Int.le_refl _) rfl hroom (fun i k hi hk => hdn5 i k hi hk) y
    have e : leastB (lateC 0 c) [] (times c) = most c := by rw [lateC_zero hv]; rfl
    omega
  have f0 : capOk 24 (([] : List Ran).length + l.length) = true := capOk_of (by simp; omega)
  have f0' : capOk 24 l.length = true := capOk_of (by omega)
  have f1 : capOk 24 (l.length + [((x.2.1, x.2.2.1, x.2.2.2.1) : Ran)].length) = true := capOk_of (by simp; omega)
  have fd : fits .i64 (x.2.2.2.2 + 1) = true := fits_of (by omega) (by omega)
  have dl : decide ((wa.length : Int) = (c.2.length : Int)) = true := by simp [hwl]
  have d1 : decide ((100 : Int) < sumN wa.length fun i => ix wa (i : Nat)) = false := by simp; omega
  have d2 : decide ((sumN wa.length fun i => ix wa (i : Nat)) < leastB (lateC x.2.2.2.2 c) dn3 wa) = false := by simp; omega
  have d3 : decide (leastB (lateC x.2.2.2.2 c) dn3 wa < leastB (lateC (x.2.2.2.2 + 1) c) dn4 wa) = false := by simp; omega
  have d4 : decide (leastB (lateC (x.2.2.2.2 + 1) c) dn4 wa < 0) = false := by simp; omega
  have h23 : ∀ l, P23 (c, l) = some (cond (repB c.1.length l) 0 72) := fun l => P23_eq c l (by omega)
  have h15 : P15 (wa, wa) = some true := P15_refl wa (by omega)
  simp only [P6, p6, q6, P21_eq, hr, bind_some', Bool.not_true, cond_false, b1, b2, h23, b3, cond_true, decide_true, b4, b5, f0, chk_t, List.nil_append, e0, e2, h17, h17', hex, h15, dl, h24, d1, h19, fd, h19', h19'', P22_eq, hv, d2, d3, d4, z4, f0', f1]
  cases b6 : repB c.1.length (l ++ [((x.2.1, x.2.2.1, x.2.2.2.1) : Ran)]) with
  | false =>
    have d : (!decide ((72 : Int) = 0)) = true := by decide
    simp only [cond_false, d, cond_true, works, bind_some']
  | true =>
  have hRm := repB_iff.1 b6
  obtain ⟨snm, dnm, wm, h17m, om⟩ := P17_eq hv hRm
  have hlm : (l ++ [((x.2.1, x.2.2.1, x.2.2.2.1) : Ran)]).length = l.length + 1 := by simp
  have hpre : ∀ s k, seenB (l ++ [((x.2.1, x.2.2.1, x.2.2.2.1) : Ran)]) l.length s k = seenB l l.length s k := fun s k => by
    unfold seenB
    congr 1
    refine allB_congr fun j hj => ?_
    have : ran (l ++ [((x.2.1, x.2.2.1, x.2.2.2.1) : Ran)]) j = ran l j := by simp [ran, List.getD_eq_getElem?_getD, List.getElem?_append_left hj]
    rw [this]
  have hpw : ∀ i, wantB c (l ++ [((x.2.1, x.2.2.1, x.2.2.2.1) : Ran)]) l.length i = wantB c l l.length i := fun i => by simp only [wantB, cntB, hpre]
  have hpe : extraB c (l ++ [((x.2.1, x.2.2.1, x.2.2.2.1) : Ran)]) l.length = extraB c l l.length := by simp only [extraB, disB, paidB, hpw, hpre]
  have hex2 := extra_step hv hRm (m := l.length) (by rw [hlm]; omega)
  rw [hpe, ← hlm] at hex2
  have hwm : ∀ i, i < c.2.length → ix wm (i : Int) ≤ ix wa (i : Int) ∧ ix wa (i : Int) - 1 ≤ ix wm (i : Int) := fun i hi => by
    have h1 := want_step (c := c) (l := l ++ [((x.2.1, x.2.2.1, x.2.2.2.1) : Ran)]) l.length i
    rw [hpw, ← hlm] at h1
    rw [om.wa i hi, o1.wa i hi]
    exact h1
  have hwml := om.wl
  have e3 : L6_3 (0, wa, wm) = some (.inr (wa, wm)) := by
    refine while_run wm.length (fun k => ((k : Int), wa, wm)) _ (fun k hk => ?_) ?_ (by omega)
    · have h1 := hwm k (by omega)
      have h2 := hwb k (by omega)
      have i1 : inR (k : Int) wa.length = true := inR_nat (by omega)
      have g1 : decide (ix wa (k : Int) < ix wm (k : Int)) = false := by simp; omega
      have g2 : decide (ix wm (k : Int) < ix wa (k : Int) - 1) = false := by simp; omega
      have f2 : fits .i64 (ix wa (k : Int) - 1) = true := fits_of (by omega) (by omega)
      simp only [p6_3, q6_3, lt_nat_t hk, cond_true, inR_nat hk, i1, chk_t, g1, g2, f2, cond_false, fits_nat (show k < 9223372036854775807 by omega), cast_succ]
    · simp only [p6_3, q6_3, lt_nat_f, cond_false]
  have d5 : decide ((wm.length : Int) = (wa.length : Int)) = true := by simp [hwl, hwml]
  have d6 : decide (extraB c (l ++ [((x.2.1, x.2.2.1, x.2.2.2.1) : Ran)]) (l ++ [((x.2.1, x.2.2.1, x.2.2.2.1) : Ran)]).length < extraB c l l.length) = false := by simp only [decide_eq_false_iff_not]; omega
  simp only [cond_true, decide_true, Bool.not_true, cond_false, h17m, bind_some', d5, d6, e3, elim_inr, works]
end Go.Proofs.Ytjoncejabdjekaa.D
