/- promise: the law PromiseRoom. -/
import Derived.Test.YtjoncejabdjekaaS5
set_option linter.unusedVariables false
set_option linter.unusedSimpArgs false
namespace Go.Proofs.Ytjoncejabdjekaa.D
open Go Go.Proofs Go.Proofs.Ytjoncejabdjekaa.L

abbrev MoreT := Int × Int × Int × Int × Int × Shw
theorem prm_ok {c : Cmp} (hv : valid c = true) {k : Nat} (hk : k < c.2.length) : (0 ≤ (prm c k).2.2.1 ∧ (prm c k).2.2.1 ≤ 9) ∧ (0 ≤ (prm c k).2.2.2.1 ∧ (prm c k).2.2.2.1 ≤ 9) ∧ (0 ≤ (prm c k).2.2.2.2.1 ∧ (prm c k).2.2.2.2.1 ≤ 99) ∧ (0 ≤ (prm c k).2.2.2.2.2 ∧ (prm c k).2.2.2.2.2 ≤ 99) := by
  have := valid_prm hv hk
  simp only [okP, Bool.and_eq_true, wi_iff] at this
  exact ⟨this.2.2.1.2.1, this.2.2.1.2.2, this.2.2.2.2.1, this.2.2.2.2.2⟩

section
variable {c : Cmp} (hv : valid c = true) (x : MoreT)
include hv
theorem L5_0_eq (n : Int) (p : List Prm) (hr : 0 ≤ x.2.1 ∧ x.2.1 ≤ 9) : ∃ s, L5_0 (n, c, x, c.1, p) = some (n, c, x, s, p) ∧ SMore c.1 s := by
  cases h0 : decide ((0 : Int) ≤ x.1) with
  | false => exact ⟨c.1, by simp only [L5_0, p5_0, q5_0, h0, cond_false], SMore.refl _⟩
  | true =>
    cases h1 : decide (x.1 < (c.1.length : Int)) with
    | false => exact ⟨c.1, by simp only [L5_0, p5_0, q5_0, h0, h1, cond_true, cond_false], SMore.refl _⟩
    | true =>
      simp only [decide_eq_true_eq] at h0 h1
      obtain ⟨k, hk⟩ : ∃ k : Nat, x.1 = (k : Int) := ⟨x.1.toNat, by omega⟩
      have hk' : k < c.1.length := by omega
      have hS := valid_shw hv hk'
      simp only [okS, Bool.and_eq_true, wi_iff] at hS
      have hg : ix c.1 (k : Int) = shw c k := ix_nat _ _
      have f1 : fits .i64 ((shw c k).2.2 + x.2.1) = true := fits_of (by omega) (by omega)
      refine ⟨c.1.set k ((shw c k).1, (shw c k).2.1, min 6 ((shw c k).2.2 + x.2.1)), ?_, ⟨by simp, fun j hj => ?_⟩⟩
      · have g0 : decide ((0 : Int) ≤ x.1) = true := by simp [h0]
        have g1 : decide (x.1 < (c.1.length : Int)) = true := by simp [h1]
        have g2 : inR x.1 c.1.length = true := inR_of h0 h1
        simp only [L5_0, p5_0, q5_0, g0, g1, g2, cond_true, chk_t]
        rw [hk, hg]
        simp only [f1, chk_t, Int.toNat_natCast]
      · rw [getD_set _ _ _ _ _ hj]
        by_cases e : j = k
        · rw [if_pos e, e]
          refine ⟨rfl, rfl, ?_⟩
          show (shw c k).2.2 ≤ min 6 ((shw c k).2.2 + x.2.1)
          omega
        · rw [if_neg e]; exact ⟨rfl, rfl, Int.le_refl _⟩
theorem L5_1_eq (n : Int) (s : List Shw) (hk : 0 ≤ x.2.2.2.1 ∧ x.2.2.2.1 ≤ 9) (hd : 0 ≤ x.2.2.2.2.1 ∧ x.2.2.2.2.1 ≤ 99) : ∃ p, L5_1 (n, c, x, s, c.2) = some (n, c, x, s, p) ∧ PMore c.2 p := by
  cases h0 : decide ((0 : Int) ≤ x.2.2.1) with
  | false => exact ⟨c.2, by simp only [L5_1, p5_1, q5_1, h0, cond_false], PMore.refl _⟩
  | true =>
    cases h1 : decide (x.2.2.1 < (c.2.length : Int)) with
    | false => exact ⟨c.2, by simp only [L5_1, p5_1, q5_1, h0, h1, cond_true, cond_false], PMore.refl _⟩
    | true =>
      simp only [decide_eq_true_eq] at h0 h1
      obtain ⟨k, hk2⟩ : ∃ k : Nat, x.2.2.1 = (k : Int) := ⟨x.2.2.1.toNat, by omega⟩
      have hk' : k < c.2.length := by omega
      have hS := prm_ok hv hk'
      have hg : ix c.2 (k : Int) = prm c k := ix_nat _ _
      have f1 : fits .i64 ((prm c k).2.2.1 - x.2.2.2.1) = true := fits_of (by omega) (by omega)
      have f2 : fits .i64 ((prm c k).2.2.2.1 + x.2.2.2.1) = true := fits_of (by omega) (by omega)
      have f3 : fits .i64 ((prm c k).2.2.2.2.1 - x.2.2.2.2.1) = true := fits_of (by omega) (by omega)
      have f4 : fits .i64 ((prm c k).2.2.2.2.2 + x.2.2.2.2.1) = true := fits_of (by omega) (by omega)
      refine ⟨c.2.set k ((prm c k).1, (prm c k).2.1, max 0 ((prm c k).2.2.1 - x.2.2.2.1), min 9 ((prm c k).2.2.2.1 + x.2.2.2.1), max 0 ((prm c k).2.2.2.2.1 - x.2.2.2.2.1), min 99 ((prm c k).2.2.2.2.2 + x.2.2.2.2.1)), ?_, ⟨by simp, fun j hj => ?_⟩⟩
      · have g0 : decide ((0 : Int) ≤ x.2.2.1) = true := by simp [h0]
        have g1 : decide (x.2.2.1 < (c.2.length : Int)) = true := by simp [h1]
        have g2 : inR x.2.2.1 c.2.length = true := inR_of h0 h1
        simp only [L5_1, p5_1, q5_1, g0, g1, g2, cond_true, chk_t]
        rw [hk2, hg]
        simp only [f1, f2, f3, f4, chk_t, Int.toNat_natCast]
      · rw [getD_set _ _ _ _ _ hj]
        by_cases e : j = k
        · rw [if_pos e, e]
          have hg2 : c.2.getD k default = prm c k := rfl
          rw [hg2]
          dsimp only
          omega
        · rw [if_neg e]; exact ⟨rfl, Int.le_refl _, Int.le_refl _, Int.le_refl _, Int.le_refl _⟩
end
theorem L5_2_eq (n : Int) (c : Cmp) (x : MoreT) (s : List Shw) (p : List Prm) (hs : s.length < 1000000) : ∃ s', L5_2 (n, c, x, s, p) = some (n, c, x, p, s') ∧ SMore s s' := by
  cases h0 : decide ((s.length : Int) < 5) with
  | false => exact ⟨s, by simp only [L5_2, p5_2, q5_2, h0, cond_false], SMore.refl _⟩
  | true =>
    refine ⟨s ++ [x.2.2.2.2.2], ?_, ⟨by simp, fun j hj => ?_⟩⟩
    · have f : capOk 24 (s.length + [x.2.2.2.2.2].length) = true := capOk_of (by simp; omega)
      simp only [L5_2, p5_2, q5_2, h0, cond_true, f, chk_t]
    · have : (s ++ [x.2.2.2.2.2]).getD j default = s.getD j default := by simp [List.getD_eq_getElem?_getD, List.getElem?_append_left hj]
      rw [this]; exact ⟨rfl, rfl, Int.le_refl _⟩
theorem L5_3_eq {c : Cmp} (hv : valid c = true) (x : MoreT) {s : List Shw} {p : List Prm} (hs : SMore c.1 s) (hp : PMore c.2 p) : L5_3 (most c, c, x, s, p) = some (.inr (most c, c, x, s, p)) := by
  simp only [L5_3, p5_3, q5_3, P21_eq, bind_some']
  cases hr : readyB (s, p) with
  | false => rfl
  | true =>
    have hv' := ready_valid hr
    have hm := most_more hv hv' hs hp
    have d : decide (most (s, p) < most c) = false := by simp; omega
    simp only [cond_true, P22_eq, hv', bind_some', decide_true, Bool.not_true, cond_false, d]

theorem Pure.PromiseRoom (c : Cmp) (_ : Wf (.pair (.sl (.pair (.int .i64) (.pair (.int .i64) (.int .i64)))) (.sl (.pair (.int .i64) (.pair (.int .i64) (.pair (.int .i64) (.pair (.int .i64) (.pair (.int .i64) (.int .i64)))))))) c)
    (x : MoreT) (_ : Wf (.pair (.int .i64) (.pair (.int .i64) (.pair (.int .i64) (.pair (.int .i64) (.pair (.int .i64) (.pair (.int .i64) (.pair (.int .i64) (.int .i64)))))))) x) : P5 (c, x) = some true := by
  cases hr : readyB c with
  | false => simp only [P5, p5, q5, P21_eq, hr, bind_some', Bool.not_false, cond_true, works]
  | true =>
    have hv := ready_valid hr
    have hl := ready_len hr
    cases b1 : decide (x.2.1 < (0 : Int)) with
    | true => simp only [P5, p5, q5, P21_eq, hr, bind_some', Bool.not_true, cond_false, b1, cond_true, works]
    | false =>
    cases b2 : decide ((9 : Int) < x.2.1) with
    | true => simp only [P5, p5, q5, P21_eq, hr, bind_some', Bool.not_true, cond_false, b1, b2, cond_true, works]
    | false =>
    cases b3 : decide (x.2.2.2.1 < (0 : Int)) with
    | true => simp only [P5, p5, q5, P21_eq, hr, bind_some', Bool.not_true, cond_false, b1, b2, b3, cond_true, works]
    | false =>
    cases b4 : decide ((9 : Int) < x.2.2.2.1) with
    | true => simp only [P5, p5, q5, P21_eq, hr, bind_some', Bool.not_true, cond_false, b1, b2, b3, b4, cond_true, works]
    | false =>
    cases b5 : decide (x.2.2.2.2.1 < (0 : Int)) with
    | true => simp only [P5, p5, q5, P21_eq, hr, bind_some', Bool.not_true, cond_false, b1, b2, b3, b4, b5, cond_true, works]
    | false =>
    cases b6 : decide ((99 : Int) < x.2.2.2.2.1) with
    | true => simp only [P5, p5, q5, P21_eq, hr, bind_some', Bool.not_true, cond_false, b1, b2, b3, b4, b5, b6, cond_true, works]
    | false =>
    have w1 := of_decide_eq_false b1; have w2 := of_decide_eq_false b2; have w3 := of_decide_eq_false b3; have w4 := of_decide_eq_false b4; have w5 := of_decide_eq_false b5; have w6 := of_decide_eq_false b6
    obtain ⟨s1, e1, m1⟩ := L5_0_eq hv x (most c) c.2 ⟨by omega, by omega⟩
    obtain ⟨p2, e2, m2⟩ := L5_1_eq hv x (most c) s1 ⟨by omega, by omega⟩ ⟨by omega, by omega⟩
    have hs1 : s1.length < 1000000 := by
      by_cases h : s1.length < 1000000
      · exact h
      · exfalso
        have : s1.length = c.1.length := by
          have h2 : L5_0 (most c, c, x, c.1, c.2) = some (most c, c, x, s1, c.2) := e1
          simp only [L5_0, p5_0, q5_0] at h2
          revert h2
          cases decide ((0 : Int) ≤ x.1) <;> cases decide (x.1 < (c.1.length : Int)) <;> cases inR x.1 c.1.length <;> cases fits .i64 ((ix c.1 x.1).2.2 + x.2.1) <;> simp [chk] <;> intro h2 <;> rw [← h2] <;> simp
        omega
    obtain ⟨s3, e3, m3⟩ := L5_2_eq (most c) c x s1 p2 hs1
    have e4 := L5_3_eq hv x (m1.trans m3) m2
    simp only [P5, p5, q5, P21_eq, hr, bind_some', Bool.not_true, cond_false, b1, b2, b3, b4, b5, b6, P22_eq, hv, cond_true, decide_true, P10_eq c (by omega) (by omega), e1, e2, e3, e4, elim_inr]
    cases c1 : decide (x.2.2.1 < (0 : Int)) with
    | true => simp only [cond_true, works, bind_some']
    | false =>
    cases c2 : decide ((c.2.length : Int) ≤ x.2.2.1) with
    | true => simp only [cond_true, cond_false, works, bind_some']
    | false =>
    have v1 := of_decide_eq_false c1; have v2 := of_decide_eq_false c2
    obtain ⟨k, hk⟩ : ∃ k : Nat, x.2.2.1 = (k : Int) := ⟨x.2.2.1.toNat, by omega⟩
    have hk' : k < c.2.length := by omega
    have ht := valid_times hv hk'
    have hg : ix c.2 (k : Int) = prm c k := ix_nat _ _
    have f1 : fits .i64 ((prm c k).2.1 + 1) = true := fits_of (by omega) (by omega)
    simp only [cond_false, hk, hg, inR_nat hk', chk_t, f1, Int.toNat_natCast]
    have ha : ((c.1, c.2.set k ((prm c k).1, (prm c k).2.1 + 1, (prm c k).2.2)) : Cmp) = again c k := rfl
    rw [ha]
    cases hr2 : readyB (again c k) with
    | false => simp only [Bool.not_false, cond_true, works, bind_some']
    | true =>
      have hv2 := ready_valid hr2
      have hm := most_again hk'
      have hb := bound_bd (d := []) (valid_good hv) 0
      have hb2 : 0 ≤ most c ∧ most c ≤ 96 := by
        obtain ⟨j, _, e⟩ := least_is (c := c) (d := []) (w := times c)
        have := bound_bd (d := []) (valid_good hv) (j : Nat)
        unfold most; rw [e]; exact this
      have f2 : fits .i64 (most c + 1) = true := fits_of (by omega) (by omega)
      simp only [Bool.not_true, cond_false, hv2, cond_true, bind_some', decide_true, f2, chk_t]
      cases d1 : decide (most (again c k) = most c) with
      | true => simp only [cond_true, works, bind_some']
      | false =>
        have d1' := of_decide_eq_false d1
        have d2 : decide (most (again c k) = most c + 1) = true := by simp; omega
        simp only [cond_false, d2, cond_true, works, bind_some']
end Go.Proofs.Ytjoncejabdjekaa.D
