/- Cut down from a longer text. -/
import Derived.Test.YtfknkinmnecoeaaS2q
set_option linter.unusedVariables false
set_option linter.unusedSimpArgs false
namespace Go.Proofs.Ytfknkinmnecoeaa.D
open Go Go.Proofs Go.Proofs.Ytfknkinmnecoeaa.L
theorem P68_eq (l : List CT) (f : Int) (hl : l.length ≤ 1000) : (∃ k, k < l.length ∧ P68 (l, f) = some (k : Int) ∧ fc l f = some (gt l k)) ∨ (P68 (l, f) = some (-1) ∧ fc l f = none) := by
  have h := while_find (step := fun x => p68_0 x.1 x.2.1 x.2.2.1 x.2.2.2) l.length (fun k => (l, f, (l.length : Int), (k : Int))) (fun k => decide ((gt l k).1 = f)) (fun k => .inl (k : Int)) (.inr ())
    (fun k hk _ => by
      simp only [p68_0, q68_0, lt_nat_t hk, cond_true, inR_nat hk, chk_t, ix_gt, fits_nat (show k < 9223372036854775807 by omega), cast_succ, P69, p69, q69, bind_some']
      cases decide ((gt l k).1 = f) <;> rfl) (fun _ => by simp only [p68_0, q68_0, lt_nat_f, cond_false]) (by omega)
  rcases h with ⟨k, hk, h1, h2, h3⟩ | ⟨h2, h3⟩
  · have e : L68_0 (l, f, (l.length : Int), 0) = some (.inl (k : Int)) := h3
    exact .inl ⟨k, hk, by simp only [P68, p68, q68, e, bind_some', elim_inl], by rw [fc, find_at hk h1 h2]⟩
  · have e : L68_0 (l, f, (l.length : Int), 0) = some (.inr ()) := h3
    exact .inr ⟨by simp only [P68, p68, q68, e, bind_some', elim_inr], by rw [fc, find_no h2]⟩
theorem P47_eq (b : BT) (f : Int) (hl : b.2.1.length ≤ 1000) : P47 (b, f) = some (crV (fc b.2.1 f)) := by
  rcases P68_eq b.2.1 f hl with ⟨k, hk, h1, h2⟩ | ⟨h1, h2⟩
  · have d : decide ((k : Int) < 0) = false := by simp
    simp only [P47, p47, q47, h1, bind_some', d, cond_false, inR_nat hk, chk_t, ix_gt, h2]; rfl
  · simp only [P47, p47, q47, h1, bind_some', h2]; rfl
theorem P71_eq (l : List Int) (hl : l.length ≤ 1000) : P71 l = some (!(allB l.length fun i => wi (gt l i) 0 1000)) := by
  have h := while_find (step := fun x => p85_0 x.1 x.2.1 x.2.2) l.length (fun k => (l, (l.length : Int), (k : Int))) (fun k => !wi (gt l k) 0 1000) (fun k => .inl (k : Int)) (.inr ())
    (fun k hk _ => by
      simp only [p85_0, q85_0, lt_nat_t hk, cond_true, inR_nat hk, chk_t, ix_gt, fits_nat (show k < 9223372036854775807 by omega), cast_succ, P72, p72, q72, P70_eq, bind_some']
      cases wi (gt l k) 0 1000 <;> rfl) (fun _ => by simp only [p85_0, q85_0, lt_nat_f, cond_false]) (by omega)
  rcases h with ⟨k, hk, h1, h2, h3⟩ | ⟨h2, h3⟩
  · have e : L85_0 (l, (l.length : Int), 0) = some (.inl (k : Int)) := h3
    have d : decide ((0 : Int) ≤ (k : Int)) = true := by simp
    have a : (allB l.length fun i => wi (gt l i) 0 1000) = false := by
      cases q : allB l.length fun i => wi (gt l i) 0 1000
      · rfl
      · rw [allB_true.1 q k hk] at h1; cases h1
    simp only [P71, p71, q71, P85, p85, q85, e, bind_some', elim_inl, d, a]; rfl
  · have e : L85_0 (l, (l.length : Int), 0) = some (.inr ()) := h3
    have a : (allB l.length fun i => wi (gt l i) 0 1000) = true := allB_true.2 fun k hk => by simpa using h2 k hk
    simp only [P71, p71, q71, P85, p85, q85, e, bind_some', elim_inr, a]; rfl
theorem P50_eq (c : CT) (h1 : c.2.2.2.1.length ≤ 1000) (h2 : c.2.2.2.2.1.length ≤ 1000) : P50 c = some (okC c) := by
  have e1 : L50_0 (c.2.2.2.2.1, (c.2.2.2.2.1.length : Int), 0, c) = some (cond (okT c.2.2.2.2.1) (.inr c) (.inl (false, c))) :=
    while_all c.2.2.2.2.1.length (fun k => (c.2.2.2.2.1, (c.2.2.2.2.1.length : Int), (k : Int), c)) (fun i => wi (gt c.2.2.2.2.1 i).1 0 10000000 && (wi (gt c.2.2.2.2.1 i).2 0 1000 && (decide (i = 0) || decide ((gt c.2.2.2.2.1 (i - 1)).1 < (gt c.2.2.2.2.1 i).1)))) _ _ (fun k hk => by
      simp only [p50_0, q50_0, lt_nat_t hk, cond_true, inR_nat hk, chk_t, ix_gt, fits_nat (show k < 9223372036854775807 by omega), cast_succ, P46_eq, P70_eq, bind_some']
      cases wi (gt c.2.2.2.2.1 k).1 0 10000000
      · rfl
      cases wi (gt c.2.2.2.2.1 k).2 0 1000
      · rfl
      by_cases hk0 : k = 0
      · subst hk0; rfl
      · have q1 : decide ((0 : Int) < (k : Int)) = true := by simp; omega
        have q2 : (k : Int) - 1 = ((k - 1 : Nat) : Int) := by omega
        simp only [q1, q2, Bool.not_true, cond_false, cond_true, fitsN (show (0 : Int) ≤ ((k - 1 : Nat) : Int) by omega) (by omega), chk_t, inR_nat (show k - 1 < c.2.2.2.2.1.length by omega), ix_gt, Bool.true_and, hk0, decide_false, Bool.false_or]
        by_cases q3 : (gt c.2.2.2.2.1 (k - 1)).1 < (gt c.2.2.2.2.1 k).1
        · have q4 : decide ((gt c.2.2.2.2.1 k).1 ≤ (gt c.2.2.2.2.1 (k - 1)).1) = false := by simp; omega
          simp only [q3, q4, decide_true, cond_true, cond_false]
        · have q4 : decide ((gt c.2.2.2.2.1 k).1 ≤ (gt c.2.2.2.2.1 (k - 1)).1) = true := by simp; omega
          simp only [q3, q4, decide_false, cond_true, cond_false]) (by simp only [p50_0, q50_0, lt_nat_f, cond_false]) (by omega)
  have n3 : decide ((c.2.2.2.2.1.length : Int) ≤ 4) = decide (c.2.2.2.2.1.length ≤ 4) := by rw [Bool.eq_iff_iff]; simp; omega
  have hv : ∀ z : Bool, (decide (0 ≤ c.2.1) && (decide (c.2.1 ≤ c.2.2.1) && (decide (c.2.2.1 ≤ 99) && z))) = (decide (c.2.1 ≤ c.2.2.1) && (wi c.2.1 0 99 && (wi c.2.2.1 0 99 && z))) := fun z => by
    cases z
    · simp
    · rw [Bool.eq_iff_iff]; simp only [Bool.and_eq_true, decide_eq_true_eq, wi_iff, and_true]; omega
  have hk : okC c = (okT c.2.2.2.2.1 && (wi c.2.2.2.1.length 1 6 && (decide (c.2.1 ≤ c.2.2.1) && (wi c.2.1 0 99 && (wi c.2.2.1 0 99 && ((allB c.2.2.2.1.length fun i => wi (gt c.2.2.2.1 i) 0 1000) && (wi c.1 0 99 && (decide (c.2.2.2.2.1.length ≤ 4) && (wi c.2.2.2.2.2.1 0 10000000 && (wi c.2.2.2.2.2.2.2.1 0 10000000 && (wi c.2.2.2.2.2.2.1 0 1000 && wi c.2.2.2.2.2.2.2.2 0 100000000))))))))))) := by
    unfold okC
    rw [hv]
    generalize okT c.2.2.2.2.1 = x1
    generalize (allB c.2.2.2.1.length fun i => wi (gt c.2.2.2.1 i) 0 1000) = x2
    generalize wi c.1 0 99 = x3
    generalize decide (c.2.1 ≤ c.2.2.1) = x4
    generalize wi (c.2.2.2.1.length : Int) 1 6 = x5
    generalize wi c.2.1 0 99 = x6
    generalize wi c.2.2.1 0 99 = x7
    generalize decide (c.2.2.2.2.1.length ≤ 4) = x8
    cases x1 <;> cases x2 <;> cases x3 <;> cases x4 <;> cases x5 <;> cases x6 <;> cases x7 <;> cases x8 <;> simp
  rw [hk]
  simp only [P50, p50, q50, e1, bind_some']
  cases okT c.2.2.2.2.1
  · rfl
  simp only [cond_true, elim_inr, P40_eq, P46_eq, P70_eq, P71_eq _ h1, bind_some', n3, Bool.not_not]
  cases wi (c.2.2.2.1.length : Int) 1 6
  · simp only [cond_false]
    cases decide (c.2.1 ≤ c.2.2.1)
    · rfl
    cases wi c.2.1 0 99 <;> rfl
  simp only [cond_true]
  cases decide (c.2.1 ≤ c.2.2.1)
  · cases (allB c.2.2.2.1.length fun i => wi (gt c.2.2.2.1 i) 0 1000) <;> rfl
  simp only [cond_true]
  cases wi c.2.1 0 99
  · cases (allB c.2.2.2.1.length fun i => wi (gt c.2.2.2.1 i) 0 1000) <;> rfl
  simp only [cond_true]
  cases (allB c.2.2.2.1.length fun i => wi (gt c.2.2.2.1 i) 0 1000)
  · cases wi c.2.2.1 0 99 <;> rfl
  cases wi c.2.2.1 0 99
  · rfl
  cases wi c.1 0 99
  · rfl
  cases decide (c.2.2.2.2.1.length ≤ 4)
  · rfl
  cases wi c.2.2.2.2.2.1 0 10000000
  · rfl
  cases wi c.2.2.2.2.2.2.2.1 0 10000000
  · rfl
  cases wi c.2.2.2.2.2.2.1 0 1000
  · rfl
  cases wi c.2.2.2.2.2.2.2.2 0 100000000 <;> rfl
theorem P75_eq (b : BT) (r : RT) (hb : b.2.1.length ≤ 1000) : P75 (b, r) = some (okR b.2.1 r) := by
  have hk : wi r.2.1 1 2 = (decide (r.2.1 = 1) || decide (r.2.1 = 2)) := by rw [Bool.eq_iff_iff]; simp [wi]; omega
  simp only [P75, p75, q75, P47_eq b _ hb, P40_eq, P46_eq, bind_some', okR, hk]
  cases fc b.2.1 r.2.2.1 with
  | none => rfl
  | some c =>
    simp only [crV, okR1, cond_true]
    cases wi r.1 0 99
    · rfl
    cases (decide (r.2.1 = 1) || decide (r.2.1 = 2))
    · rfl
    cases wi r.2.2.2.1 c.2.1 c.2.2.1
    · rfl
    cases wi r.2.2.2.2.1 0 9
    · rfl
    cases wi r.2.2.2.2.2 0 10000000 <;> rfl
theorem P73_eq (b : BT) (l : List RT) (hb : b.2.1.length ≤ 1000) (hl : l.length ≤ 1000) : P73 (l, b) = some (!(allB l.length fun i => okR b.2.1 (gt l i))) := by
  have h := while_find (step := fun x => p86_0 x.1 x.2.1 x.2.2.1 x.2.2.2) l.length (fun k => (l, b, (l.length : Int), (k : Int))) (fun k => !okR b.2.1 (gt l k)) (fun k => .inl (k : Int)) (.inr ())
    (fun k hk _ => by
      simp only [p86_0, q86_0, lt_nat_t hk, cond_true, inR_nat hk, chk_t, ix_gt, fits_nat (show k < 9223372036854775807 by omega), cast_succ, P74, p74, q74, P75_eq b _ hb, bind_some']
      cases okR b.2.1 (gt l k) <;> rfl) (fun _ => by simp only [p86_0, q86_0, lt_nat_f, cond_false]) (by omega)
  rcases h with ⟨k, hk, h1, h2, h3⟩ | ⟨h2, h3⟩
  · have e : L86_0 (l, b, (l.length : Int), 0) = some (.inl (k : Int)) := h3
    have d : decide ((0 : Int) ≤ (k : Int)) = true := by simp
    have a : (allB l.length fun i => okR b.2.1 (gt l i)) = false := by
      cases q : allB l.length fun i => okR b.2.1 (gt l i)
      · rfl
      · rw [allB_true.1 q k hk] at h1; cases h1
    simp only [P73, p73, q73, P86, p86, q86, e, bind_some', elim_inl, d, a]; rfl
  · have e : L86_0 (l, b, (l.length : Int), 0) = some (.inr ()) := h3
    have a : (allB l.length fun i => okR b.2.1 (gt l i)) = true := allB_true.2 fun k hk => by simpa using h2 k hk
    simp only [P73, p73, q73, P86, p86, q86, e, bind_some', elim_inr, a]; rfl
theorem okNC_iff {l : List RT} : (∀ i, i < l.length → okNC l i = true) ↔ NC l := by
  constructor
  · intro h x hx y hy e
    obtain ⟨i, hi, rfl⟩ := mem_gt hx
    obtain ⟨j, hj, rfl⟩ := mem_gt hy
    rcases Nat.lt_trichotomy i j with q | q | q
    · simpa [e] using allB_true.1 (h j hj) i q
    · rw [q]
    · have := allB_true.1 (h i hi) j q
      simp only [e, decide_true, Bool.true_and, Bool.not_not, decide_eq_true_eq] at this
      exact this.symm
  · intro h i hi
    refine allB_true.2 fun k hk => ?_
    by_cases e : (gt l k).1 = (gt l i).1
    · simp [h _ (gt_mem (show k < l.length by omega)) _ (gt_mem hi) e]
    · simp [e]
theorem okRs_iff {c : List CT} {l : List RT} : okRs c l = true ↔ (∀ r ∈ l, okR c r = true) ∧ NC l := by
  unfold okRs
  rw [allB_true, ← okNC_iff]
  constructor
  · intro h
    exact ⟨fun r hr => by obtain ⟨i, hi, rfl⟩ := mem_gt hr; exact (Bool.and_eq_true_iff.1 (h i hi)).1, fun i hi => (Bool.and_eq_true_iff.1 (h i hi)).2⟩
  · intro h k hk
    exact Bool.and_eq_true_iff.2 ⟨h.1 _ (gt_mem hk), h.2 k hk⟩
theorem okR_some {c : List CT} {r : RT} (h : okR c r = true) : ∃ k, fc c r.2.2.1 = some k ∧ okR1 k r = true := by
  unfold okR at h
  cases e : fc c r.2.2.1 with
  | none => rw [e] at h; cases h
  | some k => rw [e] at h; exact ⟨k, rfl, h⟩
theorem okR_b {c : List CT} {r : RT} (h : okR c r = true) : (0 ≤ r.1 ∧ r.1 ≤ 99) ∧ (r.2.1 = 1 ∨ r.2.1 = 2) ∧ (0 ≤ r.2.2.2.2.1 ∧ r.2.2.2.2.1 ≤ 9) ∧ 0 ≤ r.2.2.2.2.2 ∧ r.2.2.2.2.2 ≤ 10000000 := by
  obtain ⟨k, _, h⟩ := okR_some h
  simp only [okR1, Bool.and_eq_true, Bool.or_eq_true, decide_eq_true_eq, wi_iff] at h
  exact ⟨h.1, h.2.1, h.2.2.2.1, h.2.2.2.2⟩
theorem P51_eq (b : BT) (l : List RT) (hb : b.2.1.length ≤ 1000) (hl : l.length ≤ 1000) : P51 (b, l) = some (decide (l.length ≤ 40) && okRs b.2.1 l) := by
  obtain ⟨v, l', h1, _, h2⟩ := P56_eq l hl
  have n3 : decide ((l.length : Int) ≤ 40) = decide (l.length ≤ 40) := by rw [Bool.eq_iff_iff]; simp; omega
  simp only [P51, p51, q51, h1, bind_some', P73_eq b l hb hl, n3, Bool.not_not]
  cases ha : allB l.length fun i => okR b.2.1 (gt l i)
  · have : okRs b.2.1 l = false := by
      cases q : okRs b.2.1 l
      · rfl
      · rw [all_gt.2 (okRs_iff.1 q).1] at ha; cases ha
    rw [this]
    cases v <;> cases decide (l.length ≤ 40) <;> rfl
  · have hall := all_gt.1 ha
    have hi : idsOk l := fun r hr => (okR_b (hall r hr)).1
    have hv : v = okRs b.2.1 l := by
      rw [Bool.eq_iff_iff, (h2 hi).1, okRs_iff]
      exact ⟨fun h => ⟨hall, h⟩, fun h => h.2⟩
    rw [hv]
    cases okRs b.2.1 l <;> cases decide (l.length ≤ 40) <;> rfl
theorem fc_take (l : List CT) (f : Int) (k : Nat) (hk : k ≤ l.length) : (crV (fc (l.take k) f)).2 = !(allB k fun i => !decide ((gt l i).1 = f)) := by
  cases h : allB k fun i => !decide ((gt l i).1 = f)
  · obtain ⟨i, hi, h1, h2⟩ := allB_false h
    rw [fc, find_at (i := i) (by simp; omega) (by rw [gt_take _ _ _ hi]; simpa using h1) (fun j hj => by rw [gt_take _ _ _ (by omega)]; simpa using h2 j hj)]; rfl
  · rw [fc, find_no fun j hj => by
      have : j < k := by simp at hj; omega
      rw [gt_take _ _ _ this]; simpa using allB_true.1 h j this]; rfl
theorem P27_eq (b : BT) (hb : szB b) : P27 b = some (chkV b) := by
  obtain ⟨h1, h2, h3⟩ := hb
  have e0 : L27_0 (b.2.1, (b.2.1.length : Int), 0, b) = some (cond (allB b.2.1.length fun i => okC (gt b.2.1 i) && allB i fun k => !decide ((gt b.2.1 k).1 = (gt b.2.1 i).1)) (.inr b) (.inl (80, b))) :=
    while_all b.2.1.length (fun k => (b.2.1, (b.2.1.length : Int), (k : Int), b)) (fun i => okC (gt b.2.1 i) && allB i fun k => !decide ((gt b.2.1 k).1 = (gt b.2.1 i).1)) _ _ (fun k hk => by
      have hc := h3 _ (gt_mem hk)
      have b0 : decide ((0 : Int) ≤ 0) = true := by decide
      have b1 : decide ((0 : Int) ≤ (k : Int)) = true := by simp
      have b2 : decide ((k : Int) ≤ (b.2.1.length : Int)) = true := by simp; omega
      have ec : cutL b.2.1 0 (k : Int) = b.2.1.take k := by simp [cutL]
      have e47 : P47 ((0, b.2.1.take k, []), (gt b.2.1 k).1) = some (crV (fc (b.2.1.take k) (gt b.2.1 k).1)) := P47_eq (0, b.2.1.take k, []) _ (by simp; omega)
      simp only [p27_0, q27_0, lt_nat_t hk, cond_true, inR_nat hk, chk_t, ix_gt, b0, b1, b2, ec, e47, bind_some', fc_take b.2.1 _ k (by omega), P50_eq _ hc.1 hc.2, fits_nat (show k < 9223372036854775807 by omega), cast_succ]
      cases allB k fun i => !decide ((gt b.2.1 i).1 = (gt b.2.1 k).1)
      · cases okC (gt b.2.1 k) <;> rfl
      cases okC (gt b.2.1 k) <;> rfl) (by simp only [p27_0, q27_0, lt_nat_f, cond_false]) (by omega)
  have n3 : decide (6 < (b.2.1.length : Int)) = !decide (b.2.1.length ≤ 6) := by rw [Bool.eq_iff_iff]; simp; omega
  simp only [P27, p27, q27, P40_eq, bind_some', n3, e0, chkV, okBs]
  cases wi b.1 0 500
  · cases (allB b.2.1.length fun i => okC (gt b.2.1 i) && allB i fun k => !decide ((gt b.2.1 k).1 = (gt b.2.1 i).1)) <;> rfl
  cases decide (b.2.1.length ≤ 6)
  · cases (allB b.2.1.length fun i => okC (gt b.2.1 i) && allB i fun k => !decide ((gt b.2.1 k).1 = (gt b.2.1 i).1)) <;> rfl
  cases (allB b.2.1.length fun i => okC (gt b.2.1 i) && allB i fun k => !decide ((gt b.2.1 k).1 = (gt b.2.1 i).1))
  · rfl
  simp only [Bool.not_true, cond_false, cond_true, bind_some', elim_inr, P51_eq b _ h1 h2, Bool.and_true]
  cases (decide (b.2.2.length ≤ 40) && okRs b.2.1 b.2.2) <;> rfl
end Go.Proofs.Ytfknkinmnecoeaa.D
