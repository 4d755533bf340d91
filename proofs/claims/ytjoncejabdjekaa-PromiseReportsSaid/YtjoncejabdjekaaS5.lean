/- promise: the law PromiseRoom: more room is not worth less. -/
import Derived.Test.YtjoncejabdjekaaS4
import Derived.Test.YtjoncejabdjekaaG3
set_option linter.unusedVariables false
set_option linter.unusedSimpArgs false
namespace Go.Proofs.Ytjoncejabdjekaa.D
open Go Go.Proofs Go.Proofs.Ytjoncejabdjekaa.L

/-! ### Campaigns that a statement examines -/
def readyB (c : Cmp) : Bool := valid c && ((allB c.2.length fun k => !decide (3 < (prm c k).2.1)) && (decide (c.1.length ≤ 5) && decide (c.2.length ≤ 4)))
def farB (c : Cmp) : Bool := !(decide (c.1.length ≤ 40) && decide (c.2.length ≤ 40)) || (valid c && !((allB c.2.length fun k => !decide (3 < (prm c k).2.1)) && (decide (c.1.length ≤ 5) && decide (c.2.length ≤ 4))))
theorem P16_eq (c : Cmp) : P16 c = some (farB c) := by
  by_cases h1 : c.1.length ≤ 40
  rotate_left
  · have h : decide ((40 : Int) < (c.1.length : Int)) = true := by simp; omega
    simp [P16, p16, q16, h, farB, h1]
  by_cases h2 : c.2.length ≤ 40
  rotate_left
  · have h : decide ((40 : Int) < (c.1.length : Int)) = false := by simp; omega
    have h' : decide ((40 : Int) < (c.2.length : Int)) = true := by simp; omega
    simp [P16, p16, q16, h, h', farB, h2]
  have d1 : decide ((40 : Int) < (c.1.length : Int)) = false := by simp; omega
  have d2 : decide ((40 : Int) < (c.2.length : Int)) = false := by simp; omega
  have t1 : decide (c.1.length ≤ 40) = true := by simp [h1]
  have t2 : decide (c.2.length ≤ 40) = true := by simp [h2]
  have e0 : L16_0 (0, c) = some (cond (allB c.2.length fun k => !decide (3 < (prm c k).2.1)) (.inr c) (.inl (true, c))) := by
    refine while_all c.2.length (fun k => ((k : Int), c)) (fun k => !decide (3 < (prm c k).2.1)) _ _ (fun k hk => ?_) ?_ (by omega)
    · have hg : ix c.2 (k : Int) = prm c k := ix_nat _ _
      simp only [p16_0, q16_0, lt_nat_t hk, cond_true, inR_nat hk, chk_t, hg, fits_nat (show k < 9223372036854775807 by omega), cast_succ]
      cases decide (3 < (prm c k).2.1) <;> rfl
    · simp only [p16_0, q16_0, lt_nat_f, cond_false]
  have d5 : decide ((5 : Int) < (c.1.length : Int)) = !decide (c.1.length ≤ 5) := by by_cases h : c.1.length ≤ 5 <;> simp [h] <;> omega
  have d4 : decide ((4 : Int) < (c.2.length : Int)) = !decide (c.2.length ≤ 4) := by by_cases h : c.2.length ≤ 4 <;> simp [h] <;> omega
  simp only [P16, p16, q16, d1, d2, cond_false, P12_eq, bind_some', e0, farB, t1, t2, Bool.and_self, Bool.not_true, Bool.false_or, d5, d4]
  cases valid c with
  | false => rfl
  | true =>
    simp only [cond_true, decide_true, Bool.not_true, cond_false, Bool.true_and]
    cases (allB c.2.length fun k => !decide (3 < (prm c k).2.1)) with
    | false => rfl
    | true =>
      simp only [cond_true, elim_inr, d5, d4, Bool.true_and]
      cases decide (c.1.length ≤ 5) <;> cases decide (c.2.length ≤ 4) <;> rfl
theorem P21_eq (c : Cmp) : P21 c = some (readyB c) := by
  simp only [P21, p21, q21, P16_eq, bind_some', P12_eq, farB, readyB]
  cases hv : valid c with
  | false => cases (decide (c.1.length ≤ 40) && decide (c.2.length ≤ 40)) <;> rfl
  | true =>
    have := valid_len hv
    have t1 : decide (c.1.length ≤ 40) = true := by simp; omega
    have t2 : decide (c.2.length ≤ 40) = true := by simp; omega
    simp only [t1, t2]
    cases ((allB c.2.length fun k => !decide (3 < (prm c k).2.1)) && (decide (c.1.length ≤ 5) && decide (c.2.length ≤ 4))) <;> rfl
theorem ready_valid {c : Cmp} (h : readyB c = true) : valid c = true := by simp only [readyB, Bool.and_eq_true] at h; exact h.1
theorem ready_len {c : Cmp} (h : readyB c = true) : c.1.length ≤ 5 ∧ c.2.length ≤ 4 := by simp only [readyB, Bool.and_eq_true, decide_eq_true_eq] at h; exact h.2.2

/-! ### More room, more showings, wider promises -/
structure SMore (s s' : List Shw) : Prop where
  len : s.length ≤ s'.length
  at' : ∀ k, k < s.length → (s'.getD k default).1 = (s.getD k default).1 ∧ (s'.getD k default).2.1 = (s.getD k default).2.1 ∧ (s.getD k default).2.2 ≤ (s'.getD k default).2.2
structure PMore (p p' : List Prm) : Prop where
  len : p'.length = p.length
  at' : ∀ k, k < p.length → (p'.getD k default).2.1 = (p.getD k default).2.1 ∧ (p'.getD k default).2.2.1 ≤ (p.getD k default).2.2.1 ∧ (p.getD k default).2.2.2.1 ≤ (p'.getD k default).2.2.2.1 ∧
    (p'.getD k default).2.2.2.2.1 ≤ (p.getD k default).2.2.2.2.1 ∧ (p.getD k default).2.2.2.2.2 ≤ (p'.getD k default).2.2.2.2.2
theorem SMore.refl (s : List Shw) : SMore s s := ⟨Nat.le_refl _, fun k _ => ⟨rfl, rfl, Int.le_refl _⟩⟩
theorem PMore.refl (p : List Prm) : PMore p p := ⟨rfl, fun k _ => ⟨rfl, Int.le_refl _, Int.le_refl _, Int.le_refl _, Int.le_refl _⟩⟩
theorem SMore.trans {a b c : List Shw} (h : SMore a b) (k : SMore b c) : SMore a c := ⟨Nat.le_trans h.len k.len, fun i hi => by
  have h1 := h.at' i hi; have h2 := k.at' i (Nat.lt_of_lt_of_le hi h.len)
  exact ⟨h2.1.trans h1.1, h2.2.1.trans h1.2.1, Int.le_trans h1.2.2 h2.2.2⟩⟩
theorem getD_set {α : Type} (l : List α) (i : Nat) (v d : α) (k : Nat) (hk : k < l.length) : (l.set i v).getD k d = if k = i then v else l.getD k d := by
  simp only [List.getD_eq_getElem?_getD, List.getElem?_set]
  by_cases h : i = k
  · subst h; simp [hk]
  · simp [h, Ne.symm h]
theorem b01_le {a b : Bool} (h : a = true → b = true) : b01 a ≤ b01 b := by
  cases a with
  | false => exact (b01_bd b).1
  | true => rw [h rfl]; exact Int.le_refl _

theorem fits_more {c : Cmp} {s' : List Shw} {p' : List Prm} (hs : SMore c.1 s') (hp : PMore c.2 p') {i k : Nat} (hi : i < c.2.length) (hk : k < c.1.length) (h : fitsB c [] i k = true) : fitsB (s', p') [] i k = true := by
  have h1 := hs.at' k hk
  have h2 := hp.at' i hi
  simp only [fitsB, Bool.and_eq_true, fitP, wi_iff, ix_nat] at h ⊢
  refine ⟨?_, h.2⟩
  rw [h1.1, h1.2.1]
  omega
theorem bnd_more {c : Cmp} {s' : List Shw} {p' : List Prm} (hv : valid c = true) (hv' : valid (s', p') = true) (hs : SMore c.1 s') (hp : PMore c.2 p') (x : Int) : bndB c [] (times c) x ≤ bndB (s', p') [] (times (s', p')) x := by
  have hl : (times (s', p')).length = (times c).length := by simp only [times, List.length_map]; exact hp.len
  have e1 : sumN (times c).length (fun i => cond (hasB x i) 0 (ix (times c) i)) = sumN (times (s', p')).length (fun i => cond (hasB x i) 0 (ix (times (s', p')) i)) := by
    rw [hl]
    refine sumN_congr fun k hk => ?_
    have hk' : k < c.2.length := by rwa [times, List.length_map] at hk
    rw [times_get hk', times_get (c := (s', p')) (by rw [show (s', p').2.length = c.2.length from hp.len]; exact hk')]
    have := (hp.at' k hk').1
    show cond (hasB x k) 0 (c.2.getD k default).2.1 = cond (hasB x k) 0 (p'.getD k default).2.1
    rw [this]
  have pl : ∀ k, k < c.1.length → places c [] x k c.2.length ≤ places (s', p') [] x k (s', p').2.length := fun k hk => by
    rw [show (s', p').2.length = c.2.length from hp.len]
    refine sumN_le fun i hi => b01_le fun h => ?_
    simp only [Bool.and_eq_true] at h ⊢
    exact ⟨h.1, fits_more hs hp hi hk h.2⟩
  have e2 : sumN c.1.length (fun k => min (ix c.1 k).2.2 (places c [] x k c.2.length)) ≤ sumN c.1.length (fun k => min (ix s' k).2.2 (places (s', p') [] x k (s', p').2.length)) :=
    sumN_le fun k hk => by
      have h1 := pl k hk
      have h2 := (hs.at' k hk).2.2
      rw [ix_nat, ix_nat]; omega
  have e3 : sumN c.1.length (fun k => min (ix s' k).2.2 (places (s', p') [] x k (s', p').2.length)) ≤ sumN s'.length (fun k => min (ix s' k).2.2 (places (s', p') [] x k (s', p').2.length)) :=
    sumN_split _ _ hs.len fun k _ hk => by
      have h1 := ((valid_good hv').r k hk).1
      have h2 := (places_bd (c := (s', p')) (d := []) x k (s', p').2.length).1
      show 0 ≤ min (ix s' (k : Int)).2.2 _
      have h1' : 0 ≤ (ix s' (k : Int)).2.2 := h1
      omega
  unfold bndB
  rw [e1]
  exact Int.add_le_add_left (Int.le_trans e2 e3) _
theorem most_more {c : Cmp} {s' : List Shw} {p' : List Prm} (hv : valid c = true) (hv' : valid (s', p') = true) (hs : SMore c.1 s') (hp : PMore c.2 p') : most c ≤ most (s', p') := by
  obtain ⟨k, hk, e⟩ := least_is (c := (s', p')) (d := []) (w := times (s', p'))
  have hk' : k < setsN c := by unfold setsN at hk ⊢; rwa [show (s', p').2.length = c.2.length from hp.len] at hk
  have h1 := least_le (c := c) (d := []) (w := times c) hk'
  have h2 := bnd_more hv hv' hs hp (k : Nat)
  unfold most; rw [e]; omega

/-! ### One more time of a promise -/
theorem sumN_one {f g : Nat → Int} {j : Nat} (h1 : ∀ k, k ≠ j → g k = f k) (h2 : f j ≤ g j ∧ g j ≤ f j + 1) : ∀ n, sumN n f ≤ sumN n g ∧ sumN n g ≤ sumN n f + 1 ∧ (n ≤ j → sumN n g = sumN n f)
  | 0 => ⟨Int.le_refl _, by simp [sumN, foldN], fun _ => rfl⟩
  | n + 1 => by
    obtain ⟨a, b, c⟩ := sumN_one h1 h2 n
    rw [sumN_succ, sumN_succ]
    by_cases e : n = j
    · have c' := c (by omega)
      rw [e] at *
      omega
    · rw [h1 n e]
      refine ⟨by omega, by omega, fun h => ?_⟩
      have := c (by omega); omega
def again (c : Cmp) (i : Nat) : Cmp := (c.1, c.2.set i ((prm c i).1, (prm c i).2.1 + 1, (prm c i).2.2))
theorem bnd_again {c : Cmp} {i : Nat} (hi : i < c.2.length) (x : Int) : bndB c [] (times c) x ≤ bndB (again c i) [] (times (again c i)) x ∧ bndB (again c i) [] (times (again c i)) x ≤ bndB c [] (times c) x + 1 := by
  have hl : (times (again c i)).length = (times c).length := by simp [times, again]
  have hl2 : (again c i).2.length = c.2.length := by simp [again]
  have hp : ∀ k, k < c.2.length → prm (again c i) k = if k = i then ((prm c i).1, (prm c i).2.1 + 1, (prm c i).2.2) else prm c k := fun k hk => getD_set c.2 i _ _ k hk
  have f1 : ∀ k, k < c.2.length → (ix (again c i).2 (k : Int)).2.2 = (ix c.2 (k : Int)).2.2 := fun k hk => by
    have := hp k hk
    have e1 : ix (again c i).2 (k : Int) = prm (again c i) k := ix_nat _ _
    have e2 : ix c.2 (k : Int) = prm c k := ix_nat _ _
    rw [e1, e2, this]
    split
    · rename_i h; rw [h]
    · rfl
  have e2 : sumN (again c i).1.length (fun k => min (ix (again c i).1 k).2.2 (places (again c i) [] x k (again c i).2.length)) = sumN c.1.length (fun k => min (ix c.1 k).2.2 (places c [] x k c.2.length)) :=
    sumN_congr fun k hk => by
      have : places (again c i) [] x k (again c i).2.length = places c [] x k c.2.length := by
        rw [hl2]
        refine sumN_congr fun j hj => ?_
        have : fitsB (again c i) [] j k = fitsB c [] j k := by
          simp only [fitsB, fitP, f1 j hj]; rfl
        rw [this]
      rw [this]; rfl
  have e1 := sumN_one (f := fun k => cond (hasB x k) 0 (prm c k).2.1) (g := fun k => cond (hasB x k) 0 (if k = i then (prm c i).2.1 + 1 else (prm c k).2.1)) (j := i)
    (fun k hk => by simp [hk]) (by simp; cases hasB x i <;> simp <;> omega) (times c).length
  have t1 : sumN (times c).length (fun k => cond (hasB x k) 0 (ix (times c) k)) = sumN (times c).length (fun k => cond (hasB x k) 0 (prm c k).2.1) := sumN_congr fun k hk => by
    have hk' : k < c.2.length := by rwa [times, List.length_map] at hk
    rw [times_get hk']
  have t2 : sumN (times (again c i)).length (fun k => cond (hasB x k) 0 (ix (times (again c i)) k)) = sumN (times c).length (fun k => cond (hasB x k) 0 (if k = i then (prm c i).2.1 + 1 else (prm c k).2.1)) := by
    rw [hl]
    refine sumN_congr fun k hk => ?_
    have hk' : k < c.2.length := by rwa [times, List.length_map] at hk
    rw [times_get (c := again c i) (by rw [hl2]; exact hk'), hp k hk']
    by_cases e : k = i
    · simp [e]
    · simp [e]
  unfold bndB
  rw [e2, t1, t2]
  omega
theorem most_again {c : Cmp} {i : Nat} (hi : i < c.2.length) : most c ≤ most (again c i) ∧ most (again c i) ≤ most c + 1 := by
  have hs : setsN (again c i) = setsN c := by simp [setsN, again]
  obtain ⟨k, hk, e⟩ := least_is (c := again c i) (d := []) (w := times (again c i))
  obtain ⟨k2, hk2, e2⟩ := least_is (c := c) (d := []) (w := times c)
  have h1 := least_le (c := c) (d := []) (w := times c) (k := k) (by rw [← hs]; exact hk)
  have h2 := least_le (c := again c i) (d := []) (w := times (again c i)) (k := k2) (by rw [hs]; exact hk2)
  have h3 := (bnd_again hi (k : Nat)).1
  have h4 := (bnd_again hi (k2 : Nat)).2
  unfold most; omega
end Go.Proofs.Ytjoncejabdjekaa.D
