/- promise: what Most of the program comes to: the least bound over all sets. -/
import Derived.Test.YtjoncejabdjekaaS3
set_option linter.unusedVariables false
set_option linter.unusedSimpArgs false
namespace Go.Proofs.Ytjoncejabdjekaa.D
open Go Go.Proofs Go.Proofs.Ytjoncejabdjekaa.L

/-- Sums and counts below n. -/
def sumN (n : Nat) (f : Nat → Int) : Int := foldN (fun i s => s + f i) n 0
theorem sumN_succ (n : Nat) (f : Nat → Int) : sumN (n + 1) f = sumN n f + f n := rfl
theorem sumN_le {f g : Nat → Int} : ∀ {n : Nat}, (∀ k, k < n → f k ≤ g k) → sumN n f ≤ sumN n g
  | 0, _ => Int.le_refl _
  | n + 1, h => by
    rw [sumN_succ, sumN_succ]
    have h1 := sumN_le (n := n) (fun k hk => h k (by omega)); have h2 := h n (by omega)
    omega
theorem sumN_congr {f g : Nat → Int} : ∀ {n : Nat}, (∀ k, k < n → f k = g k) → sumN n f = sumN n g
  | 0, _ => rfl
  | n + 1, h => by rw [sumN_succ, sumN_succ, sumN_congr (n := n) (fun k hk => h k (by omega)), h n (by omega)]
theorem sumN_bd {f : Nat → Int} {a b : Int} : ∀ {n : Nat}, (∀ k, k < n → a ≤ f k ∧ f k ≤ b) → a * n ≤ sumN n f ∧ sumN n f ≤ b * n
  | 0, _ => by simp [sumN, foldN]
  | n + 1, h => by
    rw [sumN_succ]
    have h1 := sumN_bd (n := n) (fun k hk => h k (by omega)); have h2 := h n (by omega)
    have e1 : a * ((n + 1 : Nat) : Int) = a * n + a := by rw [Int.natCast_add, Int.mul_add]; simp
    have e2 : b * ((n + 1 : Nat) : Int) = b * n + b := by rw [Int.natCast_add, Int.mul_add]; simp
    omega
theorem sumN_split {f : Nat → Int} (n : Nat) : ∀ m, n ≤ m → (∀ k, n ≤ k → k < m → 0 ≤ f k) → sumN n f ≤ sumN m f
  | m, hm, h => by
    induction m with
    | zero => have : n = 0 := by omega
              rw [this]; exact Int.le_refl _
    | succ m ih =>
      by_cases e : n = m + 1
      · rw [e]; exact Int.le_refl _
      · have h1 := ih (by omega) (fun k h1 h2 => h k h1 (by omega))
        have h2 := h m (by omega) (by omega)
        rw [sumN_succ]; omega
def b01 (b : Bool) : Int := cond b 1 0
theorem b01_bd (b : Bool) : 0 ≤ b01 b ∧ b01 b ≤ 1 := by cases b <;> decide

def hasB (x i : Int) : Bool := decide (band .u64 (shrI .u64 x i) 1 = 1)
theorem P52_eq (x : Int) (i : Nat) : P52 (x, (i : Int)) = some (hasB x i) := by
  have t : decide ((0 : Int) ≤ (i : Int)) = true := by simp
  simp only [P52, p52, q52, t, chk_t, hasB]

/-- A book: a campaign, what is done, what is wanted. -/
abbrev DoneM := List (List Int × Int)
def fitsB (c : Cmp) (d : DoneM) (i j : Nat) : Bool := fitP (ix c.2 i) (ix c.1 j) && decide (dof (kget d [(i : Int), (j : Int)]) 0 = 0)
def places (c : Cmp) (d : DoneM) (x : Int) (k : Nat) (n : Nat) : Int := sumN n fun i => b01 (hasB x i && fitsB c d i k)
def bndB (c : Cmp) (d : DoneM) (w : List Int) (x : Int) : Int := sumN w.length (fun i => cond (hasB x i) 0 (ix w i)) + sumN c.1.length fun k => min (ix c.1 k).2.2 (places c d x k c.2.length)
structure Good (c : Cmp) (w : List Int) : Prop where
  s : c.1.length ≤ 8
  p : c.2.length ≤ 6
  wl : w.length ≤ 6
  t : ∀ i, i < w.length → 0 ≤ ix w (i : Int) ∧ ix w (i : Int) ≤ 8
  r : ∀ k, k < c.1.length → 0 ≤ (ix c.1 (k : Int)).2.2 ∧ (ix c.1 (k : Int)).2.2 ≤ 6

section
variable {c : Cmp} {d : DoneM} {w : List Int}
theorem wsum_bd (g : Good c w) (x : Int) {n : Nat} (hn : n ≤ w.length) : 0 ≤ sumN n (fun i => cond (hasB x i) 0 (ix w i)) ∧ sumN n (fun i => cond (hasB x i) 0 (ix w i)) ≤ 48 := by
  have h := sumN_bd (f := fun i => cond (hasB x i) 0 (ix w i)) (a := 0) (b := 8) (n := n) (fun k hk => by
    have := g.t k (by omega)
    show 0 ≤ cond (hasB x k) 0 (ix w (k : Int)) ∧ cond (hasB x k) 0 (ix w (k : Int)) ≤ 8
    cases hasB x k with
    | true => simp
    | false => exact this)
  have := g.wl
  omega
theorem places_bd (x : Int) (k n : Nat) : 0 ≤ places c d x k n ∧ places c d x k n ≤ n := by
  have := sumN_bd (f := fun i => b01 (hasB x i && fitsB c d i k)) (a := 0) (b := 1) (n := n) (fun i _ => b01_bd _)
  unfold places; omega
theorem rsum_bd (g : Good c w) (x : Int) {n : Nat} (hn : n ≤ c.1.length) : 0 ≤ sumN n (fun k => min (ix c.1 k).2.2 (places c d x k c.2.length)) ∧ sumN n (fun k => min (ix c.1 k).2.2 (places c d x k c.2.length)) ≤ 48 := by
  have h := sumN_bd (f := fun k => min (ix c.1 k).2.2 (places c d x k c.2.length)) (a := 0) (b := 6) (n := n) (fun k hk => by
    have h1 := g.r k (by omega)
    have h2 := places_bd (c := c) (d := d) x k c.2.length
    show 0 ≤ min (ix c.1 (k : Int)).2.2 _ ∧ min (ix c.1 (k : Int)).2.2 _ ≤ 6
    omega)
  have := g.s
  omega
theorem bound_bd (g : Good c w) (x : Int) : 0 ≤ bndB c d w x ∧ bndB c d w x ≤ 96 := by
  have h1 := wsum_bd g x (Nat.le_refl _)
  have h2 := rsum_bd (d := d) g x (Nat.le_refl _)
  unfold bndB; omega

theorem L59_0_eq (g : Good c w) (x : Int) : L59_0 (x, 0, (w.length : Int), 0, c.1, c.2, w, d) = some (x, sumN w.length (fun i => cond (hasB x i) 0 (ix w i)), c.1, c.2, w, d) := by
  have := g.wl
  refine while_run w.length (fun k => (x, sumN k (fun i => cond (hasB x i) 0 (ix w i)), (w.length : Int), (k : Int), c.1, c.2, w, d)) _ (fun k hk => ?_) ?_ (by omega)
  · have h1 := wsum_bd g x (Nat.le_of_lt hk)
    have h2 := g.t k hk
    have f1 : fits .i64 (sumN k (fun i => cond (hasB x i) 0 (ix w i)) + ix w k) = true := fits_of (by omega) (by omega)
    simp only [p59_0, q59_0, lt_nat_t hk, cond_true, inR_nat hk, chk_t, P52_eq, bind_some', f1, fits_nat (show k < 9223372036854775807 by omega), cast_succ, sumN_succ]
    cases hasB x k with
    | true => simp only [Bool.not_true, cond_false, cond_true, Int.add_zero]
    | false => simp only [Bool.not_false, cond_false, cond_true]
  · simp only [p59_0, q59_0, lt_nat_f, cond_false]

theorem L59_2_eq (g : Good c w) (x n0 : Int) (k : Nat) (hk : k < c.1.length) (xs : List Shw) (a5 a6 : Int) (s : Shw) :
    L59_2 (x, n0, (k : Int), 0, xs, a5, a6, (c.2.length : Int), 0, c.1, c.2, s, d, w) = some (x, n0, places c d x k c.2.length, xs, a5, a6, c.1, c.2, s, d, w) := by
  have := g.p
  refine while_run c.2.length (fun i => (x, n0, (k : Int), places c d x k i, xs, a5, a6, (c.2.length : Int), (i : Int), c.1, c.2, s, d, w)) _ (fun i hi => ?_) ?_ (by omega)
  · have h1 := places_bd (c := c) (d := d) x k i
    have f1 : fits .i64 (places c d x k i + 1) = true := fits_of (by omega) (by omega)
    have e : places c d x k (i + 1) = places c d x k i + b01 (hasB x i && fitsB c d i k) := rfl
    simp only [p59_2, q59_2, lt_nat_t hi, cond_true, P52_eq, P57_eq _ _ c d w (inR_nat hi) (inR_nat hk), bind_some', chk_t, f1, fits_nat (show i < 9223372036854775807 by omega), cast_succ, e]
    have e2 : (fitP (ix c.2 (i : Int)) (ix c.1 (k : Int)) && decide (dof (kget d [(i : Int), (k : Int)]) 0 = 0)) = fitsB c d i k := rfl
    simp only [e2]
    cases hasB x i with
    | false => simp only [cond_false, Bool.false_and, b01, Int.add_zero]
    | true =>
      cases fitsB c d i k with
      | false => simp only [cond_false, cond_true, Bool.true_and, b01, Int.add_zero]
      | true => simp only [cond_true, Bool.true_and, b01]
  · simp only [p59_2, q59_2, lt_nat_f, cond_false]

theorem L59_1_eq (g : Good c w) (x n0 : Int) (hn : 0 ≤ n0 ∧ n0 ≤ 48) :
    L59_1 (x, n0, c.1, (c.1.length : Int), 0, c.1, c.2, d, w) = some (n0 + sumN c.1.length (fun k => min (ix c.1 k).2.2 (places c d x k c.2.length)), c.1, c.2, d, w) := by
  have := g.s
  rw [show L59_1 (x, n0, c.1, (c.1.length : Int), 0, c.1, c.2, d, w) = L59_1 (x, n0 + sumN 0 (fun k => min (ix c.1 k).2.2 (places c d x k c.2.length)), c.1, (c.1.length : Int), 0, c.1, c.2, d, w) from by rw [show n0 + sumN 0 (fun k => min (ix c.1 k).2.2 (places c d x k c.2.length)) = n0 from Int.add_zero n0]]
  refine (while_run c.1.length (fun k => (x, n0 + sumN k (fun k => min (ix c.1 k).2.2 (places c d x k c.2.length)), c.1, (c.1.length : Int), (k : Int), c.1, c.2, d, w)) _ (fun k hk => ?_) ?_ (by omega))
  · have h1 := rsum_bd (d := d) g x (n := k) (by omega)
    have h2 := rsum_bd (d := d) g x (n := k + 1) (by omega)
    rw [sumN_succ] at h2
    have f1 : fits .i64 (n0 + sumN k (fun k => min (ix c.1 k).2.2 (places c d x k c.2.length)) + min (ix c.1 (k : Int)).2.2 (places c d x k c.2.length)) = true := fits_of (by omega) (by omega)
    rw [Int.add_assoc] at f1
    simp only [p59_1, q59_1, lt_nat_t hk, cond_true, inR_nat hk, chk_t, L59_2_eq g x _ k hk, bind_some', f1, fits_nat (show k < 9223372036854775807 by omega), cast_succ, sumN_succ, Int.add_assoc]
  · simp only [p59_1, q59_1, lt_nat_f, cond_false]

theorem P59_eq (g : Good c w) (x : Int) : P59 (x, c.1, c.2, d, w) = some (bndB c d w x, c.1, c.2, d, w) := by
  simp only [P59, p59, q59, L59_0_eq g x, bind_some', L59_1_eq g x _ (wsum_bd g x (Nat.le_refl _))]; rfl

/-- The best set so far, and its bound. -/
def bestN (c : Cmp) (d : DoneM) (w : List Int) (n : Nat) : Int × Int := foldN (fun k st => cond (decide (bndB c d w k < st.2)) ((k : Int), bndB c d w k) st) n (0, bndB c d w 0)
theorem bestN_le : ∀ (n : Nat), (∀ k, k < n → (bestN c d w n).2 ≤ bndB c d w (k : Nat)) ∧ (bestN c d w n).2 ≤ bndB c d w 0 ∧ (∃ k, (bestN c d w n).1 = ((k : Nat) : Int) ∧ (k < n ∨ k = 0) ∧ (bestN c d w n).2 = bndB c d w (k : Nat))
  | 0 => ⟨by simp, Int.le_refl _, 0, rfl, .inr rfl, rfl⟩
  | n + 1 => by
    obtain ⟨h1, h2, k, h3, h4, h5⟩ := bestN_le n
    have e : bestN c d w (n + 1) = cond (decide (bndB c d w (n : Nat) < (bestN c d w n).2)) ((n : Int), bndB c d w (n : Nat)) (bestN c d w n) := rfl
    cases hd : decide (bndB c d w (n : Nat) < (bestN c d w n).2) with
    | true =>
      rw [e, hd]
      have hd' := of_decide_eq_true hd
      refine ⟨fun j hj => ?_, ?_, n, rfl, .inl (by omega), rfl⟩
      · show bndB c d w (n : Nat) ≤ _
        by_cases hjn : j = n
        · rw [hjn]; exact Int.le_refl _
        · have := h1 j (by omega); omega
      · show bndB c d w (n : Nat) ≤ _; omega
    | false =>
      rw [e, hd]
      have hd' := of_decide_eq_false hd
      refine ⟨fun j hj => ?_, h2, k, h3, by omega, h5⟩
      show (bestN c d w n).2 ≤ _
      by_cases hjn : j = n
      · rw [hjn]; omega
      · exact h1 j (by omega)
def setsN (c : Cmp) : Nat := 2 ^ c.2.length
theorem setsN_pos (c : Cmp) : 0 < setsN c := Nat.pow_pos (by decide)
theorem setsN_le (h : c.2.length ≤ 6) : setsN c ≤ 64 := Nat.le_trans (Nat.pow_le_pow_right (by decide) h) (by decide)
theorem shl_eq (h : c.2.length ≤ 6) : shlI .u64 1 (c.2.length : Int) = (setsN c : Int) := by
  unfold setsN
  generalize c.2.length = n at h
  match n, h with
  | 0, _ => decide
  | 1, _ => decide
  | 2, _ => decide
  | 3, _ => decide
  | 4, _ => decide
  | 5, _ => decide
  | 6, _ => decide
  | n + 7, h => omega
theorem fits_u64 {n : Int} (h : 0 ≤ n) (h' : n ≤ 1000000) : fits .u64 n = true := by
  rw [fits, decide_eq_true_eq]
  have e2 : (2 : Int) ^ 64 = 18446744073709551616 := by decide
  simp only [IntKind.wrap, IntKind.bits, IntKind.signed, Bool.false_and, e2]
  simp; omega
theorem P45_eq (g : Good c w) : P45 (c.1, c.2, d, w) = some ((bestN c d w (setsN c)).1, (bestN c d w (setsN c)).2, c.1, c.2, d, w) := by
  have hs := setsN_le g.p
  have e : L45_0 (0, bndB c d w 0, (setsN c : Int), 0, c.1, c.2, d, w) = some ((bestN c d w (setsN c)).1, (bestN c d w (setsN c)).2, c.1, c.2, d, w) := by
    refine while_run (setsN c) (fun k => ((bestN c d w k).1, (bestN c d w k).2, (setsN c : Int), (k : Int), c.1, c.2, d, w)) _ (fun k hk => ?_) ?_ (by omega)
    · have f1 : fits .u64 ((k : Int) + 1) = true := fits_u64 (by omega) (by omega)
      have e : bestN c d w (k + 1) = cond (decide (bndB c d w (k : Nat) < (bestN c d w k).2)) ((k : Int), bndB c d w (k : Nat)) (bestN c d w k) := rfl
      simp only [p45_0, q45_0, lt_nat_t hk, cond_true, P59_eq g, bind_some', f1, chk_t, cast_succ, e]
      cases decide (bndB c d w (k : Nat) < (bestN c d w k).2) <;> rfl
    · simp only [p45_0, q45_0, lt_nat_f, cond_false]
  have t : decide ((0 : Int) ≤ (c.2.length : Int)) = true := by simp
  simp only [P45, p45, q45, P59_eq g, bind_some', t, chk_t, shl_eq g.p, e]
/-- The least bound. -/
def leastB (c : Cmp) (d : DoneM) (w : List Int) : Int := (bestN c d w (setsN c)).2
theorem least_le {k : Nat} (hk : k < setsN c) : leastB c d w ≤ bndB c d w k := (bestN_le (setsN c)).1 k hk
theorem least_is : ∃ k : Nat, k < setsN c ∧ leastB c d w = bndB c d w k := by
  obtain ⟨_, _, k, _, h4, h5⟩ := bestN_le (c := c) (d := d) (w := w) (setsN c)
  exact ⟨k, by have := setsN_pos c; omega, h5⟩
end

theorem valid_good {c : Cmp} (h : valid c = true) : Good c (times c) := by
  have hl := valid_len h
  refine ⟨hl.1, hl.2, by rw [times, List.length_map]; exact hl.2, fun i hi => ?_, fun k hk => ?_⟩
  · rw [times, List.length_map] at hi
    rw [times_get hi]; exact valid_times h hi
  · have := valid_shw h hk
    simp only [okS, Bool.and_eq_true, wi_iff] at this
    rw [ix_nat]; exact this.2.2
def most (c : Cmp) : Int := leastB c [] (times c)
theorem P22_eq (c : Cmp) : P22 c = some (cond (valid c) (most c, 0) (0, 70)) := by
  cases hv : valid c with
  | false => simp only [P22, p22, q22, P11_eq, hv, cond_false, bind_some']; rfl
  | true =>
    have hl := valid_len hv
    simp only [P22, p22, q22, P11_eq, hv, cond_true, bind_some', decide_true, Bool.not_true, cond_false, P37_eq c (by omega), P45_eq (valid_good hv)]; rfl
end Go.Proofs.Ytjoncejabdjekaa.D
