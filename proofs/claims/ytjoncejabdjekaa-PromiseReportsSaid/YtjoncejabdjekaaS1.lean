/- promise: what Check and Counts of the program and of the reference come to. -/
import Derived.Test.YtjoncejabdjekaaG2
import Derived.Test.YtjoncejabdjekaaZ0
set_option linter.unusedVariables false
set_option linter.unusedSimpArgs false
namespace Go.Proofs.Ytjoncejabdjekaa.D
open Go Go.Proofs Go.Proofs.Ytjoncejabdjekaa.L

abbrev Shw := Int × Int × Int
abbrev Prm := Int × Int × Int × Int × Int × Int
abbrev Cmp := List Shw × List Prm
def shw (c : Cmp) (k : Nat) : Shw := c.1.getD k default
def prm (c : Cmp) (k : Nat) : Prm := c.2.getD k default
def okS (s : Shw) : Bool := wi s.1 0 99 && (wi s.2.1 0 9 && wi s.2.2 0 6)
def okP (p : Prm) : Bool := wi p.1 0 99 && (wi p.2.1 0 8 && ((decide (p.2.2.1 ≤ p.2.2.2.1) && (wi p.2.2.1 0 9 && wi p.2.2.2.1 0 9)) && (decide (p.2.2.2.2.1 ≤ p.2.2.2.2.2) && (wi p.2.2.2.2.1 0 99 && wi p.2.2.2.2.2 0 99))))
def noTwin (l : List Prm) (n : Nat) (p : Prm) : Bool := allB n fun i => !decide ((l.getD i default).1 = p.1)
def valid (c : Cmp) : Bool := decide (c.1.length ≤ 8) && (decide (c.2.length ≤ 6) && ((allB c.1.length fun k => okS (shw c k)) && (allB c.2.length fun k => okP (prm c k) && noTwin c.2 k (prm c k))))

theorem P32_eq (x a b : Int) : P32 (x, a, b) = some (wi x a b) := wi_cond x a b
theorem P36_eq (x a b : Int) : P36 (x, a, b) = some (wi x a b) := wi_cond x a b
theorem P34_eq (a b : Prm) : P34 (a, b) = some (decide (a.1 = b.1)) := rfl

theorem P33_eq (l : List Prm) (p : Prm) (hl : l.length < 9223372036854775807) : P33 (l, p) = some (!noTwin l l.length p) := by
  have h1 : ∀ k, k < l.length → p56_0 l p (l.length : Int) (k : Int) = some (cond (!decide ((l.getD k default).1 = p.1)) (.inl (l, p, (l.length : Int), ((k + 1 : Nat) : Int))) (.inr (.inl (k : Int)))) := by
    intro k hk
    simp only [p56_0, q56_0, lt_nat_t hk, cond_true, inR_nat hk, chk_t, P34_eq, bind_some', ix_nat, fits_nat (show k < 9223372036854775807 by omega), cast_succ]
    cases decide ((l.getD k default).1 = p.1) <;> rfl
  have h2 : p56_0 l p (l.length : Int) (l.length : Int) = some (.inr (.inr ())) := by
    simp only [p56_0, q56_0, lt_nat_f, cond_false]
  cases hn : noTwin l l.length p with
  | true =>
    have : L56_0 (l, p, (l.length : Int), 0) = some (.inr ()) := while_run l.length (fun k => (l, p, (l.length : Int), (k : Int))) _ (fun k hk => by
      have := allB_true.1 hn k hk
      rw [h1 k hk, this]; rfl) h2 (by omega)
    simp only [P33, p33, q33, P56, p56, q56, this, bind_some', elim_inr]; rfl
  | false =>
    obtain ⟨k, hk, hf, ht⟩ := allB_false hn
    have : L56_0 (l, p, (l.length : Int), 0) = some (.inl (k : Int)) := while_run k (fun k => (l, p, (l.length : Int), (k : Int))) _ (fun i hi => by
      have := ht i hi
      rw [h1 i (by omega), this]; rfl) (by rw [h1 k hk, hf]; rfl) (by omega)
    simp only [P33, p33, q33, P56, p56, q56, this, bind_some', elim_inl]
    simp

theorem noTwin_take (l : List Prm) (k : Nat) (p : Prm) (hk : k ≤ l.length) : noTwin (cutL l 0 (k : Int)) (cutL l 0 (k : Int)).length p = noTwin l k p := by
  have e : cutL l 0 (k : Int) = l.take k := by simp [cutL]
  rw [e, List.length_take, Nat.min_eq_left hk]
  exact allB_congr fun i hi => by simp [List.getD_eq_getElem?_getD, List.getElem?_take, hi]

theorem P35_eq (a b x y : Int) : P35 ((a, b), x, y) = some (decide (a ≤ b) && (wi a x y && wi b x y)) := by
  simp only [P35, p35, q35, P32_eq, bind_some']
  cases decide (a ≤ b) <;> cases wi a x y <;> rfl

theorem P11_eq (c : Cmp) : P11 c = some (cond (valid c) 0 70) := by
  by_cases hs : c.1.length ≤ 8
  rotate_left
  · have : valid c = false := by simp [valid, hs]
    rw [this]
    have h : decide ((8 : Int) < (c.1.length : Int)) = true := by simp; omega
    simp only [P11, p11, q11, h, cond_true]; rfl
  by_cases hp : c.2.length ≤ 6
  rotate_left
  · have : valid c = false := by simp [valid, hp]
    rw [this]
    have h : decide ((6 : Int) < (c.2.length : Int)) = true := by simp; omega
    have h' : decide ((8 : Int) < (c.1.length : Int)) = false := by simp; omega
    simp only [P11, p11, q11, h, h', cond_true, cond_false]
  have e0 : L11_0 (c.1, (c.1.length : Int), 0, c) = some (cond (allB c.1.length fun k => okS (shw c k)) (.inr c) (.inl (70, c))) := by
    refine while_all c.1.length (fun k => (c.1, (c.1.length : Int), (k : Int), c)) (fun k => okS (shw c k)) _ _ (fun k hk => ?_) ?_ (by omega)
    · simp only [p11_0, q11_0, lt_nat_t hk, cond_true, inR_nat hk, chk_t, P32_eq, bind_some', ix_nat, fits_nat (show k < 9223372036854775807 by omega), cast_succ]
      show _ = some (cond (okS (c.1.getD k default)) _ _)
      unfold okS
      generalize wi (c.1.getD k default).1 0 99 = x1; generalize wi (c.1.getD k default).2.1 0 9 = x2; generalize wi (c.1.getD k default).2.2 0 6 = x3
      cases x1 <;> cases x2 <;> cases x3 <;> rfl
    · simp only [p11_0, q11_0, lt_nat_f, cond_false]
  have e1 : L11_1 (c.2, (c.2.length : Int), 0, c) = some (cond (allB c.2.length fun k => okP (prm c k) && noTwin c.2 k (prm c k)) (.inr c) (.inl (70, c))) := by
    refine while_all c.2.length (fun k => (c.2, (c.2.length : Int), (k : Int), c)) (fun k => okP (prm c k) && noTwin c.2 k (prm c k)) _ _ (fun k hk => ?_) ?_ (by omega)
    · have t1 : decide ((0 : Int) ≤ (0 : Int)) = true := rfl
      have t2 : decide ((0 : Int) ≤ (k : Int)) = true := by simp
      have t3 : decide ((k : Int) ≤ (c.2.length : Int)) = true := by simp; omega
      have t4 : (cutL c.2 0 (k : Int)).length < 9223372036854775807 := by simp [cutL]; omega
      simp only [p11_1, q11_1, lt_nat_t hk, cond_true, inR_nat hk, chk_t, t1, t2, t3, P33_eq _ _ t4, noTwin_take _ _ _ (Nat.le_of_lt hk), P32_eq, P35_eq, bind_some', ix_nat, fits_nat (show k < 9223372036854775807 by omega), cast_succ]
      have t5 : ∀ q : Int × Int, P35 (q, 0, 99) = some (decide (q.1 ≤ q.2) && (wi q.1 0 99 && wi q.2 0 99)) := fun q => P35_eq q.1 q.2 0 99
      simp only [t5, bind_some']
      show _ = some (cond (okP (c.2.getD k default) && noTwin c.2 k (c.2.getD k default)) _ _)
      unfold okP
      generalize wi (c.2.getD k default).1 0 99 = x1; generalize wi (c.2.getD k default).2.1 0 8 = x2
      generalize (decide ((c.2.getD k default).2.2.1 ≤ (c.2.getD k default).2.2.2.1) && (wi (c.2.getD k default).2.2.1 0 9 && wi (c.2.getD k default).2.2.2.1 0 9)) = x3
      generalize (decide ((c.2.getD k default).2.2.2.2.1 ≤ (c.2.getD k default).2.2.2.2.2) && (wi (c.2.getD k default).2.2.2.2.1 0 99 && wi (c.2.getD k default).2.2.2.2.2 0 99)) = x4
      generalize noTwin c.2 k (c.2.getD k default) = x5
      cases x1 <;> cases x2 <;> cases x3 <;> cases x4 <;> cases x5 <;> rfl
    · simp only [p11_1, q11_1, lt_nat_f, cond_false]
  have h : decide ((6 : Int) < (c.2.length : Int)) = false := by simp; omega
  have h' : decide ((8 : Int) < (c.1.length : Int)) = false := by simp; omega
  simp only [P11, p11, q11, h, h', cond_false, e0, bind_some']
  have d1 : decide (c.1.length ≤ 8) = true := by simp [hs]
  have d2 : decide (c.2.length ≤ 6) = true := by simp [hp]
  simp only [valid, d1, d2, Bool.true_and]
  cases (allB c.1.length fun k => okS (shw c k)) with
  | false => rfl
  | true =>
    simp only [cond_true, elim_inr, e1, bind_some', Bool.true_and]
    cases (allB c.2.length fun k => okP (prm c k) && noTwin c.2 k (prm c k)) <;> rfl

theorem P12_eq (c : Cmp) : P12 c = some (cond (valid c) 0 70) := by
  by_cases hs : c.1.length ≤ 8
  rotate_left
  · have : valid c = false := by simp [valid, hs]
    rw [this]
    have h : decide ((8 : Int) < (c.1.length : Int)) = true := by simp; omega
    simp only [P12, p12, q12, h, cond_true]; rfl
  by_cases hp : c.2.length ≤ 6
  rotate_left
  · have : valid c = false := by simp [valid, hp]
    rw [this]
    have h : decide ((6 : Int) < (c.2.length : Int)) = true := by simp; omega
    have h' : decide ((8 : Int) < (c.1.length : Int)) = false := by simp; omega
    simp only [P12, p12, q12, h, h', cond_true, cond_false]
  have e0 : L12_0 (0, c) = some (cond (allB c.1.length fun k => okS (shw c k)) (.inr c) (.inl (70, c))) := by
    refine while_all c.1.length (fun k => ((k : Int), c)) (fun k => okS (shw c k)) _ _ (fun k hk => ?_) ?_ (by omega)
    · simp only [p12_0, q12_0, lt_nat_t hk, cond_true, inR_nat hk, chk_t, P36_eq, bind_some', ix_nat, fits_nat (show k < 9223372036854775807 by omega), cast_succ]
      show _ = some (cond (okS (c.1.getD k default)) _ _)
      unfold okS
      generalize wi (c.1.getD k default).1 0 99 = x1; generalize wi (c.1.getD k default).2.1 0 9 = x2; generalize wi (c.1.getD k default).2.2 0 6 = x3
      cases x1 <;> cases x2 <;> cases x3 <;> rfl
    · simp only [p12_0, q12_0, lt_nat_f, cond_false]
  have e1 : L12_1 (0, c) = some (cond (allB c.2.length fun k => okP (prm c k) && noTwin c.2 k (prm c k)) (.inr c) (.inl (70, c))) := by
    refine while_all c.2.length (fun k => ((k : Int), c)) (fun k => okP (prm c k) && noTwin c.2 k (prm c k)) _ _ (fun k hk => ?_) ?_ (by omega)
    · have e2 : ∀ b1 b2 b3 : Bool, L12_2 ((k : Int), 0, b1, b2, b3, c, prm c k) = some (cond (noTwin c.2 k (prm c k)) (.inr ((k : Int), b1, b2, b3, c, prm c k)) (.inl (70, c, prm c k))) := by
        intro b1 b2 b3
        refine while_all k (fun i => ((k : Int), (i : Int), b1, b2, b3, c, prm c k)) (fun i => !decide ((prm c i).1 = (prm c k).1)) _ _ (fun i hi => ?_) ?_ (by omega)
        · simp only [p12_2, q12_2, lt_nat_t hi, cond_true, inR_nat (Nat.lt_trans hi hk), chk_t, ix_nat, fits_nat (show i < 9223372036854775807 by omega), cast_succ]
          show cond (decide ((prm c i).1 = (prm c k).1)) _ _ = _
          cases decide ((prm c i).1 = (prm c k).1) <;> rfl
        · simp only [p12_2, q12_2, lt_nat_f, cond_false]
      simp only [p12_1, q12_1, lt_nat_t hk, cond_true, inR_nat hk, chk_t, P36_eq, bind_some', ix_nat, fits_nat (show k < 9223372036854775807 by omega), cast_succ]
      show _ = some (cond (okP (prm c k) && noTwin c.2 k (prm c k)) _ _)
      have hh : (c.2.getD k default) = prm c k := rfl
      simp only [hh, e2, bind_some']
      have hB : okP (prm c k) = (wi (prm c k).1 0 99 && (wi (prm c k).2.1 0 8 && (wi (prm c k).2.2.1 0 (prm c k).2.2.2.1 && (!decide ((9 : Int) < (prm c k).2.2.2.1) && (wi (prm c k).2.2.2.2.1 0 (prm c k).2.2.2.2.2 && !decide ((99 : Int) < (prm c k).2.2.2.2.2)))))) := by
        rw [Bool.eq_iff_iff]
        simp only [okP, Bool.and_eq_true, wi_iff, decide_eq_true_eq, Bool.not_eq_true', decide_eq_false_iff_not]
        omega
      rw [hB]
      generalize wi (prm c k).1 0 99 = x1; generalize wi (prm c k).2.1 0 8 = x2; generalize wi (prm c k).2.2.1 0 (prm c k).2.2.2.1 = x3
      generalize decide ((9 : Int) < (prm c k).2.2.2.1) = x4; generalize wi (prm c k).2.2.2.2.1 0 (prm c k).2.2.2.2.2 = x5; generalize decide ((99 : Int) < (prm c k).2.2.2.2.2) = x6
      generalize noTwin c.2 k (prm c k) = x7
      have hfk := fits_nat (show k < 9223372036854775807 by omega)
      cases x1 <;> cases x2 <;> cases x3 <;> cases x4 <;> cases x5 <;> cases x6 <;> cases x7 <;> first | rfl | simp only [cond_true, cond_false, Bool.not_true, Bool.not_false, Bool.and_self, elim_inr, hfk, chk_t]
    · simp only [p12_1, q12_1, lt_nat_f, cond_false]
  have h : decide ((6 : Int) < (c.2.length : Int)) = false := by simp; omega
  have h' : decide ((8 : Int) < (c.1.length : Int)) = false := by simp; omega
  simp only [P12, p12, q12, h, h', cond_false, e0, bind_some']
  have d1 : decide (c.1.length ≤ 8) = true := by simp [hs]
  have d2 : decide (c.2.length ≤ 6) = true := by simp [hp]
  simp only [valid, d1, d2, Bool.true_and]
  cases (allB c.1.length fun k => okS (shw c k)) with
  | false => rfl
  | true =>
    simp only [cond_true, elim_inr, e1, bind_some', Bool.true_and]
    cases (allB c.2.length fun k => okP (prm c k) && noTwin c.2 k (prm c k)) <;> rfl
end Go.Proofs.Ytjoncejabdjekaa.D
