/- Cut down from a longer text. -/
import Derived.Test.YtfknkinmnecoeaaG7q
import Derived.Test.YtfknkinmnecoeaaB2
set_option linter.unusedVariables false
set_option linter.unusedSimpArgs false
namespace Go.Proofs.Ytfknkinmnecoeaa.D
open Go Go.Proofs Go.Proofs.Ytfknkinmnecoeaa.L
abbrev CT := Int × Int × Int × List Int × List (Int × Int) × Int × Int × Int × Int
abbrev RT := Int × Int × Int × Int × Int × Int
abbrev BT := Int × List CT × List RT
def zC : CT := (0, 0, 0, [], [], 0, 0, 0, 0)
def fc (l : List CT) (f : Int) : Option CT := l.find? fun c => decide (c.1 = f)
def crV : Option CT → CT × Bool
  | some c => (c, true)
  | none => (zC, false)
def okT (l : List (Int × Int)) : Bool := allB l.length fun i => wi (gt l i).1 0 10000000 && (wi (gt l i).2 0 1000 && (decide (i = 0) || decide ((gt l (i - 1)).1 < (gt l i).1)))
def okC (c : CT) : Bool := wi c.1 0 99 && (decide (0 ≤ c.2.1) && (decide (c.2.1 ≤ c.2.2.1) && (decide (c.2.2.1 ≤ 99) && (wi c.2.2.2.1.length 1 6 && (decide (c.2.2.2.2.1.length ≤ 4) && (wi c.2.2.2.2.2.1 0 10000000 && (wi c.2.2.2.2.2.2.2.1 0 10000000 && (wi c.2.2.2.2.2.2.1 0 1000 && (wi c.2.2.2.2.2.2.2.2 0 100000000 && ((allB c.2.2.2.1.length fun i => wi (gt c.2.2.2.1 i) 0 1000) && okT c.2.2.2.2.1))))))))))
def okBs (b : BT) : Bool := (allB b.2.1.length fun i => okC (gt b.2.1 i) && allB i fun k => !decide ((gt b.2.1 k).1 = (gt b.2.1 i).1)) && (wi b.1 0 500 && decide (b.2.1.length ≤ 6))
def okR1 (c : CT) (r : RT) : Bool := wi r.1 0 99 && ((decide (r.2.1 = 1) || decide (r.2.1 = 2)) && (wi r.2.2.2.1 c.2.1 c.2.2.1 && (wi r.2.2.2.2.1 0 9 && wi r.2.2.2.2.2 0 10000000)))
def okR (l : List CT) (r : RT) : Bool := match fc l r.2.2.1 with
  | some c => okR1 c r
  | none => false
def okNC (l : List RT) (i : Nat) : Bool := allB i fun k => !(decide ((gt l k).1 = (gt l i).1) && !decide (gt l k = gt l i))
def okRs (c : List CT) (l : List RT) : Bool := allB l.length fun i => okR c (gt l i) && okNC l i
def chkV (b : BT) : Int := cond (okBs b) (cond (decide (b.2.2.length ≤ 40) && okRs b.2.1 b.2.2) 0 81) 80
theorem eqR (x y : RT) : (((((decide (x.1 = y.1) && decide (x.2.1 = y.2.1)) && decide (x.2.2.1 = y.2.2.1)) && decide (x.2.2.2.1 = y.2.2.2.1)) && decide (x.2.2.2.2.1 = y.2.2.2.2.1)) && decide (x.2.2.2.2.2 = y.2.2.2.2.2)) = decide (x = y) := by
  obtain ⟨a, b, c, d, e, f⟩ := x
  obtain ⟨a', b', c', d', e', f'⟩ := y
  rw [Bool.eq_iff_iff]
  simp [Prod.ext_iff, and_assoc]
theorem P48_eq (x a b : Int) : P48 (x, a, b) = some (wi x a b) := wi_cond x a b
theorem P40_eq (x a b : Int) : P40 (x, a, b) = some (wi x a b) := wi_cond x a b
theorem P46_eq (x : Int) : P46 x = some (wi x 0 10000000) := by simp only [P46, p46, q46, P40_eq, bind_some']
theorem P70_eq (x : Int) : P70 x = some (wi x 0 1000) := by simp only [P70, p70, q70, P40_eq, bind_some']
theorem P16_eq (b : BT) (f : Int) (hb : b.2.1.length ≤ 1000) : P16 (b, f) = some (crV (fc b.2.1 f)) := by
  have h := while_find (step := fun x => p16_0 x.1 x.2.1 x.2.2.1 x.2.2.2.1 x.2.2.2.2.1 x.2.2.2.2.2.1 x.2.2.2.2.2.2.1 x.2.2.2.2.2.2.2.1 x.2.2.2.2.2.2.2.2.1 x.2.2.2.2.2.2.2.2.2) b.2.1.length (fun k => (f, (k : Int), b, 0, 0, 0, 0, 0, 0, 0)) (fun k => decide ((gt b.2.1 k).1 = f)) (fun k => .inl (true, b, gt b.2.1 k)) (.inr (b, 0, 0, 0, 0, 0, 0, 0))
    (fun k hk _ => by
      simp only [p16_0, q16_0, lt_nat_t hk, cond_true, inR_nat hk, chk_t, ix_gt, fits_nat (show k < 9223372036854775807 by omega), cast_succ]
      cases decide ((gt b.2.1 k).1 = f) <;> rfl) (fun _ => by simp only [p16_0, q16_0, lt_nat_f, cond_false]) (by omega)
  rcases h with ⟨k, hk, h1, h2, h3⟩ | ⟨h2, h3⟩
  · have e : L16_0 (f, 0, b, 0, 0, 0, 0, 0, 0, 0) = some (.inl (true, b, gt b.2.1 k)) := h3
    simp only [P16, p16, q16, e, bind_some', elim_inl]
    rw [fc, find_at hk h1 h2]; rfl
  · have e : L16_0 (f, 0, b, 0, 0, 0, 0, 0, 0, 0) = some (.inr (b, 0, 0, 0, 0, 0, 0, 0)) := h3
    simp only [P16, p16, q16, e, bind_some', elim_inr]
    rw [fc, find_no h2]; rfl
theorem P67_eq (c : CT) (h1 : c.2.2.2.1.length ≤ 1000) (h2 : c.2.2.2.2.1.length ≤ 1000) : P67 c = some (okC c) := by
  have e0 : L67_0 (0, c) = some (cond (allB c.2.2.2.1.length fun i => wi (gt c.2.2.2.1 i) 0 1000) (.inr c) (.inl (false, c))) :=
    while_all c.2.2.2.1.length (fun k => ((k : Int), c)) (fun i => wi (gt c.2.2.2.1 i) 0 1000) _ _ (fun k hk => by
      simp only [p67_0, q67_0, lt_nat_t hk, cond_true, inR_nat hk, chk_t, ix_gt, fits_nat (show k < 9223372036854775807 by omega), cast_succ, P48_eq, bind_some']
      cases wi (gt c.2.2.2.1 k) 0 1000 <;> rfl) (by simp only [p67_0, q67_0, lt_nat_f, cond_false]) (by omega)
  have e1 : L67_1 (0, c) = some (cond (okT c.2.2.2.2.1) (.inr c) (.inl (false, c))) :=
    while_all c.2.2.2.2.1.length (fun k => ((k : Int), c)) (fun i => wi (gt c.2.2.2.2.1 i).1 0 10000000 && (wi (gt c.2.2.2.2.1 i).2 0 1000 && (decide (i = 0) || decide ((gt c.2.2.2.2.1 (i - 1)).1 < (gt c.2.2.2.2.1 i).1)))) _ _ (fun k hk => by
      simp only [p67_1, q67_1, lt_nat_t hk, cond_true, inR_nat hk, chk_t, ix_gt, fits_nat (show k < 9223372036854775807 by omega), cast_succ, P48_eq, bind_some']
      cases wi (gt c.2.2.2.2.1 k).1 0 10000000
      · rfl
      cases wi (gt c.2.2.2.2.1 k).2 0 1000
      · rfl
      by_cases hk0 : k = 0
      · subst hk0; rfl
      · have q1 : decide ((0 : Int) < (k : Int)) = true := by simp; omega
        have q2 : (k : Int) - 1 = ((k - 1 : Nat) : Int) := by omega
        simp only [q1, q2, Bool.not_true, cond_false, cond_true, fitsN (show (0 : Int) ≤ ((k - 1 : Nat) : Int) by omega) (by omega), chk_t, inR_nat (show k - 1 < c.2.2.2.2.1.length by omega), ix_gt, Bool.true_and, hk0, decide_false, Bool.false_or]
        by_cases q3 : (gt c.2.2.2.2.1 (k - 1)).1 < (gt c.2.2.2.2.1 k).1
        · have q4 : decide ((gt c.2.2.2.2.1 k).1 ≤ (gt c.2.2.2.2.1 (k - 1)).1) = false := by simp; omega
          simp only [q3, q4, decide_true, cond_true, cond_false]
        · have q4 : decide ((gt c.2.2.2.2.1 k).1 ≤ (gt c.2.2.2.2.1 (k - 1)).1) = true := by simp; omega
          simp only [q3, q4, decide_false, cond_true, cond_false]) (by simp only [p67_1, q67_1, lt_nat_f, cond_false]) (by omega)
  have n0 : ∀ x : Int, decide (x < 0) = !decide (0 ≤ x) := fun x => by rw [Bool.eq_iff_iff]; simp
  have n1 : decide (c.2.2.1 < c.2.1) = !decide (c.2.1 ≤ c.2.2.1) := by rw [Bool.eq_iff_iff]; simp
  have n2 : decide (99 < c.2.2.1) = !decide (c.2.2.1 ≤ 99) := by rw [Bool.eq_iff_iff]; simp
  have n3 : decide (4 < (c.2.2.2.2.1.length : Int)) = !decide (c.2.2.2.2.1.length ≤ 4) := by rw [Bool.eq_iff_iff]; simp; omega
  simp only [P67, p67, q67, P48_eq, bind_some', n0, n1, n2, n3, okC, e0]
  cases wi c.1 0 99
  · rfl
  cases decide (0 ≤ c.2.1)
  · rfl
  cases decide (c.2.1 ≤ c.2.2.1)
  · rfl
  cases decide (c.2.2.1 ≤ 99)
  · rfl
  cases wi (c.2.2.2.1.length : Int) 1 6
  · rfl
  cases decide (c.2.2.2.2.1.length ≤ 4)
  · rfl
  cases wi c.2.2.2.2.2.1 0 10000000
  · rfl
  cases wi c.2.2.2.2.2.2.2.1 0 10000000
  · rfl
  cases wi c.2.2.2.2.2.2.1 0 1000
  · rfl
  cases wi c.2.2.2.2.2.2.2.2 0 100000000
  · rfl
  cases allB c.2.2.2.1.length fun i => wi (gt c.2.2.2.1 i) 0 1000
  · rfl
  simp only [Bool.not_true, cond_false, cond_true, bind_some', elim_inr, e1]
  cases okT c.2.2.2.2.1 <;> rfl
def szB (b : BT) : Prop := b.2.1.length ≤ 1000 ∧ b.2.2.length ≤ 1000 ∧ ∀ c ∈ b.2.1, c.2.2.2.1.length ≤ 1000 ∧ c.2.2.2.2.1.length ≤ 1000
theorem P43_eq (b : BT) (hb : szB b) : P43 b = some (okBs b) := by
  obtain ⟨h1, _, h3⟩ := hb
  have e1 : ∀ i, i < b.2.1.length → L43_1 ((i : Int), 0, b) = some (cond (allB i fun k => !decide ((gt b.2.1 k).1 = (gt b.2.1 i).1)) (.inr ((i : Int), b)) (.inl (false, b))) := fun i hi =>
    while_all i (fun k => ((i : Int), (k : Int), b)) (fun k => !decide ((gt b.2.1 k).1 = (gt b.2.1 i).1)) _ _ (fun k hk => by
      simp only [p43_1, q43_1, lt_nat_t hk, cond_true, inR_nat hi, inR_nat (show k < b.2.1.length by omega), chk_t, ix_gt, fits_nat (show k < 9223372036854775807 by omega), cast_succ]
      cases decide ((gt b.2.1 k).1 = (gt b.2.1 i).1) <;> rfl) (by simp only [p43_1, q43_1, lt_nat_f, cond_false]) (by omega)
  have e0 : L43_0 (0, b) = some (cond (allB b.2.1.length fun i => okC (gt b.2.1 i) && allB i fun k => !decide ((gt b.2.1 k).1 = (gt b.2.1 i).1)) (.inr b) (.inl (false, b))) :=
    while_all b.2.1.length (fun k => ((k : Int), b)) (fun i => okC (gt b.2.1 i) && allB i fun k => !decide ((gt b.2.1 k).1 = (gt b.2.1 i).1)) _ _ (fun k hk => by
      have hc := h3 _ (gt_mem hk)
      simp only [p43_0, q43_0, lt_nat_t hk, cond_true, inR_nat hk, chk_t, ix_gt, P67_eq _ hc.1 hc.2, bind_some', e1 k hk, fits_nat (show k < 9223372036854775807 by omega), cast_succ]
      cases okC (gt b.2.1 k)
      · rfl
      cases allB k fun i => !decide ((gt b.2.1 i).1 = (gt b.2.1 k).1)
      · rfl
      simp only [Bool.not_true, cond_false, cond_true, bind_some', elim_inr, fits_nat (show k < 9223372036854775807 by omega), chk_t]; rfl) (by simp only [p43_0, q43_0, lt_nat_f, cond_false]) (by omega)
  have n3 : decide ((b.2.1.length : Int) ≤ 6) = decide (b.2.1.length ≤ 6) := by rw [Bool.eq_iff_iff]; simp; omega
  simp only [P43, p43, q43, e0, bind_some', okBs]
  cases allB b.2.1.length fun i => okC (gt b.2.1 i) && allB i fun k => !decide ((gt b.2.1 k).1 = (gt b.2.1 i).1)
  · rfl
  simp only [cond_true, elim_inr, P48_eq, bind_some', n3]
  cases wi b.1 0 500 <;> rfl
theorem P44_eq (b : BT) (l : List RT) (hb : szB b) (hl : l.length ≤ 1000) : P44 (b, l) = some (okRs b.2.1 l) := by
  have e1 : ∀ (i : Nat) (x y z w : Bool), i < l.length → L44_1 (l, (i : Int), 0, x, y, z, w, b, gt l i) = some (cond (okNC l i) (.inr (l, (i : Int), x, y, z, w, b, gt l i)) (.inl (false, b, gt l i))) := fun i x y z w hi =>
    while_all i (fun k => (l, (i : Int), (k : Int), x, y, z, w, b, gt l i)) (fun k => !(decide ((gt l k).1 = (gt l i).1) && !decide (gt l k = gt l i))) _ _ (fun k hk => by
      simp only [p44_1, q44_1, lt_nat_t hk, cond_true, inR_nat (show k < l.length by omega), chk_t, ix_gt, fits_nat (show k < 9223372036854775807 by omega), cast_succ, eqR]
      cases decide ((gt l k).1 = (gt l i).1)
      · rfl
      cases decide (gt l k = gt l i) <;> rfl) (by simp only [p44_1, q44_1, lt_nat_f, cond_false]) (by omega)
  have e0 : L44_0 (l, 0, b) = some (cond (okRs b.2.1 l) (.inr b) (.inl (false, b))) :=
    while_all l.length (fun k => (l, (k : Int), b)) (fun i => okR b.2.1 (gt l i) && okNC l i) _ _ (fun k hk => by
      simp only [p44_0, q44_0, lt_nat_t hk, cond_true, inR_nat hk, chk_t, ix_gt, P16_eq b _ hb.1, bind_some', P48_eq, okR]
      cases hf : fc b.2.1 (gt l k).2.2.1 with
      | none => rfl
      | some c =>
        simp only [crV, okR1, Bool.not_true, cond_false]
        cases wi (gt l k).1 0 99
        · rfl
        cases q1 : decide ((gt l k).2.1 = 1)
        · cases q2 : decide ((gt l k).2.1 = 2)
          · rfl
          simp only [Bool.not_true, Bool.not_false, cond_false, cond_true]
          cases wi (gt l k).2.2.2.1 c.2.1 c.2.2.1
          · rfl
          cases wi (gt l k).2.2.2.2.1 0 9
          · rfl
          cases wi (gt l k).2.2.2.2.2 0 10000000
          · rfl
          simp only [Bool.not_true, cond_false, e1 k _ _ _ _ hk, bind_some']
          cases okNC l k
          · rfl
          simp only [cond_true, elim_inr, fits_nat (show k < 9223372036854775807 by omega), chk_t]; rfl
        · simp only [Bool.not_true, Bool.not_false, cond_false, cond_true]
          cases wi (gt l k).2.2.2.1 c.2.1 c.2.2.1
          · rfl
          cases wi (gt l k).2.2.2.2.1 0 9
          · rfl
          cases wi (gt l k).2.2.2.2.2 0 10000000
          · rfl
          simp only [Bool.not_true, cond_false, e1 k _ _ _ _ hk, bind_some']
          cases okNC l k
          · rfl
          simp only [cond_true, elim_inr, fits_nat (show k < 9223372036854775807 by omega), chk_t]; rfl) (by simp only [p44_0, q44_0, lt_nat_f, cond_false]) (by omega)
  simp only [P44, p44, q44, e0, bind_some']
  cases okRs b.2.1 l <;> rfl
theorem P20_eq (b : BT) (hb : szB b) : P20 b = some (chkV b) := by
  have n3 : decide (40 < (b.2.2.length : Int)) = !decide (b.2.2.length ≤ 40) := by rw [Bool.eq_iff_iff]; simp; omega
  simp only [P20, p20, q20, P43_eq b hb, P44_eq b _ hb hb.2.1, bind_some', n3, chkV]
  cases okBs b
  · rfl
  cases decide (b.2.2.length ≤ 40)
  · rfl
  cases okRs b.2.1 b.2.2 <;> rfl
end Go.Proofs.Ytfknkinmnecoeaa.D
