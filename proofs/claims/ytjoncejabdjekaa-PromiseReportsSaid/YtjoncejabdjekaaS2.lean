/- promise: what Counts of the program and of the reference come to. -/
import Derived.Test.YtjoncejabdjekaaS1
set_option linter.unusedVariables false
set_option linter.unusedSimpArgs false
namespace Go.Proofs.Ytjoncejabdjekaa.D
open Go Go.Proofs Go.Proofs.Ytjoncejabdjekaa.L

theorem getD_lt {α : Type} (l : List α) (d : α) {k : Nat} (h : k < l.length) : l.getD k d = l[k] := by simp [List.getD_eq_getElem?_getD, h]
theorem take_succ_getD {α : Type} (l : List α) (d : α) {k : Nat} (h : k < l.length) : l.take (k + 1) = l.take k ++ [l.getD k d] := by
  rw [getD_lt l d h, List.take_succ_eq_append_getElem h]

def times (c : Cmp) : List Int := c.2.map fun p => p.2.1
theorem P37_eq (c : Cmp) (h : c.2.length < 1000000) : P37 c = some (c.1, c.2, [], times c) := by
  have e : L37_0 (c.2, (c.2.length : Int), 0, c.1, c.2, [], []) = some (c.1, c.2, [], times c) := by
    refine while_run c.2.length (fun k => (c.2, (c.2.length : Int), (k : Int), c.1, c.2, [], (c.2.take k).map fun p => p.2.1)) _ (fun k hk => ?_) ?_ (by omega)
    · have hc : capOk 8 (List.length ((c.2.take k).map fun p : Prm => p.2.1) + List.length [(c.2.getD k default).2.1]) = true := capOk_of (by simp; omega)
      simp only [p37_0, q37_0, lt_nat_t hk, cond_true, inR_nat hk, chk_t, ix_nat, hc, fits_nat (show k < 9223372036854775807 by omega), cast_succ]
      rw [take_succ_getD c.2 default hk, List.map_append]; rfl
    · simp only [p37_0, q37_0, lt_nat_f, cond_false]
      rw [List.take_of_length_le (Nat.le_refl _)]; rfl
  simp only [P37, p37, q37, e, bind_some']

def fitP (p : Prm) (s : Shw) : Bool := wi s.2.1 p.2.2.1 p.2.2.2.1 && wi s.1 p.2.2.2.2.1 p.2.2.2.2.2
theorem P55_eq (p : Prm) (s : Shw) : P55 (p, s) = some (fitP p s) := by
  simp only [P55, p55, q55, P36_eq, bind_some', fitP]
  cases wi s.2.1 p.2.2.1 p.2.2.2.1 <;> rfl
theorem P57_eq (i j : Int) (c : Cmp) (d : List (List Int × Int)) (w : List Int) (hi : inR i c.2.length = true) (hj : inR j c.1.length = true) :
    P57 (i, j, c.1, c.2, d, w) = some (fitP (ix c.2 i) (ix c.1 j) && decide (dof (kget d [i, j]) 0 = 0), c.1, c.2, d, w) := by
  simp only [P57, p57, q57, hi, hj, chk_t, P32_eq, bind_some', fitP]
  cases wi (ix c.1 j).2.1 (ix c.2 i).2.2.1 (ix c.2 i).2.2.2.1 <;> cases wi (ix c.1 j).1 (ix c.2 i).2.2.2.2.1 (ix c.2 i).2.2.2.2.2 <;> rfl
theorem P57_nil (i j : Int) (c : Cmp) (w : List Int) (hi : inR i c.2.length = true) (hj : inR j c.1.length = true) : P57 (i, j, c.1, c.2, [], w) = some (fitP (ix c.2 i) (ix c.1 j), c.1, c.2, [], w) := by
  rw [P57_eq i j c [] w hi hj]
  have : decide (dof (kget ([] : List (List Int × Int)) [i, j]) 0 = 0) = true := by simp [kget, dof]
  rw [this, Bool.and_true]

/-- Place k of a row. -/
def okK (c : Cmp) (i : Nat) (l : List Int) (k : Nat) : Bool := wi (ix l k) 0 ((c.2.length : Int) - 1) && (!(decide ((0 : Int) < (k : Int)) && decide (ix l k ≤ ix l ((k : Int) - 1))) && fitP (ix c.2 (ix l k)) (ix c.1 i))
def okRow (c : Cmp) (i : Nat) (l : List Int) : Bool := allB l.length (okK c i l)
def row (plan : List (List Int)) (i : Nat) : List Int := plan.getD i default
def planOk (c : Cmp) (plan : List (List Int)) : Bool := decide (plan.length = c.1.length) && allB plan.length fun i => !decide ((ix c.1 i).2.2 < ((row plan i).length : Int)) && okRow c i (row plan i)

theorem L38_1_eq (c : Cmp) (plan : List (List Int)) (i : Nat) (l : List Int) (a3 a4 : Int) (w : List Int) (hi : i < c.1.length) (hl : l.length < 1000000) (hc : c.2.length < 1000000) :
    L38_1 ((i : Int), l, plan, a3, a4, l, (l.length : Int), 0, c.1, c.2, [], w) = some (cond (okRow c i l) (.inr (plan, a3, a4, c.1, c.2, [], w)) (.inl (false, c.1, c.2, [], w))) := by
  refine while_all l.length (fun k => ((i : Int), l, plan, a3, a4, l, (l.length : Int), (k : Int), c.1, c.2, [], w)) (okK c i l) _ _ (fun k hk => ?_) ?_ (by omega)
  · have f1 : fits .i64 ((c.2.length : Int) - 1) = true := fits_of (by omega) (by omega)
    have f2 : fits .i64 ((k : Int) - 1) = true := fits_of (by omega) (by omega)
    have f3 := fits_nat (show k < 9223372036854775807 by omega)
    simp only [p38_1, q38_1, lt_nat_t hk, cond_true, inR_nat hk, chk_t, P32_eq, bind_some', f1, f2, f3, cast_succ]
    cases hw : wi (ix l k) 0 ((c.2.length : Int) - 1) with
    | false => simp only [okK, hw, Bool.not_false, cond_true, Bool.false_and, cond_false]
    | true =>
      have hw' := wi_iff.1 hw
      have hin : inR (ix l k) c.2.length = true := inR_of (by omega) (by omega)
      simp only [Bool.not_true, cond_false, P57_nil _ _ _ _ hin (inR_nat hi), bind_some']
      simp only [okK, hw, Bool.true_and]
      cases h0 : decide ((0 : Int) < (k : Int)) with
      | false =>
        simp only [cond_false, Bool.false_and, Bool.not_false, Bool.true_and]
        cases fitP (ix c.2 (ix l k)) (ix c.1 i) <;> rfl
      | true =>
        have hk1 : inR ((k : Int) - 1) l.length = true := inR_of (by simp at h0; omega) (by omega)
        simp only [cond_true, hk1, chk_t, Bool.true_and]
        cases decide (ix l k ≤ ix l ((k : Int) - 1)) <;> cases fitP (ix c.2 (ix l k)) (ix c.1 i) <;> rfl
  · simp only [p38_1, q38_1, lt_nat_f, cond_false]

theorem P38_eq (c : Cmp) (plan : List (List Int)) (w : List Int) (hp : plan.length < 1000000) (hr : ∀ i, i < plan.length → (row plan i).length < 1000000) (hc : c.2.length < 1000000) :
    P38 (plan, c.1, c.2, [], w) = some (planOk c plan, c.1, c.2, [], w) := by
  have hcast : decide ((plan.length : Int) = (c.1.length : Int)) = decide (plan.length = c.1.length) := by rw [decide_eq_decide]; omega
  cases hl : decide (plan.length = c.1.length) with
  | false => simp only [P38, p38, q38, hcast, hl, Bool.not_false, cond_true, planOk, Bool.false_and]
  | true =>
    have hl' : plan.length = c.1.length := of_decide_eq_true hl
    have e : L38_0 (plan, (plan.length : Int), 0, c.1, c.2, [], w) = some (cond (allB plan.length fun i => !decide ((ix c.1 i).2.2 < ((row plan i).length : Int)) && okRow c i (row plan i)) (.inr (c.1, c.2, [], w)) (.inl (false, c.1, c.2, [], w))) := by
      refine while_all plan.length (fun k => (plan, (plan.length : Int), (k : Int), c.1, c.2, [], w)) (fun i => !decide ((ix c.1 i).2.2 < ((row plan i).length : Int)) && okRow c i (row plan i)) _ _ (fun k hk => ?_) ?_ (by omega)
      · have hrow : ix plan (k : Int) = row plan k := ix_nat _ _
        have f3 := fits_nat (show k < 9223372036854775807 by omega)
        simp only [p38_0, q38_0, lt_nat_t hk, cond_true, inR_nat hk, inR_nat (hl' ▸ hk), chk_t, hrow, cast_succ]
        cases hroom : decide ((ix c.1 k).2.2 < ((row plan k).length : Int)) with
        | true => simp only [cond_true, Bool.not_true, Bool.false_and, cond_false]
        | false =>
          simp only [cond_false, Bool.not_false, Bool.true_and, L38_1_eq c plan k (row plan k) _ _ w (hl' ▸ hk) (hr k hk) hc, bind_some']
          cases okRow c k (row plan k) with
          | false => rfl
          | true => simp only [cond_true, elim_inr, f3, chk_t]
      · simp only [p38_0, q38_0, lt_nat_f, cond_false]
    simp only [P38, p38, q38, hcast, hl, Bool.not_true, cond_false, e, bind_some', planOk, Bool.true_and]
    cases (allB plan.length fun i => !decide ((ix c.1 i).2.2 < ((row plan i).length : Int)) && okRow c i (row plan i)) <;> rfl

theorem L30_1_eq (c : Cmp) (plan : List (List Int)) (i : Nat) (l : List Int) (hi : i < c.1.length) (hl : l.length < 1000000) (hc : c.2.length < 1000000) :
    L30_1 (plan, (i : Int), l, 0, c) = some (cond (okRow c i l) (.inr (plan, (i : Int), c)) (.inl (false, c))) := by
  refine while_all l.length (fun k => (plan, (i : Int), l, (k : Int), c)) (okK c i l) _ _ (fun k hk => ?_) ?_ (by omega)
  · have f1 : fits .i64 ((c.2.length : Int) - 1) = true := fits_of (by omega) (by omega)
    have f2 : fits .i64 ((k : Int) - 1) = true := fits_of (by omega) (by omega)
    have f3 := fits_nat (show k < 9223372036854775807 by omega)
    simp only [p30_1, q30_1, lt_nat_t hk, cond_true, inR_nat hk, inR_nat hi, chk_t, P36_eq, P55_eq, bind_some', f1, f2, f3, cast_succ]
    cases hw : wi (ix l k) 0 ((c.2.length : Int) - 1) with
    | false => simp only [okK, hw, Bool.not_false, cond_true, Bool.false_and, cond_false]
    | true =>
      have hw' := wi_iff.1 hw
      have hin : inR (ix l k) c.2.length = true := inR_of (by omega) (by omega)
      simp only [Bool.not_true, cond_false, hin, chk_t]
      simp only [okK, hw, Bool.true_and]
      cases h0 : decide ((0 : Int) < (k : Int)) with
      | false =>
        simp only [cond_false, Bool.false_and, Bool.not_false, Bool.true_and]
        cases fitP (ix c.2 (ix l k)) (ix c.1 i) <;> rfl
      | true =>
        have hk1 : inR ((k : Int) - 1) l.length = true := inR_of (by simp at h0; omega) (by omega)
        simp only [cond_true, hk1, chk_t, Bool.true_and]
        cases decide (ix l k ≤ ix l ((k : Int) - 1)) <;> cases fitP (ix c.2 (ix l k)) (ix c.1 i) <;> rfl
  · simp only [p30_1, q30_1, lt_nat_f, cond_false]

theorem P30_eq (c : Cmp) (plan : List (List Int)) (hp : plan.length < 1000000) (hr : ∀ i, i < plan.length → (row plan i).length < 1000000) (hc : c.2.length < 1000000) : P30 (c, plan) = some (planOk c plan) := by
  have hcast : decide ((plan.length : Int) = (c.1.length : Int)) = decide (plan.length = c.1.length) := by rw [decide_eq_decide]; omega
  cases hl : decide (plan.length = c.1.length) with
  | false => simp only [P30, p30, q30, hcast, hl, Bool.not_false, cond_true, planOk, Bool.false_and]
  | true =>
    have hl' : plan.length = c.1.length := of_decide_eq_true hl
    have e : L30_0 (plan, 0, c) = some (cond (allB plan.length fun i => !decide ((ix c.1 i).2.2 < ((row plan i).length : Int)) && okRow c i (row plan i)) (.inr c) (.inl (false, c))) := by
      refine while_all plan.length (fun k => (plan, (k : Int), c)) (fun i => !decide ((ix c.1 i).2.2 < ((row plan i).length : Int)) && okRow c i (row plan i)) _ _ (fun k hk => ?_) ?_ (by omega)
      · have hrow : ix plan (k : Int) = row plan k := ix_nat _ _
        have f3 := fits_nat (show k < 9223372036854775807 by omega)
        simp only [p30_0, q30_0, lt_nat_t hk, cond_true, inR_nat hk, inR_nat (hl' ▸ hk), chk_t, hrow, cast_succ]
        cases hroom : decide ((ix c.1 k).2.2 < ((row plan k).length : Int)) with
        | true => simp only [cond_true, Bool.not_true, Bool.false_and, cond_false]
        | false =>
          simp only [cond_false, Bool.not_false, Bool.true_and, L30_1_eq c plan k (row plan k) (hl' ▸ hk) (hr k hk) hc, bind_some']
          cases okRow c k (row plan k) with
          | false => rfl
          | true => simp only [cond_true, elim_inr, f3, chk_t]
      · simp only [p30_0, q30_0, lt_nat_f, cond_false]
    simp only [P30, p30, q30, hcast, hl, Bool.not_true, cond_false, e, bind_some', planOk, Bool.true_and]
    cases (allB plan.length fun i => !decide ((ix c.1 i).2.2 < ((row plan i).length : Int)) && okRow c i (row plan i)) <;> rfl
end Go.Proofs.Ytjoncejabdjekaa.D
