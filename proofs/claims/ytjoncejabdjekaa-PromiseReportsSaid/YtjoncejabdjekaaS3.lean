/- promise: what Counts of the program and of the reference come to, and the law PromiseCounts. -/
import Derived.Test.YtjoncejabdjekaaS2
import Derived.Test.YtjoncejabdjekaaE1
set_option linter.unusedVariables false
set_option linter.unusedSimpArgs false
namespace Go.Proofs.Ytjoncejabdjekaa.D
open Go Go.Proofs Go.Proofs.Ytjoncejabdjekaa.L

/-- Counts in range. -/
def Bd (cnt : List Int) (m B : Nat) : Prop := cnt.length = m ∧ ∀ j, j < m → 0 ≤ cnt.getD j default ∧ cnt.getD j default ≤ (B : Int)
def bump (n : Int) (cnt : List Int) : List Int := List.set cnt n.toNat (ix cnt n + 1)
theorem Bd.bump {cnt : List Int} {m B : Nat} (h : Bd cnt m B) {n : Int} (hn : 0 ≤ n) (hm : n < m) : Bd (bump n cnt) m (B + 1) := by
  refine ⟨by simp [D.bump, h.1], fun j hj => ?_⟩
  have h1 := h.2 j hj
  by_cases e : n.toNat = j
  · have : (D.bump n cnt).getD j default = ix cnt n + 1 := by
      simp only [D.bump, List.getD_eq_getElem?_getD, e]
      rw [List.getElem?_set_self (by rw [h.1]; exact hj)]; rfl
    have e2 : ix cnt n = cnt.getD j default := by simp only [ix, e]
    rw [this, e2]; omega
  · have : (D.bump n cnt).getD j default = cnt.getD j default := by
      simp only [D.bump, List.getD_eq_getElem?_getD]
      rw [List.getElem?_set_ne e]
    rw [this]; omega
theorem Bd.mono {cnt : List Int} {m B B' : Nat} (h : Bd cnt m B) (hb : B ≤ B') : Bd cnt m B' := ⟨h.1, fun j hj => ⟨(h.2 j hj).1, by have := (h.2 j hj).2; omega⟩⟩
/-- The counts of a row. -/
def rowN (l : List Int) (k : Nat) (cnt : List Int) : List Int := foldN (fun i cnt => bump (ix l i) cnt) k cnt
def planN (plan : List (List Int)) (k : Nat) (cnt : List Int) : List Int := foldN (fun i cnt => rowN (row plan i) (row plan i).length cnt) k cnt
def rowIn (l : List Int) (m : Nat) : Prop := ∀ k, k < l.length → 0 ≤ ix l k ∧ ix l k < (m : Int)
theorem Bd.rowN {l : List Int} {m B : Nat} {cnt : List Int} (h : Bd cnt m B) (hl : rowIn l m) : ∀ k, k ≤ l.length → Bd (rowN l k cnt) m (B + k)
  | 0, _ => h
  | k + 1, hk => (Bd.rowN h hl k (by omega)).bump (hl k (by omega)).1 (hl k (by omega)).2
theorem Bd.planN {plan : List (List Int)} {m : Nat} {cnt : List Int} (h : Bd cnt m 0) (hl : ∀ i, i < plan.length → rowIn (row plan i) m ∧ (row plan i).length ≤ 40) : ∀ k, k ≤ plan.length → Bd (planN plan k cnt) m (40 * k)
  | 0, _ => h
  | k + 1, hk => by
    have h1 := Bd.planN h hl k (by omega)
    have h2 := h1.rowN (hl k (by omega)).1 (row plan k).length (Nat.le_refl _)
    exact h2.mono (by have := (hl k (by omega)).2; omega)
def zer (c : Cmp) : List Int := List.replicate c.2.length 0
theorem zer_Bd (c : Cmp) : Bd (zer c) c.2.length 0 := by
  refine ⟨by simp [zer], fun j hj => ?_⟩
  have : (zer c).getD j default = 0 := by simp [zer, hj]
  rw [this]; decide
def cntOf (c : Cmp) (plan : List (List Int)) : List Int := planN plan plan.length (zer c)
def worthN (c : Cmp) (cnt : List Int) (k : Nat) : Int := foldN (fun i n => n + min (ix cnt i) (prm c i).2.1) k 0
theorem worthN_bd (c : Cmp) (cnt : List Int) {B : Nat} (h : Bd cnt c.2.length B) (hv : ∀ k, k < c.2.length → 0 ≤ (prm c k).2.1 ∧ (prm c k).2.1 ≤ 8) : ∀ k, k ≤ c.2.length → 0 ≤ worthN c cnt k ∧ worthN c cnt k ≤ 8 * k
  | 0, _ => by simp [worthN, foldN]
  | k + 1, hk => by
    have h1 := worthN_bd c cnt h hv k (by omega)
    have h2 := hv k (by omega)
    have h3 := (h.2 k (by omega)).1
    have h4 : ix cnt (k : Int) = cnt.getD k default := ix_nat _ _
    have h5 : worthN c cnt (k + 1) = worthN c cnt k + min (ix cnt (k : Int)) (prm c k).2.1 := rfl
    rw [h5, h4]
    have h6 : 0 ≤ min (cnt.getD k default) (prm c k).2.1 := by omega
    have h7 : min (cnt.getD k default) (prm c k).2.1 ≤ 8 := by omega
    omega

/-- What a valid campaign and a plan give. -/
theorem valid_len {c : Cmp} (h : valid c = true) : c.1.length ≤ 8 ∧ c.2.length ≤ 6 := by
  simp only [valid, Bool.and_eq_true, decide_eq_true_eq] at h; exact ⟨h.1, h.2.1⟩
theorem valid_prm {c : Cmp} (h : valid c = true) {k : Nat} (hk : k < c.2.length) : okP (prm c k) = true := by
  simp only [valid, Bool.and_eq_true, decide_eq_true_eq] at h
  have := allB_true.1 h.2.2.2 k hk
  simp only [Bool.and_eq_true] at this; exact this.1
theorem valid_shw {c : Cmp} (h : valid c = true) {k : Nat} (hk : k < c.1.length) : okS (shw c k) = true := by
  simp only [valid, Bool.and_eq_true, decide_eq_true_eq] at h
  exact allB_true.1 h.2.2.1 k hk
theorem valid_times {c : Cmp} (h : valid c = true) {k : Nat} (hk : k < c.2.length) : 0 ≤ (prm c k).2.1 ∧ (prm c k).2.1 ≤ 8 := by
  have := valid_prm h hk
  simp only [okP, Bool.and_eq_true, wi_iff] at this; exact this.2.1
theorem plan_row {c : Cmp} {plan : List (List Int)} (h : planOk c plan = true) {i : Nat} (hi : i < plan.length) : rowIn (row plan i) c.2.length := fun k hk => by
  simp only [planOk, Bool.and_eq_true] at h
  have h1 := allB_true.1 h.2 i hi
  simp only [Bool.and_eq_true] at h1
  have h2 := allB_true.1 h1.2 k hk
  simp only [okK, Bool.and_eq_true, wi_iff] at h2
  omega

section
variable {c : Cmp} {plan : List (List Int)}

theorem step_cnt {l : List Int} {m B k : Nat} {cnt : List Int} (h : Bd cnt m B) (hl : rowIn l m) (hk : k < l.length) (hB : B + l.length < 1000000000) :
    inR (ix l k) (rowN l k cnt).length = true ∧ fits .i64 (ix (rowN l k cnt) (ix l k) + 1) = true := by
  have h1 := h.rowN hl k (by omega)
  have h2 := hl k hk
  have e : ix l (k : Int) = ((ix l k).toNat : Int) := by omega
  refine ⟨inR_of h2.1 (by rw [h1.1]; exact h2.2), ?_⟩
  have h3 := h1.2 (ix l k).toNat (by omega)
  have h4 : ix (rowN l k cnt) (ix l k) = (rowN l k cnt).getD (ix l k).toNat default := rfl
  rw [h4]
  exact fits_of (by omega) (by omega)

theorem L13_1_eq (x0 a2 a3 : Int) (w : List Int) {l : List Int} {m B : Nat} {cnt : List Int} (h : Bd cnt m B) (hl : rowIn l m) (hB : B + l.length < 1000000000) :
    L13_1 (x0, plan, a2, a3, l, (l.length : Int), 0, cnt, c.1, c.2, [], w) = some (x0, plan, a2, a3, rowN l l.length cnt, c.1, c.2, [], w) := by
  refine while_run l.length (fun k => (x0, plan, a2, a3, l, (l.length : Int), (k : Int), rowN l k cnt, c.1, c.2, [], w)) _ (fun k hk => ?_) ?_ (by omega)
  · obtain ⟨f1, f2⟩ := step_cnt h hl hk hB
    simp only [p13_1, q13_1, lt_nat_t hk, cond_true, inR_nat hk, chk_t, f1, f2, fits_nat (show k < 9223372036854775807 by omega), cast_succ]
    rfl
  · simp only [p13_1, q13_1, lt_nat_f, cond_false]
theorem L39_1_eq (i : Nat) (hi : i < plan.length) {m B : Nat} {cnt : List Int} (h : Bd cnt m B) (hl : rowIn (row plan i) m) (hB : B + (row plan i).length < 1000000000) :
    L39_1 (plan, (i : Int), 0, c, cnt) = some (plan, (i : Int), c, rowN (row plan i) (row plan i).length cnt) := by
  have hrow : ix plan (i : Int) = row plan i := ix_nat _ _
  refine while_run (row plan i).length (fun k => (plan, (i : Int), (k : Int), c, rowN (row plan i) k cnt)) _ (fun k hk => ?_) ?_ (by omega)
  · obtain ⟨f1, f2⟩ := step_cnt h hl hk hB
    simp only [p39_1, q39_1, hrow, lt_nat_t hk, cond_true, inR_nat hk, inR_nat hi, chk_t, f1, f2, fits_nat (show k < 9223372036854775807 by omega), cast_succ]
    rfl
  · simp only [p39_1, q39_1, hrow, inR_nat hi, chk_t, lt_nat_f, cond_false]

theorem L13_0_eq (x0 : Int) (w : List Int) {m : Nat} {cnt : List Int} (h : Bd cnt m 0) (hp : plan.length ≤ 40) (hl : ∀ i, i < plan.length → rowIn (row plan i) m ∧ (row plan i).length ≤ 40) :
    L13_0 (x0, plan, (plan.length : Int), 0, cnt, c.1, c.2, [], w) = some (x0, planN plan plan.length cnt, c.1, c.2, [], w) := by
  refine while_run plan.length (fun k => (x0, plan, (plan.length : Int), (k : Int), planN plan k cnt, c.1, c.2, [], w)) _ (fun k hk => ?_) ?_ (by omega)
  · have hrow : ix plan (k : Int) = row plan k := ix_nat _ _
    simp only [p13_0, q13_0, lt_nat_t hk, cond_true, inR_nat hk, chk_t, hrow, L13_1_eq x0 (plan.length : Int) (k : Int) w (h.planN hl k (by omega)) (hl k hk).1 (by have := (hl k hk).2; omega), bind_some', fits_nat (show k < 9223372036854775807 by omega), cast_succ]
    rfl
  · simp only [p13_0, q13_0, lt_nat_f, cond_false]
theorem L39_0_eq {m : Nat} {cnt : List Int} (h : Bd cnt m 0) (hp : plan.length ≤ 40) (hl : ∀ i, i < plan.length → rowIn (row plan i) m ∧ (row plan i).length ≤ 40) :
    L39_0 (plan, 0, c, cnt) = some (c, planN plan plan.length cnt) := by
  refine while_run plan.length (fun k => (plan, (k : Int), c, planN plan k cnt)) _ (fun k hk => ?_) ?_ (by omega)
  · simp only [p39_0, q39_0, lt_nat_t hk, cond_true, L39_1_eq k hk (h.planN hl k (by omega)) (hl k hk).1 (by have := (hl k hk).2; omega), bind_some', chk_t, fits_nat (show k < 9223372036854775807 by omega), cast_succ]
    rfl
  · simp only [p39_0, q39_0, lt_nat_f, cond_false]

theorem times_get {k : Nat} (hk : k < c.2.length) : ix (times c) (k : Int) = (prm c k).2.1 := by
  rw [ix_nat, times, prm, List.getD_eq_getElem?_getD, List.getD_eq_getElem?_getD, List.getElem?_map, List.getElem?_eq_getElem hk]; rfl

theorem worth_fits (hv : valid c = true) {cnt : List Int} {B : Nat} (h : Bd cnt c.2.length B) {k : Nat} (hk : k < c.2.length) : fits .i64 (worthN c cnt k + min (ix cnt k) (prm c k).2.1) = true := by
  have h1 := worthN_bd c cnt h (fun k hk => valid_times hv hk) (k + 1) hk
  have h2 := valid_len hv
  have h3 : worthN c cnt (k + 1) = worthN c cnt k + min (ix cnt (k : Int)) (prm c k).2.1 := rfl
  rw [← h3]
  exact fits_of (by omega) (by omega)

theorem L13_2_eq (hv : valid c = true) {cnt : List Int} {B : Nat} (h : Bd cnt c.2.length B) :
    L13_2 (0, (cnt.length : Int), 0, cnt, c.1, c.2, [], times c) = some (worthN c cnt cnt.length, cnt, c.1, c.2, [], times c) := by
  have h2 := valid_len hv
  have hl := h.1
  refine while_run cnt.length (fun k => (worthN c cnt k, (cnt.length : Int), (k : Int), cnt, c.1, c.2, [], times c)) _ (fun k hk => ?_) ?_ (by omega)
  · have hk' : k < c.2.length := by omega
    have ht : inR (k : Int) (times c).length = true := inR_nat (by rw [times, List.length_map]; exact hk')
    simp only [p13_2, q13_2, lt_nat_t hk, cond_true, inR_nat hk, ht, chk_t, times_get hk', worth_fits hv h hk', fits_nat (show k < 9223372036854775807 by omega), cast_succ]
    rfl
  · simp only [p13_2, q13_2, lt_nat_f, cond_false]
theorem L39_2_eq (hv : valid c = true) {cnt : List Int} {B : Nat} (h : Bd cnt c.2.length B) : L39_2 (0, 0, c, cnt) = some (worthN c cnt cnt.length, c, cnt) := by
  have h2 := valid_len hv
  have hl := h.1
  refine while_run cnt.length (fun k => (worthN c cnt k, (k : Int), c, cnt)) _ (fun k hk => ?_) ?_ (by omega)
  · have hk' : k < c.2.length := by omega
    have hg : ix c.2 (k : Int) = prm c k := ix_nat _ _
    simp only [p39_2, q39_2, lt_nat_t hk, cond_true, inR_nat hk, inR_nat hk', hg, chk_t, worth_fits hv h hk', fits_nat (show k < 9223372036854775807 by omega), cast_succ]
    rfl
  · simp only [p39_2, q39_2, lt_nat_f, cond_false]

def countsR (c : Cmp) (plan : List (List Int)) : Int × Int × List Int := cond (valid c) (cond (planOk c plan) (worthN c (cntOf c plan) (cntOf c plan).length, 0, cntOf c plan) (0, 71, [])) (0, 70, [])

theorem rows_in (h : planOk c plan = true) (hr : ∀ i, i < plan.length → (row plan i).length ≤ 40) : ∀ i, i < plan.length → rowIn (row plan i) c.2.length ∧ (row plan i).length ≤ 40 := fun i hi => ⟨plan_row h hi, hr i hi⟩
theorem cnt_Bd (h : planOk c plan = true) (hr : ∀ i, i < plan.length → (row plan i).length ≤ 40) : Bd (cntOf c plan) c.2.length (40 * plan.length) := (zer_Bd c).planN (rows_in h hr) plan.length (Nat.le_refl _)

theorem P13_eq (hp : plan.length ≤ 40) (hr : ∀ i, i < plan.length → (row plan i).length ≤ 40) : P13 (c, plan) = some (countsR c plan) := by
  cases hv : valid c with
  | false => simp only [P13, p13, q13, P11_eq, hv, countsR, bind_some', cond_false]; rfl
  | true =>
    have h2 := valid_len hv
    have e38 := P38_eq c plan (times c) (by omega) (fun i hi => by have := hr i hi; omega) (by omega)
    have d0 : (!decide ((0 : Int) = 0)) = false := rfl
    cases hpl : planOk c plan with
    | false => simp only [P13, p13, q13, P11_eq, hv, countsR, bind_some', cond_true, d0, cond_false, P37_eq c (by omega), e38, hpl, Bool.not_false]; rfl
    | true =>
      have t1 : decide ((0 : Int) ≤ (c.2.length : Int)) = true := by simp
      have t2 : decide ((8 : Int) * (c.2.length : Int) ≤ 140737488355328) = true := by simp; omega
      have t3 : (repl (Int.toNat (c.2.length : Int)) (0 : Int)) = zer c := by simp [repl, zer]
      have e0 := L13_0_eq (c := c) 0 (times c) (zer_Bd c) hp (rows_in hpl hr)
      have e1 := L13_2_eq hv (cnt_Bd hpl hr)
      simp only [P13, p13, q13, P11_eq, hv, countsR, bind_some', cond_true, d0, cond_false, P37_eq c (by omega), e38, hpl, Bool.not_true, t1, t2, t3, chk_t, e0]
      simp only [show planN plan plan.length (zer c) = cntOf c plan from rfl, e1, bind_some']; rfl
theorem P14_eq (hp : plan.length ≤ 40) (hr : ∀ i, i < plan.length → (row plan i).length ≤ 40) : P14 (c, plan) = some (countsR c plan) := by
  cases hv : valid c with
  | false => simp only [P14, p14, q14, P12_eq, hv, countsR, bind_some', cond_false]; rfl
  | true =>
    have h2 := valid_len hv
    have e30 := P30_eq c plan (by omega) (fun i hi => by have := hr i hi; omega) (by omega)
    have d0 : (!decide ((0 : Int) = 0)) = false := rfl
    cases hpl : planOk c plan with
    | false => simp only [P14, p14, q14, P12_eq, hv, countsR, bind_some', cond_true, d0, cond_false, e30, hpl, Bool.not_false]; rfl
    | true =>
      have t1 : decide ((0 : Int) ≤ (c.2.length : Int)) = true := by simp
      have t2 : decide ((8 : Int) * (c.2.length : Int) ≤ 140737488355328) = true := by simp; omega
      have t3 : (repl (Int.toNat (c.2.length : Int)) (0 : Int)) = zer c := by simp [repl, zer]
      have e0 := L39_0_eq (c := c) (zer_Bd c) hp (rows_in hpl hr)
      have e1 := L39_2_eq hv (cnt_Bd hpl hr)
      simp only [P14, p14, q14, P12_eq, hv, countsR, bind_some', cond_true, d0, cond_false, e30, hpl, Bool.not_true, P39, p39, q39, t1, t2, t3, chk_t, e0]
      simp only [show planN plan plan.length (zer c) = cntOf c plan from rfl, e1, bind_some']; rfl
end

theorem P15_refl (l : List Int) (h : l.length < 1000000000) : P15 (l, l) = some true := by
  have e : L15_0 (l, l, 0) = some (.inr ()) := by
    refine while_run l.length (fun k => (l, l, (k : Int))) _ (fun k hk => ?_) ?_ (by omega)
    · simp only [p15_0, q15_0, lt_nat_t hk, cond_true, inR_nat hk, chk_t, decide_true, Bool.not_true, cond_false, fits_nat (show k < 9223372036854775807 by omega), cast_succ]
    · simp only [p15_0, q15_0, lt_nat_f, cond_false]
  simp only [P15, p15, q15, decide_true, Bool.not_true, cond_false, e, bind_some', elim_inr]
theorem works : P9 () = some true := by kernel_rfl
theorem P10_eq (c : Cmp) (h1 : c.1.length ≤ 40) (h2 : c.2.length ≤ 40) : P10 c = some c := by
  simp only [P10, p10, q10, capOk_of (show 24 * c.1.length ≤ 140737488355328 by omega), capOk_of (show 48 * c.2.length ≤ 140737488355328 by omega), chk_t]

theorem Pure.PromiseCounts (c : Cmp) (_ : Wf (.pair (.sl (.pair (.int .i64) (.pair (.int .i64) (.int .i64)))) (.sl (.pair (.int .i64) (.pair (.int .i64) (.pair (.int .i64) (.pair (.int .i64) (.pair (.int .i64) (.int .i64)))))))) c)
    (plan : List (List Int)) (_ : Wf (.sl (.sl (.int .i64))) plan) : P3 (c, plan) = some true := by
  by_cases h1 : c.1.length ≤ 40
  rotate_left
  · have h : decide ((40 : Int) < (c.1.length : Int)) = true := by simp; omega
    simp only [P3, p3, q3, h, cond_true, works, bind_some']
  have d1 : decide ((40 : Int) < (c.1.length : Int)) = false := by simp; omega
  by_cases h2 : c.2.length ≤ 40
  rotate_left
  · have h : decide ((40 : Int) < (c.2.length : Int)) = true := by simp; omega
    simp only [P3, p3, q3, d1, h, cond_true, cond_false, works, bind_some']
  have d2 : decide ((40 : Int) < (c.2.length : Int)) = false := by simp; omega
  by_cases h3 : plan.length ≤ 40
  rotate_left
  · have h : decide ((40 : Int) < (plan.length : Int)) = true := by simp; omega
    simp only [P3, p3, q3, d1, d2, h, cond_true, cond_false, works, bind_some']
  have d3 : decide ((40 : Int) < (plan.length : Int)) = false := by simp; omega
  have e0 : L3_0 (plan, 0, c, []) = some (cond (allB plan.length fun k => !decide ((40 : Int) < ((row plan k).length : Int))) (.inr (plan, c, plan)) (.inl (true, c))) := by
    refine Eq.trans (while_all plan.length (fun k => (plan, (k : Int), c, plan.take k)) (fun k => !decide ((40 : Int) < ((row plan k).length : Int))) (.inl (true, c)) (.inr (plan, c, plan)) (fun k hk => ?_) ?_ (by omega)) rfl
    · have hrow : ix plan (k : Int) = row plan k := ix_nat _ _
      simp only [p3_0, q3_0, lt_nat_t hk, cond_true, inR_nat hk, chk_t, hrow, works, bind_some', fits_nat (show k < 9223372036854775807 by omega), cast_succ]
      cases hd : decide ((40 : Int) < ((row plan k).length : Int)) with
      | true => rfl
      | false =>
        have hd' : (row plan k).length ≤ 40 := by simp at hd; omega
        have c1 : capOk 8 (List.length ([] : List Int) + (row plan k).length) = true := capOk_of (by simp; omega)
        have c2 : capOk 24 ((plan.take k).length + List.length [row plan k]) = true := capOk_of (by simp; omega)
        simp only [cond_false, c1, List.nil_append, c2, chk_t, Bool.not_false, cond_true]
        rw [take_succ_getD plan default hk]; rfl
    · simp only [p3_0, q3_0, lt_nat_f, cond_false]
      rw [List.take_of_length_le (Nat.le_refl _)]
  simp only [P3, p3, q3, d1, d2, d3, cond_false, e0, bind_some']
  cases ha : (allB plan.length fun k => !decide ((40 : Int) < ((row plan k).length : Int))) with
  | false => rfl
  | true =>
    have hr : ∀ i, i < plan.length → (row plan i).length ≤ 40 := fun i hi => by
      have := allB_true.1 ha i hi
      simp at this; omega
    have e1 : ∀ x1 x2 x3 x4 : Int, ∀ l1 l2 : List Int, L3_1 (plan, x1, x2, x3, x4, 0, plan, l1, l2) = some (.inr (x1, x2, x3, x4, plan, l1, l2)) := fun x1 x2 x3 x4 l1 l2 => by
      refine while_run plan.length (fun k => (plan, x1, x2, x3, x4, (k : Int), plan, l1, l2)) _ (fun k hk => ?_) ?_ (by omega)
      · have hrow : ix plan (k : Int) = row plan k := ix_nat _ _
        simp only [p3_1, q3_1, lt_nat_t hk, cond_true, inR_nat hk, chk_t, hrow, P15_refl _ (show (row plan k).length < 1000000000 by have := hr k hk; omega), bind_some', Bool.not_true, cond_false, fits_nat (show k < 9223372036854775807 by omega), cast_succ]
      · simp only [p3_1, q3_1, lt_nat_f, cond_false]
    have hlen : (countsR c plan).2.2.length < 1000000000 := by
      unfold countsR
      cases hv : valid c with
      | false => simp
      | true =>
        cases hpl : planOk c plan with
        | false => simp
        | true =>
          have := (cnt_Bd hpl hr).1
          simp only [cond_true, this]; omega
    simp only [cond_true, elim_inr, P10_eq c h1 h2, P11_eq, P12_eq, bind_some', decide_true, Bool.not_true, cond_false, P13_eq h3 hr, P14_eq h3 hr, e1, P15_refl _ hlen, decide_true, works]
end Go.Proofs.Ytjoncejabdjekaa.D
