/- promise: reports, as the program and the reference check them. -/
import Derived.Test.YtjoncejabdjekaaS6
set_option linter.unusedVariables false
set_option linter.unusedSimpArgs false
namespace Go.Proofs.Ytjoncejabdjekaa.D
open Go Go.Proofs Go.Proofs.Ytjoncejabdjekaa.L

/-! ### Maps -/
theorem kget_nil {α : Type} (k : List Int) : kget ([] : List (List Int × α)) k = none := rfl
theorem kget_kput {α : Type} : ∀ (m : List (List Int × α)) (k : List Int) (v : α) (q : List Int), kget (kput m k v) q = if q = k then some v else kget m q
  | [], k, v, q => by
    by_cases h : q = k
    · subst h; simp [kput, kget]
    · simp [kput, kget, h, Ne.symm h]
  | (a, u) :: m, k, v, q => by
    have ih := kget_kput m k v q
    by_cases e : a = k
    · subst e
      by_cases h : q = a
      · subst h; simp [kput, kget]
      · simp [kput, kget, h, Ne.symm h]
    · by_cases h : a = q
      · subst h; simp [kput, kget, e]
      · simp only [kput, if_neg e, kget, List.find?_cons, h, decide_false] at ih ⊢
        exact ih
theorem dof_kput (m : List (List Int × Int)) (k : List Int) (v : Int) (q : List Int) : dof (kget (kput m k v) q) 0 = if q = k then v else dof (kget m q) 0 := by
  rw [kget_kput]; split <;> rfl

abbrev Ran := Int × Int × Int
def ran (l : List Ran) (k : Nat) : Ran := l.getD k default
def okR (ns : Nat) (r : Ran) : Bool := wi r.1 0 99 && (wi r.2.1 0 ((ns : Int) - 1) && wi r.2.2 0 99)
def sameR (a b : Ran) : Bool := (decide (a.1 = b.1) && decide (a.2.1 = b.2.1)) && decide (a.2.2 = b.2.2)
theorem sameR_iff {a b : Ran} : sameR a b = true ↔ a = b := by
  simp only [sameR, Bool.and_eq_true, decide_eq_true_eq]
  constructor
  · rintro ⟨⟨h1, h2⟩, h3⟩; exact Prod.ext h1 (Prod.ext h2 h3)
  · rintro rfl; exact ⟨⟨rfl, rfl⟩, rfl⟩
/-- Report i does not contradict one before it. -/
def oneId (l : List Ran) (i : Nat) : Bool := allB i fun k => !decide ((ran l k).1 = (ran l i).1) || sameR (ran l k) (ran l i)
def repB (ns : Nat) (l : List Ran) : Bool := decide (l.length ≤ 30) && allB l.length fun i => okR ns (ran l i) && oneId l i

theorem P23_eq (c : Cmp) (l : List Ran) (hc : c.1.length < 1000000) : P23 (c, l) = some (cond (repB c.1.length l) 0 72) := by
  by_cases h1 : l.length ≤ 30
  rotate_left
  · have h : decide ((30 : Int) < (l.length : Int)) = true := by simp; omega
    have h2 : decide (l.length ≤ 30) = false := by simp; omega
    simp only [P23, p23, q23, h, cond_true, repB, h2, Bool.false_and, cond_false]
  have d1 : decide ((30 : Int) < (l.length : Int)) = false := by simp; omega
  have t1 : decide (l.length ≤ 30) = true := by simp [h1]
  have f1 : fits .i64 ((c.1.length : Int) - 1) = true := fits_of (by omega) (by omega)
  have e0 : L23_0 (l, 0, c) = some (cond (allB l.length fun i => okR c.1.length (ran l i) && oneId l i) (.inr c) (.inl (72, c))) := by
    refine while_all l.length (fun k => (l, (k : Int), c)) (fun i => okR c.1.length (ran l i) && oneId l i) _ _ (fun k hk => ?_) ?_ (by omega)
    · have hg : ∀ j : Nat, ix l (j : Int) = ran l j := fun j => ix_nat _ _
      have f3 := fits_nat (show k < 9223372036854775807 by omega)
      have e1 : ∀ b1 b2, L23_1 (l, (k : Int), 0, b1, b2, c) = some (cond (oneId l k) (.inr (l, (k : Int), b1, b2, c)) (.inl (72, c))) := fun b1 b2 => by
        refine while_all k (fun i => (l, (k : Int), (i : Int), b1, b2, c)) (fun i => !decide ((ran l i).1 = (ran l k).1) || sameR (ran l i) (ran l k)) _ _ (fun i hi => ?_) ?_ (by omega)
        · have f4 := fits_nat (show i < 9223372036854775807 by omega)
          have hs : ((decide ((ran l i).1 = (ran l k).1) && decide ((ran l i).2.1 = (ran l k).2.1)) && decide ((ran l i).2.2 = (ran l k).2.2)) = sameR (ran l i) (ran l k) := rfl
          simp only [p23_1, q23_1, lt_nat_t hi, cond_true, inR_nat (Nat.lt_trans hi hk), inR_nat hk, chk_t, hg, f4, cast_succ, hs]
          cases decide ((ran l i).1 = (ran l k).1) <;> cases sameR (ran l i) (ran l k) <;> rfl
        · simp only [p23_1, q23_1, lt_nat_f, cond_false]
      simp only [p23_0, q23_0, lt_nat_t hk, cond_true, inR_nat hk, chk_t, hg, P36_eq, bind_some', f1, e1, okR, cast_succ]
      cases wi (ran l k).1 0 99 <;> cases wi (ran l k).2.1 0 ((c.1.length : Int) - 1) <;> cases wi (ran l k).2.2 0 99 <;> cases oneId l k <;>
        first | rfl | simp only [cond_true, cond_false, Bool.not_true, Bool.not_false, Bool.and_self, elim_inr, f3, chk_t]
    · simp only [p23_0, q23_0, lt_nat_f, cond_false]
  simp only [P23, p23, q23, d1, cond_false, e0, bind_some', repB, t1, Bool.true_and]
  cases (allB l.length fun i => okR c.1.length (ran l i) && oneId l i) <;> rfl

/-- What the program knows after k reports. -/
def knownN (l : List Ran) (k : Nat) : List (List Int × Ran) := foldN (fun i m => kput m [(ran l i).1] (ran l i)) k []
theorem known_get (l : List Ran) (q : Int) : ∀ k, (kget (knownN l k) [q] = none ∧ ∀ j, j < k → (ran l j).1 ≠ q) ∨ ∃ j, j < k ∧ (ran l j).1 = q ∧ kget (knownN l k) [q] = some (ran l j)
  | 0 => .inl ⟨rfl, fun j hj => by omega⟩
  | k + 1 => by
    have e : knownN l (k + 1) = kput (knownN l k) [(ran l k).1] (ran l k) := rfl
    rw [e, kget_kput]
    by_cases h : q = (ran l k).1
    · exact .inr ⟨k, by omega, h.symm, by simp [h]⟩
    · have h' : ¬ [q] = [(ran l k).1] := by simpa using h
      rw [if_neg h']
      rcases known_get l q k with ⟨h1, h2⟩ | ⟨j, h1, h2, h3⟩
      · refine .inl ⟨h1, fun j hj => ?_⟩
        by_cases hjk : j = k
        · rw [hjk]; exact fun h2 => h h2.symm
        · exact h2 j (by omega)
      · exact .inr ⟨j, by omega, h2, h3⟩
theorem oneId_iff {l : List Ran} {i : Nat} : oneId l i = true ↔ ∀ k, k < i → (ran l k).1 = (ran l i).1 → ran l k = ran l i := by
  simp only [oneId, allB_true]
  constructor
  · intro h k hk e
    have := h k hk
    simp [e] at this
    exact sameR_iff.1 this
  · intro h k hk
    by_cases e : (ran l k).1 = (ran l i).1
    · rw [h k hk e]; simp [sameR]
    · simp [e]
/-- Whether the known report with this number is another one. -/
def clash (l : List Ran) (k : Nat) : Bool := (kget (knownN l k) [(ran l k).1]).isSome && !sameR (dof (kget (knownN l k) [(ran l k).1]) (0, 0, 0)) (ran l k)
theorem clash_eq {l : List Ran} {k : Nat} (hp : ∀ i, i < k → oneId l i = true) : clash l k = !oneId l k := by
  unfold clash
  rcases known_get l (ran l k).1 k with ⟨h1, h2⟩ | ⟨j, h1, h2, h3⟩
  · rw [h1]
    have : oneId l k = true := oneId_iff.2 fun i hi e => absurd e (h2 i hi)
    rw [this]; rfl
  · rw [h3]
    show (true && !sameR (ran l j) (ran l k)) = _
    rw [Bool.true_and]
    congr 1
    rw [Bool.eq_iff_iff, sameR_iff, oneId_iff]
    constructor
    · intro e i hi ei
      rcases Nat.lt_trichotomy i j with h | h | h
      · rw [← e]; exact oneId_iff.1 (hp j h1) i h (by rw [ei, e])
      · rw [h]; exact e
      · rw [← e]; exact (oneId_iff.1 (hp i hi) j h (by rw [ei, ← h2])).symm
    · intro h; exact h j h1 h2

theorem P40_eq (c : Cmp) (l : List Ran) : P40 (c, l) = some (cond (valid c) (cond (repB c.1.length l) 0 72) 70) := by
  cases hv : valid c with
  | false => simp only [P40, p40, q40, P11_eq, hv, bind_some', cond_false]; rfl
  | true =>
  have hc := valid_len hv
  by_cases h1 : l.length ≤ 30
  rotate_left
  · have h : decide ((30 : Int) < (l.length : Int)) = true := by simp; omega
    have h2 : decide (l.length ≤ 30) = false := by simp; omega
    simp only [P40, p40, q40, P11_eq, hv, bind_some', decide_true, Bool.not_true, h, cond_true, repB, h2, Bool.false_and, cond_false]
  have d1 : decide ((30 : Int) < (l.length : Int)) = false := by simp; omega
  have t1 : decide (l.length ≤ 30) = true := by simp [h1]
  have f1 : fits .i64 ((c.1.length : Int) - 1) = true := fits_of (by omega) (by omega)
  have e0 : ∃ m1 m2, L40_0 (l, (l.length : Int), 0, c, []) = some (cond (allB l.length fun i => okR c.1.length (ran l i) && oneId l i) (.inr (c, m1)) (.inl (72, c, m2))) := by
    cases ha : (allB l.length fun i => okR c.1.length (ran l i) && oneId l i) with
    | true =>
      have hall := allB_true.1 ha
      refine ⟨knownN l l.length, [], while_run l.length (fun k => (l, (l.length : Int), (k : Int), c, knownN l k)) _ (fun k hk => ?_) ?_ (by omega)⟩
      · have hok := hall k hk
        simp only [Bool.and_eq_true] at hok
        have hcl : clash l k = false := by rw [clash_eq fun i hi => by have := hall i (by omega); simp only [Bool.and_eq_true] at this; exact this.2, hok.2]; rfl
        have hg : ∀ j : Nat, ix l (j : Int) = ran l j := fun j => ix_nat _ _
        have hR := hok.1
        simp only [okR, Bool.and_eq_true] at hR
        have f3 := fits_nat (show k < 9223372036854775807 by omega)
        have hs : ∀ a b : Ran, ((decide (a.1 = b.1) && decide (a.2.1 = b.2.1)) && decide (a.2.2 = b.2.2)) = sameR a b := fun _ _ => rfl
        simp only [p40_0, q40_0, lt_nat_t hk, cond_true, inR_nat hk, chk_t, hg, hs, P32_eq, bind_some', f1, hR.1, hR.2.1, hR.2.2, Bool.not_true, cond_false, f3, cast_succ]
        unfold clash at hcl
        revert hcl
        cases (kget (knownN l k) [(ran l k).1]).isSome with
        | false => intro _; rfl
        | true =>
          cases sameR (dof (kget (knownN l k) [(ran l k).1]) (0, 0, 0)) (ran l k) with
          | true => intro _; rfl
          | false => intro h; simp at h
      · simp only [p40_0, q40_0, lt_nat_f, cond_false]; rfl
    | false =>
      obtain ⟨k, hk, hf, ht⟩ := allB_false ha
      have hid : ∀ i, i < k → oneId l i = true := fun i hi => by have := ht i hi; simp only [Bool.and_eq_true] at this; exact this.2
      have hs : ∀ a b : Ran, ((decide (a.1 = b.1) && decide (a.2.1 = b.2.1)) && decide (a.2.2 = b.2.2)) = sameR a b := fun _ _ => rfl
      have hg : ∀ j : Nat, ix l (j : Int) = ran l j := fun j => ix_nat _ _
      refine ⟨[], knownN l k, while_run k (fun k => (l, (l.length : Int), (k : Int), c, knownN l k)) _ (fun k' hk' => ?_) ?_ (by omega)⟩
      · have hok := ht k' hk'
        simp only [Bool.and_eq_true] at hok
        have hcl : clash l k' = false := by rw [clash_eq fun i hi => hid i (by omega), hok.2]; rfl
        have hR := hok.1
        simp only [okR, Bool.and_eq_true] at hR
        have f3 := fits_nat (show k' < 9223372036854775807 by omega)
        simp only [p40_0, q40_0, lt_nat_t (show k' < l.length by omega), cond_true, inR_nat (show k' < l.length by omega), chk_t, hg, hs, P32_eq, bind_some', f1, hR.1, hR.2.1, hR.2.2, Bool.not_true, cond_false, f3, cast_succ]
        unfold clash at hcl
        revert hcl
        cases (kget (knownN l k') [(ran l k').1]).isSome with
        | false => intro _; rfl
        | true =>
          cases sameR (dof (kget (knownN l k') [(ran l k').1]) (0, 0, 0)) (ran l k') with
          | true => intro _; rfl
          | false => intro h; simp at h
      · have hcl := clash_eq hid
        have f3 := fits_nat (show k < 9223372036854775807 by omega)
        simp only [p40_0, q40_0, lt_nat_t hk, cond_true, inR_nat hk, chk_t, hg, hs, P32_eq, bind_some', f1, f3]
        unfold clash at hcl
        simp only [okR] at hf
        revert hcl hf
        cases oneId l k <;> cases (kget (knownN l k) [(ran l k).1]).isSome <;> cases sameR (dof (kget (knownN l k) [(ran l k).1]) (0, 0, 0)) (ran l k) <;> cases wi (ran l k).1 0 99 <;> cases wi (ran l k).2.2 0 99 <;> cases wi (ran l k).2.1 0 ((c.1.length : Int) - 1) <;> simp
  obtain ⟨m1, m2, e0⟩ := e0
  simp only [P40, p40, q40, P11_eq, hv, bind_some', decide_true, Bool.not_true, cond_true, cond_false, d1, e0, repB, t1, Bool.true_and]
  cases (allB l.length fun i => okR c.1.length (ran l i) && oneId l i) <;> rfl

/-- The same of a set of reports. -/
structure RepOk (ns : Nat) (l : List Ran) : Prop where
  len : l.length ≤ 30
  ok : ∀ r ∈ l, okR ns r = true
  id : ∀ r ∈ l, ∀ q ∈ l, r.1 = q.1 → r = q
theorem ran_mem {l : List Ran} {k : Nat} (h : k < l.length) : ran l k ∈ l := by rw [ran, getD_lt l _ h]; exact List.getElem_mem h
theorem mem_ran {l : List Ran} {r : Ran} (h : r ∈ l) : ∃ k, k < l.length ∧ ran l k = r := by
  obtain ⟨k, hk, e⟩ := List.mem_iff_getElem.1 h
  exact ⟨k, hk, by rw [ran, getD_lt l _ hk]; exact e⟩
theorem repB_iff {ns : Nat} {l : List Ran} : repB ns l = true ↔ RepOk ns l := by
  simp only [repB, Bool.and_eq_true, decide_eq_true_eq, allB_true, oneId_iff]
  constructor
  · rintro ⟨h1, h2⟩
    refine ⟨h1, fun r hr => ?_, fun r hr q hq e => ?_⟩
    · obtain ⟨k, hk, rfl⟩ := mem_ran hr; exact (h2 k hk).1
    · obtain ⟨k, hk, rfl⟩ := mem_ran hr
      obtain ⟨j, hj, rfl⟩ := mem_ran hq
      rcases Nat.lt_trichotomy k j with h | h | h
      · exact (h2 j hj).2 k h e
      · rw [h]
      · exact ((h2 k hk).2 j h e.symm).symm
  · rintro ⟨h1, h2, h3⟩
    exact ⟨h1, fun i hi => ⟨h2 _ (ran_mem hi), fun k hk e => h3 _ (ran_mem (by omega)) _ (ran_mem hi) e⟩⟩
theorem RepOk.of_mem {ns : Nat} {l l' : List Ran} (h : RepOk ns l) (hl : l'.length ≤ 30) (hm : ∀ r, r ∈ l' → r ∈ l) : RepOk ns l' := ⟨hl, fun r hr => h.ok r (hm r hr), fun r hr q hq e => h.id r (hm r hr) q (hm q hq) e⟩
end Go.Proofs.Ytjoncejabdjekaa.D
