/- promise: what Still of the program comes to. -/
import Derived.Test.YtjoncejabdjekaaS9
set_option linter.unusedVariables false
set_option linter.unusedSimpArgs false
namespace Go.Proofs.Ytjoncejabdjekaa.D
open Go Go.Proofs Go.Proofs.Ytjoncejabdjekaa.L

theorem P44_eq (s : List Shw) (h : s.length < 1000000) : P44 s = some s := by
  have f : capOk 24 (List.length ([] : List Shw) + s.length) = true := capOk_of (by simp; omega)
  simp only [P44, p44, q44, f, chk_t, List.nil_append]
  cases hd : decide (s.length = 0) with
  | false => rfl
  | true =>
    have : s = [] := List.length_eq_zero_iff.1 (of_decide_eq_true hd)
    rw [this]; simp [bisn]

/-- Showings before a day have no room. -/
def lateN (day : Int) (k : Nat) (s : List Shw) : List Shw := foldN (fun i s => cond (decide ((ix s i).1 < day)) (s.set i ((ix s i).1, (ix s i).2.1, 0)) s) k s
def late1 (day : Int) (s : Shw) : Shw := cond (decide (s.1 < day)) (s.1, s.2.1, 0) s
theorem lateN_at (day : Int) (s : List Shw) : ∀ k, k ≤ s.length → (lateN day k s).length = s.length ∧ ∀ j, j < s.length → (lateN day k s).getD j default = if j < k then late1 day (s.getD j default) else s.getD j default
  | 0, _ => ⟨rfl, fun j hj => rfl⟩
  | k + 1, hk => by
    obtain ⟨h1, h2⟩ := lateN_at day s k (by omega)
    have e : lateN day (k + 1) s = cond (decide ((ix (lateN day k s) k).1 < day)) ((lateN day k s).set k ((ix (lateN day k s) k).1, (ix (lateN day k s) k).2.1, 0)) (lateN day k s) := rfl
    have hk' := h2 k (by omega)
    rw [if_neg (Nat.lt_irrefl k)] at hk'
    rw [e, ix_nat, hk']
    cases hd : decide ((s.getD k default).1 < day) with
    | false =>
      refine ⟨h1, fun j hj => ?_⟩
      rw [cond_false, h2 j hj]
      by_cases ej : j = k
      · subst ej
        rw [if_neg (Nat.lt_irrefl j), if_pos (Nat.lt_succ_self j)]
        unfold late1; rw [hd]; rfl
      · by_cases hjk : j < k
        · rw [if_pos hjk, if_pos (by omega)]
        · rw [if_neg hjk, if_neg (by omega)]
    | true =>
      refine ⟨by rw [cond_true, List.length_set]; exact h1, fun j hj => ?_⟩
      rw [cond_true, getD_set _ _ _ _ _ (by rw [h1]; exact hj)]
      by_cases ej : j = k
      · subst ej
        rw [if_pos rfl, if_pos (Nat.lt_succ_self j)]
        unfold late1; rw [hd]; rfl
      · rw [if_neg ej, h2 j hj]
        by_cases hjk : j < k
        · rw [if_pos hjk, if_pos (by omega)]
        · rw [if_neg hjk, if_neg (by omega)]
def lateC (day : Int) (c : Cmp) : Cmp := (lateN day c.1.length c.1, c.2)
theorem lateC_len (day : Int) (c : Cmp) : (lateC day c).1.length = c.1.length := (lateN_at day c.1 _ (Nat.le_refl _)).1
theorem lateC_at (day : Int) (c : Cmp) {k : Nat} (hk : k < c.1.length) : ix (lateC day c).1 (k : Int) = late1 day (shw c k) := by
  have := (lateN_at day c.1 _ (Nat.le_refl _)).2 k hk
  rw [if_pos hk] at this
  rw [ix_nat]; exact this

set_option maxRecDepth 20000
section
variable {c : Cmp} {l : List Ran}
theorem late_good (hv : valid c = true) {m : Nat} {ex : Int} {seen done : DoneM} {w : List Int} (h : OweI c l m ex seen done w) (day : Int) : Good (lateC day c) w := by
  have hl := valid_len hv
  refine ⟨by rw [lateC_len]; exact hl.1, hl.2, by rw [h.wl]; exact hl.2, fun i hi => ?_, fun k hk => ?_⟩
  · rw [h.wl] at hi
    have h1 := wantB_bd (l := l) hv m hi
    have h2 := valid_times hv hi
    rw [h.wa i hi]; omega
  · rw [lateC_len] at hk
    rw [lateC_at day c hk]
    have := valid_shw hv hk
    simp only [okS, Bool.and_eq_true, wi_iff] at this
    unfold late1
    cases decide ((shw c k).1 < day) with
    | true => simp
    | false => exact this.2.2

theorem P19_eq (hv : valid c = true) (hr : RepOk c.1.length l) (day : Int) (hd : 0 ≤ day ∧ day ≤ 99) : ∃ ex seen done w, P19 (c, l, day) = some (leastB (lateC day c) done w, 0) ∧ OweI c l l.length ex seen done w := by
  have hl := valid_len hv
  obtain ⟨ex, seen, done, w, h41, hI⟩ := P41_eq hv hr
  refine ⟨ex, seen, done, w, ?_, hI⟩
  have e0 : L19_0 (day, (c.1.length : Int), 0, c.2, c.1, done, w) = some (c.2, lateN day c.1.length c.1, done, w) := by
    refine while_run c.1.length (fun k => (day, (c.1.length : Int), (k : Int), c.2, lateN day k c.1, done, w)) _ (fun k hk => ?_) ?_ (by omega)
    · have hlen := (lateN_at day c.1 k (by omega)).1
      have hin : inR (k : Int) (lateN day k c.1).length = true := inR_nat (by rw [hlen]; exact hk)
      have e : lateN day (k + 1) c.1 = cond (decide ((ix (lateN day k c.1) k).1 < day)) ((lateN day k c.1).set k ((ix (lateN day k c.1) k).1, (ix (lateN day k c.1) k).2.1, 0)) (lateN day k c.1) := rfl
      simp only [p19_0, q19_0, lt_nat_t hk, cond_true, hin, chk_t, fits_nat (show k < 9223372036854775807 by omega), cast_succ, e, Int.toNat_natCast]
      cases decide ((ix (lateN day k c.1) k).1 < day) <;> rfl
    · simp only [p19_0, q19_0, lt_nat_f, cond_false]
  have hr' := repB_iff.2 hr
  have hw : wi day 0 99 = true := wi_iff.2 hd
  have h45 := P45_eq (d := done) (late_good hv hI day)
  simp only [P19, p19, q19, P40_eq, hv, hr', cond_true, bind_some', decide_true, Bool.not_true, cond_false, P32_eq, hw, h41, P44_eq c.1 (by omega), e0]
  have : (((lateN day c.1.length c.1, c.2, done, w) : List Shw × List Prm × DoneM × List Int)) = ((lateC day c).1, (lateC day c).2, done, w) := rfl
  rw [this, h45]; rfl
theorem P17_eq (hv : valid c = true) (hr : RepOk c.1.length l) : ∃ seen done w, P17 (c, l) = some (extraB c l l.length, 0, w) ∧ OweI c l l.length (extraB c l l.length) seen done w := by
  obtain ⟨ex, seen, done, w, h41, hI⟩ := P41_eq hv hr
  have hr' := repB_iff.2 hr
  have he := hI.ex
  subst he
  refine ⟨seen, done, w, ?_, hI⟩
  simp only [P17, p17, q17, P40_eq, hv, hr', cond_true, bind_some', decide_true, Bool.not_true, cond_false, h41]

theorem P24_eq (w : List Int) (hw : ∀ i, i < w.length → 0 ≤ ix w (i : Int) ∧ ix w (i : Int) ≤ 8) (hl : w.length < 1000000) : P24 w = some (sumN w.length fun i => ix w (i : Nat)) := by
  have e : L24_0 (w, 0, 0) = some (sumN w.length fun i => ix w (i : Nat)) := by
    refine while_run w.length (fun k => (w, sumN k (fun i => ix w (i : Nat)), (k : Int))) _ (fun k hk => ?_) ?_ (by omega)
    · have h1 := sumN_bd (f := fun i => ix w (i : Nat)) (a := 0) (b := 8) (n := k) (fun i hi => hw i (by omega))
      have h2 := hw k hk
      have f1 : fits .i64 (sumN k (fun i => ix w (i : Nat)) + ix w (k : Int)) = true := fits_of (by omega) (by omega)
      simp only [p24_0, q24_0, lt_nat_t hk, cond_true, inR_nat hk, chk_t, f1, fits_nat (show k < 9223372036854775807 by omega), cast_succ, sumN_succ]
    · simp only [p24_0, q24_0, lt_nat_f, cond_false]
  simp only [P24, p24, q24, e, bind_some']

/-! ### Least bounds compared -/
theorem least_mono {c1 c2 : Cmp} {d1 d2 : DoneM} {w1 w2 : List Int} (hs : setsN c1 = setsN c2) (h : ∀ x : Nat, x < setsN c2 → bndB c1 d1 w1 x ≤ bndB c2 d2 w2 x) : leastB c1 d1 w1 ≤ leastB c2 d2 w2 := by
  obtain ⟨k, hk, e⟩ := least_is (c := c2) (d := d2) (w := w2)
  have h1 := least_le (c := c1) (d := d1) (w := w1) (k := k) (by rw [hs]; exact hk)
  have h2 := h k hk
  omega
theorem bnd_late {c : Cmp} (day day' : Int) (hdd : day ≤ day') {d d' : DoneM} {w w' : List Int} (hw : w = w') (hroom : ∀ k, k < c.1.length → 0 ≤ (shw c k).2.2)
    (hd : ∀ i k : Nat, i < c.2.length → k < c.1.length → dof (kget d [(i : Int), (k : Int)]) 0 = dof (kget d' [(i : Int), (k : Int)]) 0) (x : Int) : bndB (lateC day' c) d' w' x ≤ bndB (lateC day c) d w x := by
  subst hw
  unfold bndB
  rw [lateC_len, lateC_len]
  refine Int.add_le_add_left (sumN_le fun k hk => ?_) _
  have hpl : places (lateC day' c) d' x k (lateC day' c).2.length = places (lateC day c) d x k (lateC day c).2.length := by
    refine sumN_congr fun i hi => ?_
    have hi' : i < c.2.length := hi
    have : fitsB (lateC day' c) d' i k = fitsB (lateC day c) d i k := by
      unfold fitsB
      rw [hd i k hi' hk, lateC_at _ c hk, lateC_at _ c hk]
      have e2 : ∀ (D : Int), (lateC D c).2 = c.2 := fun _ => rfl
      have e3 : ∀ (D : Int) (p : Prm), fitP p (late1 D (shw c k)) = fitP p (shw c k) := fun D p => by
        unfold late1; cases decide ((shw c k).1 < D) <;> rfl
      rw [e2, e2, e3, e3]
    rw [this]
  show min (ix (lateC day' c).1 (k : Int)).2.2 _ ≤ min (ix (lateC day c).1 (k : Int)).2.2 _
  rw [hpl]
  have hr : (ix (lateC day' c).1 (k : Int)).2.2 ≤ (ix (lateC day c).1 (k : Int)).2.2 := by
    rw [lateC_at _ c hk, lateC_at _ c hk]
    have h0 := hroom k hk
    unfold late1
    by_cases h1 : (shw c k).1 < day
    · have h2 : (shw c k).1 < day' := by omega
      simp [h1, h2]
    · by_cases h2 : (shw c k).1 < day'
      · simp [h1, h2]; exact h0
      · simp [h1, h2]
  omega
theorem hasB_zero (i : Nat) : hasB 0 (i : Int) = false := by
  have e : shrI .u64 0 (i : Int) = 0 := by simp [shrI]
  unfold hasB; rw [e]; decide
theorem bnd_zero {c : Cmp} {d : DoneM} {w : List Int} (hr : ∀ k, k < c.1.length → 0 ≤ (ix c.1 (k : Int)).2.2) : bndB c d w 0 = sumN w.length fun i => ix w (i : Nat) := by
  have e1 : sumN w.length (fun i => cond (hasB 0 i) 0 (ix w i)) = sumN w.length fun i => ix w (i : Nat) := sumN_congr fun i _ => by rw [hasB_zero]; rfl
  have e2 : sumN c.1.length (fun k => min (ix c.1 k).2.2 (places c d 0 k c.2.length)) = 0 := by
    have hp : ∀ k, places c d 0 k c.2.length = 0 := fun k => by
      have := sumN_bd (f := fun i => b01 (hasB 0 i && fitsB c d i k)) (a := 0) (b := 0) (n := c.2.length) (fun i _ => by
        show 0 ≤ b01 (hasB 0 (i : Int) && fitsB c d i k) ∧ b01 (hasB 0 (i : Int) && fitsB c d i k) ≤ 0
        rw [hasB_zero, Bool.false_and]; decide)
      unfold places; omega
    have := sumN_bd (f := fun k => min (ix c.1 k).2.2 (places c d 0 k c.2.length)) (a := 0) (b := 0) (n := c.1.length) (fun k hk => by
      show 0 ≤ min (ix c.1 (k : Int)).2.2 (places c d 0 k c.2.length) ∧ min (ix c.1 (k : Int)).2.2 (places c d 0 k c.2.length) ≤ 0
      rw [hp]
      have := hr k hk
      omega)
    omega
  unfold bndB; rw [e1, e2, Int.add_zero]
theorem least_nonneg {c : Cmp} {d : DoneM} {w : List Int} (g : Good c w) : 0 ≤ leastB c d w := by
  obtain ⟨k, _, e⟩ := least_is (c := c) (d := d) (w := w)
  rw [e]; exact (bound_bd g _).1

/-! ### What is owed depends on the set of reports alone -/
theorem seen_mem {l l' : List Ran} (h : ∀ r, r ∈ l ↔ r ∈ l') (s k : Int) : seenB l l.length s k = seenB l' l'.length s k := by
  have one : ∀ {a b : List Ran}, (∀ r, r ∈ a → r ∈ b) → seenB a a.length s k = true → seenB b b.length s k = true := fun {a b} hab h1 => by
    obtain ⟨j, hj, h2, h3⟩ := seenB_iff.1 h1
    obtain ⟨j', hj', e⟩ := mem_ran (hab _ (ran_mem hj))
    exact seenB_iff.2 ⟨j', hj', by rw [e]; exact h2, by rw [e]; exact h3⟩
  rw [Bool.eq_iff_iff]
  exact ⟨one fun r => (h r).1, one fun r => (h r).2⟩
theorem want_mem {l l' : List Ran} (h : ∀ r, r ∈ l ↔ r ∈ l') (i : Nat) : wantB c l l.length i = wantB c l' l'.length i := by
  have e := seen_mem h
  simp only [wantB, cntB, e]
theorem extra_mem {l l' : List Ran} (h : ∀ r, r ∈ l ↔ r ∈ l') : extraB c l l.length = extraB c l' l'.length := by
  have e := seen_mem h
  simp only [extraB, disB, paidB, want_mem h, e]
theorem ext_ix {a b : List Int} (hl : a.length = b.length) (h : ∀ i, i < a.length → ix a (i : Nat) = ix b (i : Nat)) : a = b := by
  refine List.ext_getElem hl fun i h1 h2 => ?_
  have := h i h1
  rw [ix_nat, ix_nat, getD_lt _ _ h1, getD_lt _ _ h2] at this
  exact this
theorem owe_mem {l l' : List Ran} (h : ∀ r, r ∈ l ↔ r ∈ l') {ex ex' : Int} {seen seen' done done' : DoneM} {w w' : List Int} (h1 : OweI c l l.length ex seen done w) (h2 : OweI c l' l'.length ex' seen' done' w') :
    w = w' ∧ ∀ i k : Nat, i < c.2.length → k < c.1.length → dof (kget done [(i : Int), (k : Int)]) 0 = dof (kget done' [(i : Int), (k : Int)]) 0 := by
  refine ⟨ext_ix (by rw [h1.wl, h2.wl]) fun i hi => ?_, fun i k hi hk => by rw [h1.dn i k hi hk, h2.dn i k hi hk, seen_mem h]⟩
  rw [h1.wl] at hi
  rw [h1.wa i hi, h2.wa i hi, want_mem h]
end
end Go.Proofs.Ytjoncejabdjekaa.D
