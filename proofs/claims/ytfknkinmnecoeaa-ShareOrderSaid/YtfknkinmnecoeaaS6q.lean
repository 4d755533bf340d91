/- Cut down from a longer text. -/
import Derived.Test.YtfknkinmnecoeaaS5q
set_option linter.unusedVariables false
set_option linter.unusedSimpArgs false
namespace Go.Proofs.Ytfknkinmnecoeaa.D
open Go Go.Proofs Go.Proofs.Ytfknkinmnecoeaa.L
def zR : RT := (0, 0, 0, 0, 0, 0)
theorem fc_some {l : List CT} {f : Int} {c : CT} (h : fc l f = some c) : c ∈ l ∧ c.1 = f := ⟨List.mem_of_find?_eq_some h, by simpa using List.find?_some h⟩
theorem chk0 {b : BT} (h : chkV b = 0) : okBs b = true ∧ b.2.2.length ≤ 40 ∧ okRs b.2.1 b.2.2 = true := by
  unfold chkV at h
  cases h1 : okBs b
  · rw [h1] at h; cases h
  cases h2 : decide (b.2.2.length ≤ 40) && okRs b.2.1 b.2.2
  · rw [h1, h2] at h; cases h
  simp only [Bool.and_eq_true, decide_eq_true_eq] at h2
  exact ⟨rfl, h2.1, h2.2⟩
theorem okBs_b {b : BT} (h : okBs b = true) : (∀ c ∈ b.2.1, okC c = true) ∧ (0 ≤ b.1 ∧ b.1 ≤ 500) ∧ b.2.1.length ≤ 6 := by
  simp only [okBs, Bool.and_eq_true, allB_true, wi_iff, decide_eq_true_eq] at h
  exact ⟨fun c hc => by obtain ⟨i, hi, rfl⟩ := mem_gt hc; exact (h.1 i hi).1, h.2.1, h.2.2⟩
theorem aok {b : BT} {c : CT} {f w : Int} (h : chkV b = 0) (hc : c ∈ b.2.1) (hw : c.2.1 ≤ w ∧ w ≤ c.2.2.1) : AOk b.1 c w (grV b.2.2 f w) := by
  obtain ⟨h1, h2, h3⟩ := chk0 h
  obtain ⟨k1, k2, k3⟩ := okBs_b h1
  have := okC_b (k1 c hc)
  exact ⟨k1 c hc, k2, ⟨hw.1, by omega⟩, grV_b (okRs_RV h3)⟩
def weekV (b : BT) (f w : Int) : RT × Int := if chkV b = 0 then (match fc b.2.1 f with
  | some c => cond (wi w c.2.1 c.2.2.1) (stV b.1 c w (grV b.2.2 f w), 0) (zR, 1)
  | none => (zR, 1)) else (zR, chkV b)
theorem P39_eq (b : BT) (f : Int) (hb : szB b) : P39 (b, f) = some (if chkV b = 0 then (match fc b.2.1 f with
    | some c => (c, 0)
    | none => (zC, 1)) else (zC, chkV b)) := by
  simp only [P39, p39, q39, P27_eq b hb, bind_some', P47_eq b f hb.1]
  by_cases h : chkV b = 0
  · simp only [h, decide_true, Bool.not_true, cond_false, if_true]
    cases fc b.2.1 f <;> rfl
  · simp only [h, decide_false, Bool.not_false, cond_true, if_false]; rfl
theorem P17_eq (b : BT) (f w : Int) (hb : szB b) : P17 (b, f, w) = some (weekV b f w) := by
  simp only [P17, p17, q17, P39_eq b f hb, bind_some', weekV]
  by_cases h : chkV b = 0
  · simp only [h, if_true]
    cases hf : fc b.2.1 f with
    | none => rfl
    | some c =>
      have hc := fc_some hf
      simp only [decide_true, Bool.not_true, cond_false, P40_eq, bind_some']
      cases hw : wi w c.2.1 c.2.2.1
      · rfl
      · simp only [Bool.not_true, cond_false, cond_true, P42_eq b f w hb.2.1 (okRs_RV (chk0 h).2.2), bind_some', P41_eq (aok (f := f) h hc.1 (wi_iff.1 hw))]
  · simp only [h, if_false, decide_false, Bool.not_false, cond_true]; rfl
def shW (b : BT) (c : CT) (k : Nat) : Int := shV b.1 c (c.2.1 + k) (grV b.2.2 c.1 (c.2.1 + k))
def cntW (c : CT) (w : Int) : Nat := (min w c.2.2.1 - c.2.1 + 1).toNat
def dueV (b : BT) (c : CT) (w : Int) : Int := if c.2.2.1 ≤ w then max (sumN (cntW c w) (shW b c)) c.2.2.2.2.2.2.2.2 else sumN (cntW c w) (shW b c)
theorem shW_b {b : BT} {c : CT} (h : chkV b = 0) (hc : c ∈ b.2.1) {k : Nat} {w : Int} (hk : k < cntW c w) : 0 ≤ shW b c k ∧ shW b c k ≤ 100000000 := by
  unfold cntW at hk
  have := st_bal (aok (f := c.1) (w := c.2.1 + k) h hc (by omega))
  unfold shW; omega
theorem due_loop {σ : Type} {b : BT} {c : CT} {w : Int} (h : chkV b = 0) (hc : c ∈ b.2.1) (hw : 0 ≤ w ∧ w ≤ 99) {step : σ → Option (σ ⊕ (Int × Int × BT × CT))} (S : Int → Int → σ)
    (h1 : ∀ (k : Nat) n, k < cntW c w → 0 ≤ n → n ≤ 100000000000 → step (S n (c.2.1 + k)) = some (.inl (S (n + shW b c k) (c.2.1 + k + 1)))) (h2 : ∀ n u, ¬ u ≤ min w c.2.2.1 → step (S n u) = some (.inr (w, n, b, c))) :
    whileF step (S 0 c.2.1) = some (w, sumN (cntW c w) (shW b c), b, c) := by
  have hcb := okC_b ((okBs_b (chk0 h).1).1 c hc)
  have := while_run (step := step) (cntW c w) (fun k => S (sumN k (shW b c)) (c.2.1 + k)) (w, sumN (cntW c w) (shW b c), b, c) (fun k hk => by
    have hb := sumN_b (f := shW b c) (c := 100000000) (n := k) fun j hj => shW_b h hc (w := w) (by omega)
    have hk' := hk
    unfold cntW at hk'
    rw [h1 k _ hk (by omega) (by omega)]
    simp only [sumN]
    congr 3; omega) (h2 _ _ (by unfold cntW; omega)) (by unfold cntW; omega)
  simpa [sumN] using this
theorem P45_eq {b : BT} {c : CT} {w : Int} (hb : szB b) (h : chkV b = 0) (hc : c ∈ b.2.1) (hw : 0 ≤ w ∧ w ≤ 99) : P45 (b, c, w) = some (dueV b c w) := by
  have hcb := okC_b ((okBs_b (chk0 h).1).1 c hc)
  have e : L45_0 (w, 0, c.2.1, b, c) = some (w, sumN (cntW c w) (shW b c), b, c) :=
    due_loop h hc hw (fun n u => (w, n, u, b, c)) (fun k n hk hn hn' => by
      have hs := shW_b h hc hk
      have hk' := hk
      unfold cntW at hk'
      have d : decide (c.2.1 + (k : Int) ≤ min w c.2.2.1) = true := by simp; omega
      have es : (stV b.1 c (c.2.1 + k) (grV b.2.2 c.1 (c.2.1 + k))).2.2.2.1 = shW b c k := rfl
      simp only [p45_0, q45_0, d, cond_true, P42_eq b c.1 _ hb.2.1 (okRs_RV (chk0 h).2.2), bind_some', P41_eq (aok (f := c.1) (w := c.2.1 + k) h hc (by omega)), es, fitsN (show 0 ≤ n + shW b c k by omega) (by omega), fitsN (show 0 ≤ c.2.1 + (k : Int) + 1 by omega) (by omega), chk_t]) (fun n u hu => by
      have d : decide (u ≤ min w c.2.2.1) = false := by simp; omega
      simp only [p45_0, q45_0, d, cond_false])
  simp only [P45, p45, q45, e, bind_some', dueV]
  by_cases q : c.2.2.1 ≤ w
  · simp only [q, decide_true, cond_true, if_true]
  · simp only [q, decide_false, cond_false, if_false]
def duV (b : BT) (f w : Int) : Int × Int := if chkV b = 0 then (match fc b.2.1 f with
  | some c => cond (wi w 0 99) (dueV b c w, 0) (0, 1)
  | none => (0, 1)) else (0, chkV b)
theorem P21_eq (b : BT) (f w : Int) (hb : szB b) : P21 (b, f, w) = some (duV b f w) := by
  simp only [P21, p21, q21, P39_eq b f hb, bind_some', duV]
  by_cases h : chkV b = 0
  · simp only [h, if_true]
    cases hf : fc b.2.1 f with
    | none => rfl
    | some c =>
      simp only [decide_true, Bool.not_true, cond_false, P40_eq, bind_some']
      cases hw : wi w 0 99
      · rfl
      · simp only [Bool.not_true, cond_false, cond_true, P45_eq hb h (fc_some hf).1 (wi_iff.1 hw), bind_some']
  · simp only [h, if_false, decide_false, Bool.not_false, cond_true]
def acV (b : BT) (w : Int) (c : CT) : RT := stV b.1 c w (grV b.2.2 c.1 w)
theorem cut_unique {Q : Nat → Prop} {a b k k' : Nat} (h : Cut Q a b k) (h' : Cut Q a b k') (h1 : a ≤ k) (h2 : k ≤ b) (h3 : a ≤ k') (h4 : k' ≤ b) : k = k' := by
  rcases Nat.lt_trichotomy k k' with q | q | q
  · exact absurd (h'.1 k h1 q) (h.2 k (Nat.le_refl _) (by omega))
  · exact q
  · exact absurd (h.1 k' h3 q) (h'.2 k' (Nat.le_refl _) (by omega))
theorem halfT (i j : Nat) : Int.tdiv ((i : Int) + (j : Int)) 2 = (((i + j) / 2 : Nat) : Int) := by
  rw [Int.tdiv_eq_ediv_of_nonneg (by omega)]; omega
def RQ (b : BT) (c : CT) (w s : Int) (g : Nat) : Prop := shV b.1 c w (g : Int) < s
theorem RQ_mono {b : BT} {c : CT} {w : Int} (s : Int) (h : chkV b = 0) (hc : c ∈ b.2.1) (hw : c.2.1 ≤ w) : ∀ p q, 0 ≤ p → p ≤ q → q < 10000001 → RQ b c w s q → RQ b c w s p := fun p q _ h1 h2 h3 => by
  obtain ⟨k1, k2, k3⟩ := okBs_b (chk0 h).1
  have := sh_mono (g := (p : Int)) (g' := (q : Int)) (k1 c hc) hw k2 (by omega) (by omega) (by omega)
  unfold RQ at *; omega
theorem L22_0_eq {b : BT} {c : CT} {w s : Int} (h : chkV b = 0) (hc : c ∈ b.2.1) (hw : c.2.1 ≤ w ∧ w ≤ c.2.2.1) : ∃ k, L22_0 (w, s, 0, 10000001, b, c) = some (((k : Nat) : Int), b, c) ∧ k ≤ 10000001 ∧ Cut (RQ b c w s) 0 10000001 k := by
  obtain ⟨k1, k2, k3⟩ := okBs_b (chk0 h).1
  have hcb := okC_b (k1 c hc)
  obtain ⟨k, e1, e2, e3, e4⟩ := while_half (step := fun x => p22_0 x.1 x.2.1 x.2.2.1 x.2.2.2.1 x.2.2.2.2.1 x.2.2.2.2.2) (RQ b c w s) (fun i j => (w, s, (i : Int), (j : Int), b, c)) (fun k => ((k : Int), b, c)) 0 10000001 (fun i j h1 h2 h3 => by
    have es : (stV b.1 c w (((i + j) / 2 : Nat) : Int)).2.2.2.1 = shV b.1 c w (((i + j) / 2 : Nat) : Int) := rfl
    simp only [p22_0, q22_0, lt_nat_t h2, cond_true, fitsN (show 0 ≤ (i : Int) + (j : Int) by omega) (by omega), halfT, fitsN (show (0 : Int) ≤ (((i + j) / 2 : Nat) : Int) by omega) (by omega), chk_t,
      P41_eq (tax := b.1) (c := c) (week := w) (gross := (((i + j) / 2 : Nat) : Int)) ⟨k1 c hc, k2, ⟨hw.1, by omega⟩, ⟨by omega, by omega⟩⟩, bind_some', es, fitsN (show (0 : Int) ≤ (((i + j) / 2 : Nat) : Int) + 1 by omega) (by omega)]
    by_cases q : s ≤ shV b.1 c w (((i + j) / 2 : Nat) : Int)
    · right
      simp only [q, decide_true, cond_true]
      exact ⟨by unfold RQ; omega, trivial⟩
    · left
      simp only [q, decide_false, cond_false, cast_succ]
      exact ⟨by unfold RQ; omega, trivial⟩) (fun i h1 h2 => by simp only [p22_0, q22_0, lt_nat_f, cond_false]) (by omega) (by omega)
  exact ⟨k, e1, e3, e4 (RQ_mono s h hc hw.1)⟩
def rcK (k : Nat) : Int × Int := cond (decide ((10000000 : Int) < (k : Int))) (0, 3) ((k : Int), 0)
theorem P22_ok {b : BT} {c : CT} {f w s : Int} (hb : szB b) (h : chkV b = 0) (hf : fc b.2.1 f = some c) (hw : wi w c.2.1 c.2.2.1 = true) (hs : wi s 0 10000000 = true) : ∃ k, P22 (b, f, w, s) = some (rcK k) ∧ k ≤ 10000001 ∧ Cut (RQ b c w s) 0 10000001 k := by
  obtain ⟨k, e1, e2, e3⟩ := L22_0_eq (s := s) h (fc_some hf).1 (wi_iff.1 hw)
  refine ⟨k, ?_, e2, e3⟩
  have hv : (weekV b f w).2 = 0 := by simp only [weekV, h, hf, hw, if_true, cond_true]
  simp only [P22, p22, q22, P17_eq b f w hb, bind_some', hv, decide_true, Bool.not_true, cond_false, P46_eq, hs, P47_eq b f hb.1, hf, crV, e1, rcK]
  cases decide ((10000000 : Int) < (k : Int)) <;> rfl
end Go.Proofs.Ytfknkinmnecoeaa.D
