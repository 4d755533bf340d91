/- Cut down from a longer text. -/
import Derived.Test.YtfknkinmnecoeaaS7p
import Derived.Test.YtfknkinmnecoeaaB2
set_option linter.unusedVariables false
set_option linter.unusedSimpArgs false
namespace Go.Proofs.Ytfknkinmnecoeaa.D
open Go Go.Proofs Go.Proofs.Ytfknkinmnecoeaa.L
theorem week0 {b : BT} {f w : Int} (h : (weekV b f w).2 = 0) : chkV b = 0 ∧ ∃ c, fc b.2.1 f = some c ∧ wi w c.2.1 c.2.2.1 = true := by
  unfold weekV at h
  by_cases hk : chkV b = 0
  · rw [if_pos hk] at h
    cases hf : fc b.2.1 f with
    | none => rw [hf] at h; cases h
    | some c =>
      rw [hf] at h
      cases hw : wi w c.2.1 c.2.2.1
      · simp only [hw] at h; cases h
      · exact ⟨hk, c, rfl, hw⟩
  · rw [if_neg hk] at h; exact absurd h hk
theorem Pure.ShareReaches' (b : BT) (x : Int × Int × Int) : P7 (b, x) = some true := by
  obtain ⟨f, w, s⟩ := x
  simp only [P7, p7, q7, P23_eq, bind_some', P15_eq]
  cases hfar : farV b
  · have hb := far_sz hfar
    simp only [cond_false, P24_eq b hb, bind_some']
    by_cases hv : (weekV b f w).2 = 0 ∧ wi s 0 10000000 = true
    · obtain ⟨h1, h2⟩ := hv
      obtain ⟨h3, c, h4, h5⟩ := week0 h1
      obtain ⟨k, e1, e2, e3⟩ := P22_ok hb h3 h4 h5 h2
      obtain ⟨k', e1', e2', e3'⟩ := P25_ok hb h3 h4 h5 h2
      have : k' = k := cut_unique e3' e3 (by omega) e2' (by omega) e2
      subst this
      simp only [e1, e1', bind_some', decide_true, cond_true]
    · have hn : (weekV b f w).2 ≠ 0 ∨ wi s 0 10000000 = false := by
        by_cases h1 : (weekV b f w).2 = 0
        · right; cases h2 : wi s 0 10000000
          · rfl
          · exact absurd ⟨h1, h2⟩ hv
        · exact .inl h1
      simp only [P22_no hb hn, P25_no hb hn, bind_some', decide_true, cond_true]
  · rfl
theorem fc_gt {b : BT} (h : okBs b = true) {k : Nat} (hk : k < b.2.1.length) : fc b.2.1 (gt b.2.1 k).1 = some (gt b.2.1 k) := by
  simp only [okBs, Bool.and_eq_true, allB_true] at h
  exact find_at hk (by simp) fun j hj => by simpa using (h.1 k hk).2 j hj
theorem weekV_in {b : BT} {w : Int} (h : chkV b = 0) {k : Nat} (hk : k < b.2.1.length) : weekV b (gt b.2.1 k).1 w = cond (wi w (gt b.2.1 k).2.1 (gt b.2.1 k).2.2.1) (acV b w (gt b.2.1 k), 0) (zR, 1) := by
  simp only [weekV, h, if_true, fc_gt (chk0 h).1 hk]; rfl
theorem bal_iff {r : RT} (h : bndR r 1000000000) : bal r = true ↔ r.1 = r.2.1 + r.2.2.1 ∧ r.2.2.1 = r.2.2.2.1 + r.2.2.2.2.1 := by
  obtain ⟨h1, h2, h3, h4, h5⟩ := h
  simp only [bal, Bool.and_eq_true, decide_eq_true_eq]
  omega
theorem bnd_mono {r : RT} {u v : Int} (h : bndR r u) (hv : u ≤ v) : bndR r v := by
  unfold bndR at *; omega
theorem ac_bal {b : BT} {w : Int} {c : CT} (h : chkV b = 0) (hc : c ∈ b.2.1) (hw : c.2.1 ≤ w ∧ w ≤ c.2.2.1) : bal (acV b w c) = true := by
  rw [bal_iff (bnd_mono (ac_b h hc hw) (by omega))]
  simp only [acV, stV, netV]
  omega
theorem tot_bal {b : BT} {w : Int} (h : chkV b = 0) : ∀ n, n ≤ b.2.1.length → (totN b w n).1 = (totN b w n).2.1 + (totN b w n).2.2.1 ∧ (totN b w n).2.2.1 = (totN b w n).2.2.2.1 + (totN b w n).2.2.2.2.1 ∧ (totN b w n).2.2.2.2.2 = 0
  | 0, _ => by simp [totN, zR]
  | n + 1, hn => by
    have i := tot_bal (w := w) h n (by omega)
    unfold totN
    cases hw : wi w (gt b.2.1 n).2.1 (gt b.2.1 n).2.2.1
    · exact i
    · have a := (bal_iff (bnd_mono (ac_b h (gt_mem (show n < b.2.1.length by omega)) (wi_iff.1 hw)) (by omega))).1 (ac_bal h (gt_mem (show n < b.2.1.length by omega)) (wi_iff.1 hw))
      simp only [cond_true, addR]
      omega
theorem Pure.ShareCents' (b : BT) (w : Int) : P8 (b, w) = some true := by
  simp only [P8, p8, q8, P23_eq, bind_some', P15_eq]
  cases hfar : farV b
  · have hb := far_sz hfar
    simp only [cond_false, P20_eq b hb, bind_some']
    by_cases hk : chkV b = 0
    · simp only [hk, decide_true, Bool.not_true, cond_false]
      by_cases h0 : w < 0
      · simp only [h0, decide_true, cond_true]
      simp only [h0, decide_false, cond_false]
      by_cases h1 : 99 < w
      · simp only [h1, decide_true, cond_true]
      have hw : wi w 0 99 = true := wi_iff.2 ⟨by omega, by omega⟩
      have et : ttV b w = (totN b w b.2.1.length, 0) := by simp only [ttV, hk, hw, if_true, cond_true]
      have hl := (okBs_b (chk0 hk).1).2.2
      have tb := bnd_mono (v := 1000000000) (tot_b (w := w) hk b.2.1.length (Nat.le_refl _)) (by omega)
      have tb2 := tot_bal (w := w) hk b.2.1.length (Nat.le_refl _)
      have hbal : bal (totN b w b.2.1.length) = true := (bal_iff tb).2 ⟨tb2.1, tb2.2.1⟩
      have e : L8_0 (w, 0, b, totN b w b.2.1.length, zR) = some (.inr (b, totN b w b.2.1.length, totN b w b.2.1.length)) :=
        while_run (step := fun x => p8_0 x.1 x.2.1 x.2.2.1 x.2.2.2.1 x.2.2.2.2) b.2.1.length (fun k => (w, (k : Int), b, totN b w b.2.1.length, totN b w k)) _ (fun k hk' => by
          have i := tot_b (w := w) hk k (by omega)
          simp only [p8_0, q8_0, lt_nat_t hk', cond_true, inR_nat hk', chk_t, ix_gt, P17_eq b _ w hb, weekV_in hk hk', bind_some', fits_nat (show k < 9223372036854775807 by omega), cast_succ]
          cases hv : wi w (gt b.2.1 k).2.1 (gt b.2.1 k).2.2.1
          · have hv' : ¬ ((gt b.2.1 k).2.1 ≤ w ∧ w ≤ (gt b.2.1 k).2.2.1) := fun h => by rw [wi_iff.2 h] at hv; cases hv
            simp only [totN, hv, cond_false, decide_true, Bool.not_true]
            by_cases q : w < (gt b.2.1 k).2.1
            · simp only [q, decide_true, cond_true]
            · have q' : (gt b.2.1 k).2.2.1 < w := by omega
              simp only [q, q', decide_true, decide_false, cond_true, cond_false]
          · have hv' := wi_iff.1 hv
            have q : decide (w < (gt b.2.1 k).2.1) = false := by simp; omega
            have q' : decide ((gt b.2.1 k).2.2.1 < w) = false := by simp; omega
            have a := ac_b hk (gt_mem hk') hv'
            have ab := P18_eq (bnd_mono (v := 1000000000) a (by omega))
            rw [ac_bal hk (gt_mem hk') hv'] at ab
            obtain ⟨i1, i2, i3, i4, i5⟩ := i
            obtain ⟨a1, a2, a3, a4, a5⟩ := a
            simp only [q, q', cond_true, cond_false, decide_true, Bool.not_true, ab, bind_some',
              fitsN (show 0 ≤ (totN b w k).1 + (acV b w (gt b.2.1 k)).1 by omega) (by omega), fitsN (show 0 ≤ (totN b w k).2.1 + (acV b w (gt b.2.1 k)).2.1 by omega) (by omega), fitsN (show 0 ≤ (totN b w k).2.2.1 + (acV b w (gt b.2.1 k)).2.2.1 by omega) (by omega),
              fitsN (show 0 ≤ (totN b w k).2.2.2.1 + (acV b w (gt b.2.1 k)).2.2.2.1 by omega) (by omega), fitsN (show 0 ≤ (totN b w k).2.2.2.2.1 + (acV b w (gt b.2.1 k)).2.2.2.2.1 by omega) (by omega), chk_t, totN, hv]
            rfl) (by simp only [p8_0, q8_0, lt_nat_f, cond_false]) (by omega)
      have e' : L8_0 (w, 0, b, totN b w b.2.1.length, (0, 0, 0, 0, 0, 0)) = some (.inr (b, totN b w b.2.1.length, totN b w b.2.1.length)) := e
      simp only [h1, decide_false, cond_false, P26_eq b w hb, et, bind_some', decide_true, Bool.not_true, P18_eq tb, hbal, tb2.2.2, e', elim_inr, eqR, cond_true]
    · simp only [hk, decide_false, Bool.not_false, cond_true]
  · rfl
theorem P54_refl (l : List RT) (hl : l.length ≤ 1000) : P54 (l, l) = some true := by
  have e : L54_0 (l, l, 0) = some (.inr ()) := while_run (step := fun x => p54_0 x.1 x.2.1 x.2.2) l.length (fun k => (l, l, (k : Int))) _ (fun k hk => by
    simp only [p54_0, q54_0, lt_nat_t hk, cond_true, inR_nat hk, chk_t, ix_gt, decide_true, Bool.and_self, Bool.not_true, cond_false, fits_nat (show k < 9223372036854775807 by omega), cast_succ]) (by
    simp only [p54_0, q54_0, lt_nat_f, cond_false]) (by omega)
  simp only [P54, p54, q54, decide_true, Bool.not_true, cond_false, e, bind_some', elim_inr]
theorem P55_refl (c : CT) (h1 : c.2.2.2.1.length ≤ 1000) (h2 : c.2.2.2.2.1.length ≤ 1000) : P55 (c, c) = some true := by
  have e0 : L55_0 (0, c, c) = some (.inr (c, c)) := while_run (step := fun x => p55_0 x.1 x.2.1 x.2.2) c.2.2.2.1.length (fun k => ((k : Int), c, c)) _ (fun k hk => by
    simp only [p55_0, q55_0, lt_nat_t hk, cond_true, inR_nat hk, chk_t, ix_gt, decide_true, Bool.not_true, cond_false, fits_nat (show k < 9223372036854775807 by omega), cast_succ]) (by
    simp only [p55_0, q55_0, lt_nat_f, cond_false]) (by omega)
  have e1 : L55_1 (0, c, c) = some (.inr (c, c)) := while_run (step := fun x => p55_1 x.1 x.2.1 x.2.2) c.2.2.2.2.1.length (fun k => ((k : Int), c, c)) _ (fun k hk => by
    simp only [p55_1, q55_1, lt_nat_t hk, cond_true, inR_nat hk, chk_t, ix_gt, decide_true, Bool.and_true, Bool.not_true, cond_false, fits_nat (show k < 9223372036854775807 by omega), cast_succ]) (by
    simp only [p55_1, q55_1, lt_nat_f, cond_false]) (by omega)
  simp only [P55, p55, q55, decide_true, Bool.not_true, cond_false, e0, e1, bind_some', elim_inr]
theorem P31_refl (b : BT) (hb : szB b) : P31 (b, b) = some true := by
  have e : L31_0 (0, b, b) = some (.inr (b, b)) := while_run (step := fun x => p31_0 x.1 x.2.1 x.2.2) b.2.1.length (fun k => ((k : Int), b, b)) _ (fun k hk => by
    have hc := hb.2.2 _ (gt_mem hk)
    simp only [p31_0, q31_0, lt_nat_t hk, cond_true, inR_nat hk, chk_t, ix_gt, P55_refl _ hc.1 hc.2, bind_some', Bool.not_true, cond_false, fits_nat (show k < 9223372036854775807 by have := hb.1; omega), cast_succ]) (by
    simp only [p31_0, q31_0, lt_nat_f, cond_false]) (by have := hb.1; omega)
  simp only [P31, p31, q31, decide_true, Bool.not_true, cond_false, P54_refl _ hb.2.1, e, bind_some', elim_inr]
theorem Pure.ShareWeeks' (b : BT) (x : Int × Int × Int) : P9 (b, x) = some true := by
  obtain ⟨f, w, s⟩ := x
  simp only [P9, p9, q9, P23_eq, bind_some', P15_eq]
  cases hfar : farV b
  · have hb := far_sz hfar
    simp only [cond_false, P24_eq b hb, P27_eq b hb, P20_eq b hb, P17_eq b f w hb, P28_eq b f w hb, P21_eq b f w hb, P29_eq b f w hb, P26_eq b w hb, P30_eq b w hb, P31_refl b hb, bind_some', eqR, decide_true, Bool.not_true, cond_true]
  · rfl
theorem Pure.ShareDue' (b : BT) (x : Int × Int × Int) : P5 (b, x) = some true := by
  obtain ⟨f, w, s⟩ := x
  simp only [P5, p5, q5, P14_eq, bind_some', P15_eq]
  cases hv : vldV b f w
  · rfl
  obtain ⟨hb, hfar, hk, c, hf, hc, hcf, hw1, hw2⟩ := vld_yes hv
  have hcb := okC_b ((okBs_b (chk0 hk).1).1 c hc)
  have hww : wi w c.2.1 c.2.2.1 = true := wi_iff.2 ⟨hw1, hw2⟩
  have hw99 : ∀ u : Int, 0 ≤ u → u ≤ 99 → wi u 0 99 = true := fun u h1 h2 => wi_iff.2 ⟨h1, h2⟩
  have ew : weekV b f w = (acV b w c, 0) := by simp only [weekV, hk, hf, hww, if_true, cond_true, acV, hcf]
  have ed : ∀ u : Int, 0 ≤ u → u ≤ 99 → duV b f u = (dueV b c u, 0) := fun u h1 h2 => by simp only [duV, hk, hf, hw99 u h1 h2, if_true, cond_true]
  obtain ⟨n, hn⟩ : ∃ n : Nat, w = c.2.1 + (n : Int) := ⟨(w - c.2.1).toNat, by omega⟩
  have c1 : cntW c w = n + 1 := by unfold cntW; omega
  have c2 : cntW c (w - 1) = n := by unfold cntW; omega
  have c3 : c.2.2.1 = w → cntW c 99 = n + 1 := fun h => by unfold cntW; omega
  have esh : shW b c n = (acV b w c).2.2.2.1 := by simp only [shW, acV, stV, hn]
  have hs := shW_b (k := n) hk hc (w := w) (by omega)
  rw [esh] at hs
  have hsum := sumN_b (f := shW b c) (c := 100000000) (n := n) fun j hj => shW_b hk hc (w := w) (by omega)
  have es : sumN (n + 1) (shW b c) = sumN n (shW b c) + (acV b w c).2.2.2.1 := by rw [← esh]; rfl
  have hbef : ¬ c.2.2.1 ≤ w - 1 := by omega
  have db : dueV b c (w - 1) = sumN n (shW b c) := by unfold dueV; rw [if_neg hbef, c2]
  have e5 : L5_0 (0, dueV b c w, 0, 0, b, (f, w, s), c, acV b w c) = some (.inr (0, dueV b c w, 0, sumN n (shW b c), b, (f, w, s), c, acV b w c)) := by
    simp only [L5_0, p5_0, q5_0]
    by_cases q : 0 < w
    · simp only [q, decide_true, cond_true, fitsN (show 0 ≤ w - 1 by omega) (by omega), chk_t, P21_eq b f (w - 1) hb, ed (w - 1) (by omega) (by omega), bind_some', Bool.not_true, cond_false, db]
    · have hn0 : n = 0 := by omega
      subst hn0
      simp only [q, decide_false, cond_false]; rfl
  simp only [Bool.not_true, cond_false, P16_eq b f hb.1, hf, crV, bind_some', P17_eq b f w hb, ew, P21_eq b f w hb, ed w (by omega) (by omega), e5, elim_inr, decide_true]
  have hfirst : w = c.2.1 → sumN n (shW b c) = 0 := fun h => by
    have : n = 0 := by omega
    subst this; rfl
  have f1 : fits .i64 (sumN n (shW b c) + (acV b w c).2.2.2.1) = true := fitsN (by omega) (by omega)
  have dq : decide (w = c.2.1) = true → (!decide (sumN n (shW b c) = 0)) = false := fun h => by rw [hfirst (by simpa using h)]; rfl
  by_cases hlast : w < c.2.2.1
  · have da : dueV b c w = sumN n (shW b c) + (acV b w c).2.2.2.1 := by unfold dueV; rw [if_neg (by omega), c1, es]
    have d1 : decide (sumN n (shW b c) + (acV b w c).2.2.2.1 < sumN n (shW b c)) = false := by simp; omega
    have dl : decide (w < c.2.2.1) = true := by simp; omega
    simp only [da, d1, cond_false, dl, decide_true, cond_true, f1, chk_t]
    cases q : decide (w = c.2.1)
    · rfl
    · simp only [dq q, cond_false, cond_true]
  · have hl : c.2.2.1 = w := by omega
    have da : dueV b c w = max (sumN n (shW b c) + (acV b w c).2.2.2.1) c.2.2.2.2.2.2.2.2 := by unfold dueV; rw [if_pos (by omega), c1, es]
    have d99 : dueV b c 99 = max (sumN n (shW b c) + (acV b w c).2.2.2.1) c.2.2.2.2.2.2.2.2 := by unfold dueV; rw [if_pos (by omega), c3 hl, es]
    have d1 : decide (max (sumN n (shW b c) + (acV b w c).2.2.2.1) c.2.2.2.2.2.2.2.2 < sumN n (shW b c)) = false := by simp; omega
    have dl : decide (w < c.2.2.1) = false := by simp; omega
    simp only [da, d1, cond_false, dl, P21_eq b f 99 hb, ed 99 (by omega) (by omega), bind_some', decide_true, cond_true, f1, chk_t, d99]
    cases q : decide (w = c.2.1)
    · rfl
    · simp only [dq q, cond_false, cond_true]
abbrev TyC : Ty := .pair (.int .i64) (.pair (.int .i64) (.pair (.int .i64) (.pair (.sl (.int .i64)) (.pair (.sl (.pair (.int .i64) (.int .i64))) (.pair (.int .i64) (.pair (.int .i64) (.pair (.int .i64) (.int .i64))))))))
abbrev TyR : Ty := .pair (.int .i64) (.pair (.int .i64) (.pair (.int .i64) (.pair (.int .i64) (.pair (.int .i64) (.int .i64)))))
abbrev TyB : Ty := .pair (.int .i64) (.pair (.sl TyC) (.sl TyR))
abbrev TyA : Ty := .pair (.int .i64) (.pair (.int .i64) (.int .i64))
theorem Pure.ShareReaches (b : BT) (_ : Wf TyB b) (x : Int × Int × Int) (_ : Wf TyA x) : P7 (b, x) = some true := Pure.ShareReaches' b x
theorem Pure.ShareCents (b : BT) (_ : Wf TyB b) (w : Int) (_ : Wf (.int .i64) w) : P8 (b, w) = some true := Pure.ShareCents' b w
theorem Pure.ShareWeeks (b : BT) (_ : Wf TyB b) (x : Int × Int × Int) (_ : Wf TyA x) : P9 (b, x) = some true := Pure.ShareWeeks' b x
theorem Pure.ShareDue (b : BT) (_ : Wf TyB b) (x : Int × Int × Int) (_ : Wf TyA x) : P5 (b, x) = some true := Pure.ShareDue' b x
end Go.Proofs.Ytfknkinmnecoeaa.D
