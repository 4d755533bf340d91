/- Cut down from a longer text. -/
import Derived.Test.YtfknkinmnecoeaaS8p
set_option linter.unusedVariables false
set_option linter.unusedSimpArgs false
namespace Go.Proofs.Ytfknkinmnecoeaa.D
open Go Go.Proofs Go.Proofs.Ytfknkinmnecoeaa.L
theorem L3_3_eq {a : RT} {S N F : Int} (h : (a.2.2.2.2.2 = 1 ∧ N ≤ S ∧ F ≤ S) ∨ (a.2.2.2.2.2 = 2 ∧ S < N ∧ F ≤ N) ∨ (a.2.2.2.2.2 = 3 ∧ S < F ∧ N < F)) : L3_3 (1, a, [0, S, N, F]) = some (.inr (a, [0, S, N, F])) := by
  have g1 : ix [0, S, N, F] 1 = S := rfl
  have g2 : ix [0, S, N, F] 2 = N := rfl
  have g3 : ix [0, S, N, F] 3 = F := rfl
  have i1 : inR 1 [0, S, N, F].length = true := rfl
  have i2 : inR 2 [0, S, N, F].length = true := rfl
  have i3 : inR 3 [0, S, N, F].length = true := rfl
  have f1 : fits .i64 ((1 : Int) + 1) = true := by decide
  have f2 : fits .i64 ((2 : Int) + 1) = true := by decide
  have f3 : fits .i64 ((3 : Int) + 1) = true := by decide
  have t1 : decide ((1 : Int) ≤ 3) = true := by decide
  have t2 : decide ((2 : Int) ≤ 3) = true := by decide
  have t3 : decide ((3 : Int) ≤ 3) = true := by decide
  have t4 : decide ((4 : Int) ≤ 3) = false := by decide
  have l11 : decide ((1 : Int) < 1) = false := by decide
  have l12 : decide ((1 : Int) < 2) = true := by decide
  have l13 : decide ((1 : Int) < 3) = true := by decide
  have l21 : decide ((2 : Int) < 1) = false := by decide
  have l22 : decide ((2 : Int) < 2) = false := by decide
  have l23 : decide ((2 : Int) < 3) = true := by decide
  have l31 : decide ((3 : Int) < 1) = false := by decide
  have l32 : decide ((3 : Int) < 2) = false := by decide
  have l33 : decide ((3 : Int) < 3) = false := by decide
  have key : p3_3 1 a [0, S, N, F] = some (.inl (2, a, [0, S, N, F])) ∧ p3_3 2 a [0, S, N, F] = some (.inl (3, a, [0, S, N, F])) ∧ p3_3 3 a [0, S, N, F] = some (.inl (4, a, [0, S, N, F])) := by
    rcases h with ⟨h1, h2, h3⟩ | ⟨h1, h2, h3⟩ | ⟨h1, h2, h3⟩
    · have d1 : decide (S < S) = false := by simp
      have d2 : decide (S < N) = false := by simp; omega
      have d3 : decide (S < F) = false := by simp; omega
      refine ⟨?_, ?_, ?_⟩ <;> simp only [p3_3, q3_3, h1, t1, t2, t3, i1, i2, i3, g1, g2, g3, d1, d2, d3, l11, l21, l31, f1, f2, f3, chk_t, cond_true, cond_false] <;> rfl
    · have d1 : decide (N < S) = false := by simp; omega
      have d2 : decide (N < N) = false := by simp
      have d3 : decide (N < F) = false := by simp; omega
      have d4 : decide (S = N) = false := by simp; omega
      refine ⟨?_, ?_, ?_⟩ <;> simp only [p3_3, q3_3, h1, t1, t2, t3, i1, i2, i3, g1, g2, g3, d1, d2, d3, d4, l12, l22, l32, f1, f2, f3, chk_t, cond_true, cond_false] <;> rfl
    · have d1 : decide (F < S) = false := by simp; omega
      have d2 : decide (F < N) = false := by simp; omega
      have d3 : decide (F < F) = false := by simp
      have d4 : decide (S = F) = false := by simp; omega
      have d5 : decide (N = F) = false := by simp; omega
      refine ⟨?_, ?_, ?_⟩ <;> simp only [p3_3, q3_3, h1, t1, t2, t3, i1, i2, i3, g1, g2, g3, d1, d2, d3, d4, d5, l13, l23, l33, f1, f2, f3, chk_t, cond_true, cond_false] <;> rfl
  exact while_run (step := fun x => p3_3 x.1 x.2.1 x.2.2) 3 (fun k => (((k + 1 : Nat) : Int), a, [0, S, N, F])) (.inr (a, [0, S, N, F])) (fun i hi => by
    match i, hi with
    | 0, _ => exact key.1
    | 1, _ => exact key.2.1
    | 2, _ => exact key.2.2) (by
    have e : p3_3 4 a [0, S, N, F] = some (.inr (.inr (a, [0, S, N, F]))) := by simp only [p3_3, q3_3, t4, cond_false]
    exact e) (by omega)
theorem Pure.ShareRule' (b : BT) (x : Int × Int × Int) : P3 (b, x) = some true := by
  obtain ⟨f, w, s⟩ := x
  simp only [P3, p3, q3, P14_eq, bind_some', P15_eq]
  cases hv : vldV b f w
  · rfl
  obtain ⟨hb, hfar, hk, c, hf, hc, hcf, hw1, hw2⟩ := vld_yes hv
  have hok := (okBs_b (chk0 hk).1).1 c hc
  obtain ⟨h1, h2, h3, h4, h5, h6, h7, h8, h9, h10, h11, h12⟩ := okC_b hok
  have hww : wi w c.2.1 c.2.2.1 = true := wi_iff.2 ⟨hw1, hw2⟩
  have ew : weekV b f w = (acV b w c, 0) := by simp only [weekV, hk, hf, hww, if_true, cond_true, acV, hcf]
  have ha := aok (f := c.1) (w := w) hk hc ⟨hw1, hw2⟩
  have hbal := ac_bal hk hc ⟨hw1, hw2⟩
  have sbal := st_bal ha
  have P18a := P18_eq (bnd_mono (v := 1000000000) (ac_b hk hc ⟨hw1, hw2⟩) (by omega))
  rw [hbal] at P18a
  obtain ⟨net, hnet⟩ : ∃ n, n = netV b.1 (grV b.2.2 c.1 w) := ⟨_, rfl⟩
  have a3 : (acV b w c).2.2.1 = net := hnet.symm
  have a4 : (acV b w c).2.2.2.1 = min net (stM c w net) := by rw [hnet]; rfl
  have a6 : (acV b w c).2.2.2.2.2 = stR c w net := by rw [hnet]; rfl
  have hn : 0 ≤ net ∧ net ≤ 100000000 := by rw [hnet]; omega
  have ib := idx_b hok hw1
  have sb := st_b hok hw1 hn
  have m := ml_b (net := net) hok hw1
  have sm := td_b (u := 100000000) (v := 0) hn.1 hn.2 m.1 m.2
  obtain ⟨i, hi⟩ : ∃ i : Nat, min (w - c.2.1) ((c.2.2.2.1.length : Int) - 1) = (i : Int) := ⟨_, (Int.toNat_of_nonneg ib.1).symm⟩
  have hi' : i < c.2.2.2.1.length := by omega
  have e0 : L3_0 (w - c.2.1, c, acV b w c) = some ((i : Int), c, acV b w c) := by
    simp only [L3_0, p3_0, q3_0]
    by_cases q : (c.2.2.2.1.length : Int) ≤ w - c.2.1
    · have e : (c.2.2.2.1.length : Int) - 1 = (i : Int) := by omega
      simp only [q, decide_true, cond_true, e, fitsN (show (0 : Int) ≤ (i : Int) by omega) (by omega), chk_t]
    · have e : w - c.2.1 = (i : Int) := by omega
      rw [e] at q ⊢
      simp only [q, decide_false, cond_false]
  have e1 : L3_1 (gt c.2.2.2.1 i, 0, c, acV b w c) = some (mlV c w net, c, acV b w c) := by
    have := while_run (step := fun x => p3_1 x.1 x.2.1 x.2.2.1 x.2.2.2) c.2.2.2.2.1.length (fun k => (mll net c.2.2.2.2.1 (gt c.2.2.2.1 i) k, (k : Int), c, acV b w c)) (mlV c w net, c, acV b w c)
      (fun k hk => by
        simp only [p3_1, q3_1, lt_nat_t hk, cond_true, inR_nat hk, chk_t, ix_gt, a3, fits_nat (show k < 9223372036854775807 by omega), cast_succ]
        by_cases e : (gt c.2.2.2.2.1 k).1 ≤ net
        · by_cases e2 : mll net c.2.2.2.2.1 (gt c.2.2.2.1 i) k < (gt c.2.2.2.2.1 k).2
          · have e3 : mll net c.2.2.2.2.1 (gt c.2.2.2.1 i) (k + 1) = (gt c.2.2.2.2.1 k).2 := by unfold mll; rw [if_pos e]; omega
            simp only [e, e2, decide_true, cond_true, e3]
          · have e3 : mll net c.2.2.2.2.1 (gt c.2.2.2.1 i) (k + 1) = mll net c.2.2.2.2.1 (gt c.2.2.2.1 i) k := by rw [show mll net c.2.2.2.2.1 (gt c.2.2.2.1 i) (k + 1) = if (gt c.2.2.2.2.1 k).1 ≤ net then max (mll net c.2.2.2.2.1 (gt c.2.2.2.1 i) k) (gt c.2.2.2.2.1 k).2 else mll net c.2.2.2.2.1 (gt c.2.2.2.1 i) k from rfl, if_pos e]; omega
            simp only [e, e2, decide_true, decide_false, cond_true, cond_false, e3]
        · have e3 : mll net c.2.2.2.2.1 (gt c.2.2.2.1 i) (k + 1) = mll net c.2.2.2.2.1 (gt c.2.2.2.1 i) k := by rw [show mll net c.2.2.2.2.1 (gt c.2.2.2.1 i) (k + 1) = if (gt c.2.2.2.2.1 k).1 ≤ net then max (mll net c.2.2.2.2.1 (gt c.2.2.2.1 i) k) (gt c.2.2.2.2.1 k).2 else mll net c.2.2.2.2.1 (gt c.2.2.2.1 i) k from rfl, if_neg e]
          simp only [e, decide_false, cond_false, e3]) (by
        simp only [p3_1, q3_1, lt_nat_f, cond_false, mlV, hi, Int.toNat_natCast]) (by omega)
    exact this
  have hS : Int.tdiv (net * mlV c w net) 1000 = stS c w net := rfl
  have e2 : L3_2 (c, acV b w c, [0, stS c w net, 0, c.2.2.2.2.2.2.2.1]) = some (c, acV b w c, [0, stS c w net, stN c net, c.2.2.2.2.2.2.2.1]) := by
    simp only [L3_2, p3_2, q3_2, a3]
    by_cases q : c.2.2.2.2.2.1 < net
    · have hmax : max 0 (net - c.2.2.2.2.2.1) = net - c.2.2.2.2.2.1 := by omega
      have hN : Int.tdiv ((net - c.2.2.2.2.2.1) * c.2.2.2.2.2.2.1) 1000 = stN c net := by unfold stN; rw [hmax]; rfl
      have u := td_b (u := 100000000) (v := 0) (a := net - c.2.2.2.2.2.1) (b := c.2.2.2.2.2.2.1) (by omega) (by omega) h9.1 h9.2
      have i2 : inR 2 [0, stS c w net, 0, c.2.2.2.2.2.2.2.1].length = true := rfl
      simp only [q, decide_true, cond_true, hN, fitsN (show 0 ≤ net - c.2.2.2.2.2.1 by omega) (by omega), fitsN (show 0 ≤ (net - c.2.2.2.2.2.1) * c.2.2.2.2.2.2.1 by omega) (by omega), fitsN (show 0 ≤ stN c net by omega) (by omega), chk_t, i2]; rfl
    · have hmax : max 0 (net - c.2.2.2.2.2.1) = 0 := by omega
      have hN : stN c net = 0 := by unfold stN; rw [hmax, Int.zero_mul]; rfl
      simp only [q, decide_false, cond_false, hN]
  have hR : (stR c w net = 1 ∧ stN c net ≤ stS c w net ∧ c.2.2.2.2.2.2.2.1 ≤ stS c w net ∧ stM c w net = stS c w net) ∨ (stR c w net = 2 ∧ stS c w net < stN c net ∧ c.2.2.2.2.2.2.2.1 ≤ stN c net ∧ stM c w net = stN c net) ∨ (stR c w net = 3 ∧ stS c w net < c.2.2.2.2.2.2.2.1 ∧ stN c net < c.2.2.2.2.2.2.2.1 ∧ stM c w net = c.2.2.2.2.2.2.2.1) := by
    unfold stR stM
    by_cases q1 : max (max (stS c w net) (stN c net)) c.2.2.2.2.2.2.2.1 = stS c w net
    · left; rw [if_pos q1]; omega
    · rw [if_neg q1]
      by_cases q2 : max (max (stS c w net) (stN c net)) c.2.2.2.2.2.2.2.1 = stN c net
      · right; left; rw [if_pos q2]; omega
      · right; right; rw [if_neg q2]; omega
  have e3 : L3_3 (1, acV b w c, [0, stS c w net, stN c net, c.2.2.2.2.2.2.2.1]) = some (.inr (acV b w c, [0, stS c w net, stN c net, c.2.2.2.2.2.2.2.1])) := L3_3_eq (by rw [a6]; omega)
  have hgive : inR (stR c w net) [0, stS c w net, stN c net, c.2.2.2.2.2.2.2.1].length = true ∧ ix [0, stS c w net, stN c net, c.2.2.2.2.2.2.2.1] (stR c w net) = stM c w net := by
    rcases hR with ⟨r1, _, _, r2⟩ | ⟨r1, _, _, r2⟩ | ⟨r1, _, _, r2⟩
    · rw [r1, r2]; exact ⟨rfl, rfl⟩
    · rw [r1, r2]; exact ⟨rfl, rfl⟩
    · rw [r1, r2]; exact ⟨rfl, rfl⟩
  have dr1 : decide (stR c w net < 1) = false := by simp; omega
  have dr2 : decide (3 < stR c w net) = false := by simp; omega
  have dnet : decide (1000000000 < net) = false := by simp; omega
  simp only [Bool.not_true, cond_false, P16_eq b f hb.1, hf, crV, bind_some', P17_eq b f w hb, ew, decide_true, P18a, a3, dnet, fitsN (show 0 ≤ w - c.2.1 by omega) (by omega), chk_t, e0, inR_nat hi', ix_gt, e1, hS, fitsN (show 0 ≤ net * mlV c w net by omega) (by omega), fitsN (show 0 ≤ stS c w net by omega) (by omega), e2, a6, dr1, dr2, hgive.1, hgive.2, a4, e3, elim_inr]
theorem Pure.ShareRule (b : BT) (_ : Wf TyB b) (x : Int × Int × Int) (_ : Wf TyA x) : P3 (b, x) = some true := Pure.ShareRule' b x
end Go.Proofs.Ytfknkinmnecoeaa.D
