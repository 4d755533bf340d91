/- Cut down from a longer text. -/
import Derived.Test.YtfknkinmnecoeaaS9p
set_option linter.unusedVariables false
set_option linter.unusedSimpArgs false
namespace Go.Proofs.Ytfknkinmnecoeaa.D
open Go Go.Proofs Go.Proofs.Ytfknkinmnecoeaa.L
theorem nid_all {l : List RT} {r : RT} (h : r ∈ l) : r.1 < nid l l.length := by
  obtain ⟨k, hk, rfl⟩ := mem_gt h
  exact nid_gt l l.length (Nat.le_refl _) k hk
theorem wth_sz {b : BT} {r : RT} (hb : szB b) (hl : b.2.2.length ≤ 999) : szB (wthV b r) := ⟨hb.1, by simp only [wthV, List.length_append, List.length_singleton]; omega, hb.2.2⟩
theorem chk_wth {b : BT} {r : RT} (h : chkV b = 0) (hl : b.2.2.length < 40) : chkV (wthV b r) = 0 ↔ okR b.2.1 (wthR b.2.2 r) = true := by
  obtain ⟨h1, h2, h3⟩ := chk0 h
  obtain ⟨k1, k2⟩ := okRs_iff.1 h3
  constructor
  · intro hc
    exact (okRs_iff.1 (chk0 hc).2.2).1 _ (by simp [wthV])
  · intro hr
    have e1 : okBs (wthV b r) = true := h1
    have e2 : decide ((wthV b r).2.2.length ≤ 40) = true := by simp only [wthV, List.length_append, List.length_singleton]; simp; omega
    have e3 : okRs (wthV b r).2.1 (wthV b r).2.2 = true := by
      rw [okRs_iff]
      constructor
      · intro x hx
        rcases List.mem_append.1 hx with hx | hx
        · exact k1 x hx
        · rw [List.mem_singleton.1 hx]; exact hr
      · intro x hx y hy e
        rcases List.mem_append.1 hx with hx | hx
        · rcases List.mem_append.1 hy with hy | hy
          · exact k2 x hx y hy e
          · rw [List.mem_singleton.1 hy] at e
            have := nid_all hx
            simp only [wthR] at e; omega
        · rcases List.mem_append.1 hy with hy | hy
          · rw [List.mem_singleton.1 hx] at e
            have := nid_all hy
            simp only [wthR] at e; omega
          · rw [List.mem_singleton.1 hx, List.mem_singleton.1 hy]
    unfold chkV
    rw [e1, e2, e3]; rfl
theorem top_new {l : List RT} {r : RT} {p : RT → Bool} (hp : p (wthR l r) = true) : top p (l ++ [wthR l r]) = some (wthR l r) := by
  rw [top_snoc]
  unfold topS
  rw [hp, cond_true]
  cases h : top p l with
  | none => rfl
  | some a =>
    have : a.1 < (wthR l r).1 := nid_all ((top_spec p l).2 a h).1
    simp only [this, if_true]
theorem top_old {l : List RT} {r : RT} {p : RT → Bool} (hp : p (wthR l r) = false) : top p (l ++ [wthR l r]) = top p l := by
  rw [top_snoc, topS_no hp]
theorem gr_audit {l : List RT} {r : RT} {f w : Int} (h : pA f w (wthR l r) = true) : grV (l ++ [wthR l r]) f w = r.2.2.2.2.2 := by
  unfold grV
  rw [top_new h]; rfl
theorem weekV_ok {b : BT} {f w : Int} {c : CT} (hk : chkV b = 0) (hf : fc b.2.1 f = some c) (hw : c.2.1 ≤ w ∧ w ≤ c.2.2.1) : weekV b f w = (acV b w c, 0) := by
  have hww : wi w c.2.1 c.2.2.1 = true := wi_iff.2 hw
  simp only [weekV, hk, hf, hww, if_true, cond_true, acV, (fc_some hf).2]
theorem Pure.ShareReach' (b : BT) (x : Int × Int × Int) : P6 (b, x) = some true := by
  obtain ⟨f, w, s⟩ := x
  simp only [P6, p6, q6, P14_eq, bind_some', P15_eq]
  cases hv : vldV b f w
  · rfl
  obtain ⟨hb, hfar, hk, c, hf, hc, hcf, hw1, hw2⟩ := vld_yes hv
  simp only [Bool.not_true, cond_false]
  by_cases hl : (40 : Int) ≤ b.2.2.length
  · simp only [hl, decide_true, cond_true]
  by_cases hs0 : s < 0
  · simp only [hl, hs0, decide_true, decide_false, cond_true, cond_false]
  by_cases hs1 : 10000000 < s
  · simp only [hl, hs0, hs1, decide_true, decide_false, cond_true, cond_false]
  have hww : wi w c.2.1 c.2.2.1 = true := wi_iff.2 ⟨hw1, hw2⟩
  have hss : wi s 0 10000000 = true := wi_iff.2 ⟨by omega, by omega⟩
  obtain ⟨k, e1, e2, e3⟩ := P22_ok hb hk hf hww hss
  have hi : idsOk b.2.2 := fun r hr => ((okRs_RV (chk0 hk).2.2).2 r hr).1
  have hl' : b.2.2.length < 40 := by omega
  have aud : ∀ g : Int, pA f w (wthR b.2.2 (0, 2, f, w, 0, g)) = true := fun g => by simp [pA, wthR]
  have week : ∀ g : Int, chkV (wthV b (0, 2, f, w, 0, g)) = 0 → (weekV (wthV b (0, 2, f, w, 0, g)) f w).2 = 0 ∧ (weekV (wthV b (0, 2, f, w, 0, g)) f w).1.2.2.2.1 = shV b.1 c w g := fun g hg => by
    have e : weekV (wthV b (0, 2, f, w, 0, g)) f w = (acV (wthV b (0, 2, f, w, 0, g)) w c, 0) := weekV_ok hg hf ⟨hw1, hw2⟩
    have eg : grV (wthV b (0, 2, f, w, 0, g)).2.2 c.1 w = g := by rw [hcf]; exact gr_audit (aud g)
    rw [e]
    refine ⟨rfl, ?_⟩
    show shV b.1 c w (grV (wthV b (0, 2, f, w, 0, g)).2.2 c.1 w) = _
    rw [eg]
  have z30 : decide ((3 : Int) = 0) = false := rfl
  have z33 : decide ((3 : Int) = 3) = true := rfl
  have dl : decide ((40 : Int) ≤ b.2.2.length) = false := by simp; omega
  have ds0 : decide (s < 0) = false := by simp; omega
  have ds1 : decide (10000000 < s) = false := by simp; omega
  simp only [dl, ds0, ds1, cond_false, e1, bind_some']
  by_cases hk7 : 10000000 < k
  · have ek : rcK k = (0, 3) := by unfold rcK; have : decide ((10000000 : Int) < (k : Int)) = true := by simp; omega
                                   rw [this]; rfl
    have e6 : L6_0 (0, 3, b, (f, w, s), (0, 2, f, w, 0, 10000000)) = some (0, 3, b, (f, w, s), (0, 2, f, w, 0, 10000000)) := by simp only [L6_0, p6_0, q6_0, z30, cond_false]
    simp only [ek, z30, decide_true, Bool.not_false, Bool.not_true, cond_true, cond_false, e6, bind_some', P19_eq b _ hb hi, P20_eq _ (wth_sz (r := (0, 2, f, w, 0, 10000000)) hb (by omega))]
    by_cases ho : chkV (wthV b (0, 2, f, w, 0, 10000000)) = 0
    · obtain ⟨w1, w2⟩ := week 10000000 ho
      have hq : shV b.1 c w 10000000 < s := e3.1 10000000 (by omega) (by omega)
      have dq : decide (s ≤ shV b.1 c w 10000000) = false := by simp; omega
      simp only [ho, decide_true, Bool.not_true, cond_false, P17_eq _ f w (wth_sz (r := (0, 2, f, w, 0, 10000000)) hb (by omega)), bind_some', w1, w2, dq]
      rfl
    · simp only [ho, decide_false, Bool.not_false, cond_true]
  · have ek : rcK k = ((k : Int), 0) := by unfold rcK; have : decide ((10000000 : Int) < (k : Int)) = false := by simp; omega
                                           rw [this]; rfl
    have e6 : L6_0 ((k : Int), 0, b, (f, w, s), (0, 2, f, w, 0, 10000000)) = some ((k : Int), 0, b, (f, w, s), (0, 2, f, w, 0, (k : Int))) := by simp only [L6_0, p6_0, q6_0, decide_true, cond_true]
    have dk0 : decide ((k : Int) < 0) = false := by simp
    have dk1 : decide ((10000000 : Int) < (k : Int)) = false := by simp; omega
    simp only [ek, decide_true, Bool.not_true, cond_true, cond_false, dk0, dk1, e6, bind_some', P19_eq b _ hb hi, P20_eq _ (wth_sz (r := (0, 2, f, w, 0, (k : Int))) hb (by omega))]
    by_cases ho : chkV (wthV b (0, 2, f, w, 0, (k : Int))) = 0
    · obtain ⟨w1, w2⟩ := week k ho
      have hq : ¬ shV b.1 c w (k : Int) < s := e3.2 k (Nat.le_refl _) (by omega)
      have dq : decide (s ≤ shV b.1 c w (k : Int)) = true := by simp; omega
      simp only [ho, decide_true, Bool.not_true, cond_false, P17_eq _ f w (wth_sz (r := (0, 2, f, w, 0, (k : Int))) hb (by omega)), bind_some', w1, w2, dq]
      by_cases hk0 : k = 0
      · subst hk0; rfl
      · have dk : decide ((k : Int) = 0) = false := by simp; omega
        have ho' : chkV (wthV b (0, 2, f, w, 0, (k : Int) - 1)) = 0 := by
          rw [chk_wth hk hl'] at ho ⊢
          obtain ⟨c', f1, f2⟩ := okR_some ho
          have g1 : okR1 c' (wthR b.2.2 (0, 2, f, w, 0, (k : Int) - 1)) = true := by
            simp only [okR1, wthR, Bool.and_eq_true, wi_iff] at f2 ⊢
            refine ⟨f2.1, f2.2.1, f2.2.2.1, f2.2.2.2.1, by omega, by omega⟩
          unfold okR
          have f1' : fc b.2.1 (wthR b.2.2 (0, 2, f, w, 0, (k : Int) - 1)).2.2.1 = some c' := f1
          rw [f1']; exact g1
        obtain ⟨v1, v2⟩ := week ((k : Int) - 1) ho'
        have hq' : shV b.1 c w ((k : Int) - 1) < s := by
          have := e3.1 (k - 1) (by omega) (by omega)
          unfold RQ at this
          rwa [show ((k - 1 : Nat) : Int) = (k : Int) - 1 by omega] at this
        have dq' : decide (shV b.1 c w ((k : Int) - 1) < s) = true := by simp [hq']
        simp only [bne_self_eq_false, dk, cond_false, fitsN (show 0 ≤ (k : Int) - 1 by omega) (by omega), chk_t, P19_eq b _ hb hi, bind_some', P17_eq _ f w (wth_sz (r := (0, 2, f, w, 0, (k : Int) - 1)) hb (by omega)), v1, v2, decide_true, cond_true, dq']
    · simp only [ho, decide_false, Bool.not_false, cond_true]
theorem sumN_upd {f : Nat → Int} {t : Nat} {c : Int} : ∀ {n : Nat}, t < n → sumN n (fun k => if k = t then c else f k) = sumN n f - f t + c
  | 0, h => by omega
  | n + 1, h => by
    simp only [sumN]
    by_cases e : t = n
    · subst e
      rw [if_pos rfl, sumN_congr (g := f) fun k hk => if_neg (by omega)]; omega
    · rw [if_neg (fun h' => e h'.symm), sumN_upd (by omega)]; omega
def idV : Option RT → Int
  | some r => r.1
  | none => -1
theorem Pure.ShareMore' (b : BT) (r : RT) : P4 (b, r) = some true := by
  simp only [P4, p4, q4, P14_eq, bind_some', P15_eq]
  cases hv : vldV b r.2.2.1 r.2.2.2.1
  · rfl
  obtain ⟨hb, hfar, hk, c, hf, hc, hcf, hw1, hw2⟩ := vld_yes hv
  simp only [Bool.not_true, cond_false]
  by_cases hl : (40 : Int) ≤ b.2.2.length
  · simp only [hl, decide_true, cond_true]
  have hl' : b.2.2.length < 40 := by omega
  have dl : decide ((40 : Int) ≤ b.2.2.length) = false := by simp; omega
  have hRV := okRs_RV (chk0 hk).2.2
  have hi : idsOk b.2.2 := fun r hr => (hRV.2 r hr).1
  have hsz := wth_sz (r := r) hb (by omega)
  simp only [dl, cond_false, P19_eq b r hb hi, bind_some', P20_eq _ hsz]
  by_cases ho : ¬ chkV (wthV b r) = 0
  · simp only [ho, decide_false, Bool.not_false, cond_true]
  have ho := Classical.not_not.1 ho
  have ew := weekV_ok (b := b) hk hf ⟨hw1, hw2⟩
  have ew' : weekV (wthV b r) r.2.2.1 r.2.2.2.1 = (acV (wthV b r) r.2.2.2.1 c, 0) := weekV_ok ho hf ⟨hw1, hw2⟩
  have hxr := okR_b ((chk_wth hk hl').1 ho)
  have hx2 : (wthR b.2.2 r).2 = r.2 := rfl
  rw [hx2] at hxr
  obtain ⟨_, hkind, htill, hcents⟩ := hxr
  obtain ⟨u, hu⟩ : ∃ u : Nat, r.2.2.2.2.1 = (u : Int) := ⟨r.2.2.2.2.1.toNat, by omega⟩
  have hu9 : u < 10 := by omega
  have e4 : ∀ a a' : RT, ∃ y, L4_0 (false, 0, -1, 0, b, r, a, a') = some y ∧ y = ((top (pA r.2.2.1 r.2.2.2.1) b.2.2).isSome, cv (top (pT r.2.2.1 r.2.2.2.1 u) b.2.2), b, r, a, a') := fun a a' => by
    refine while_inv b.2.2.length (fun t s => s = ((top (pA r.2.2.1 r.2.2.2.1) (b.2.2.take t)).isSome, cv (top (pT r.2.2.1 r.2.2.2.1 u) (b.2.2.take t)), idV (top (pT r.2.2.1 r.2.2.2.1 u) (b.2.2.take t)), (t : Int), b, r, a, a')) _ rfl (by omega) ?_ ?_
    · rintro t s ht rfl
      have hr := hRV.2 _ (gt_mem ht)
      simp only [p4_0, q4_0, lt_nat_t ht, cond_true, inR_nat ht, chk_t, ix_gt, fits_nat (show t < 9223372036854775807 by omega), hu]
      rw [top_take _ _ ht, top_take _ _ ht]
      by_cases g1 : (gt b.2.2 t).2.2.1 = r.2.2.1
      · by_cases g2 : (gt b.2.2 t).2.2.2.1 = r.2.2.2.1
        · by_cases g3 : (gt b.2.2 t).2.1 = 2
          · have p1 : pA r.2.2.1 r.2.2.2.1 (gt b.2.2 t) = true := by simp [pA, g1, g2, g3]
            have p2 : pT r.2.2.1 r.2.2.2.1 u (gt b.2.2 t) = false := by simp [pT, g3]
            have d1 : decide ((gt b.2.2 t).2.1 = 1) = false := by simp [g3]
            have d2 : decide ((gt b.2.2 t).2.1 = 2) = true := by simp [g3]
            have d3 : (topS (pA r.2.2.1 r.2.2.2.1) (top (pA r.2.2.1 r.2.2.2.1) (b.2.2.take t)) (gt b.2.2 t)).isSome = true := by
              unfold topS; rw [p1, cond_true]; cases top (pA r.2.2.1 r.2.2.2.1) (b.2.2.take t) with
              | none => rfl
              | some x => simp only; split <;> rfl
            rw [topS_no p2, d3]
            simp only [g1, g2, d1, d2, decide_true, Bool.not_true, cond_false]
            cases (top (pA r.2.2.1 r.2.2.2.1) (b.2.2.take t)).isSome <;> exact ⟨_, rfl, rfl⟩
          · have k1 : (gt b.2.2 t).2.1 = 1 := by omega
            have p1 : pA r.2.2.1 r.2.2.2.1 (gt b.2.2 t) = false := by simp [pA, g3]
            have d1 : decide ((gt b.2.2 t).2.1 = 1) = true := by simp [k1]
            have d2 : decide ((gt b.2.2 t).2.1 = 2) = false := by simp [k1]
            rw [topS_no p1]
            simp only [g1, g2, d1, d2, decide_true, Bool.not_true, cond_false, cond_true]
            by_cases g4 : (gt b.2.2 t).2.2.2.2.1 = (u : Int)
            · have p2 : pT r.2.2.1 r.2.2.2.1 u (gt b.2.2 t) = true := by simp [pT, g1, g2, g3, g4]
              simp only [g4, decide_true, cond_true]
              unfold topS
              rw [p2, cond_true]
              cases htop : top (pT r.2.2.1 r.2.2.2.1 u) (b.2.2.take t) with
              | none =>
                have d3 : decide (idV none < (gt b.2.2 t).1) = true := decide_eq_true (show (-1 : Int) < (gt b.2.2 t).1 by omega)
                simp only [d3, cond_true]
                cases (top (pA r.2.2.1 r.2.2.2.1) (b.2.2.take t)).isSome <;> exact ⟨_, rfl, rfl⟩
              | some x =>
                by_cases g5 : x.1 < (gt b.2.2 t).1
                · have d3 : decide (idV (some x) < (gt b.2.2 t).1) = true := decide_eq_true (show x.1 < (gt b.2.2 t).1 from g5)
                  simp only [d3, cond_true, g5, if_true]
                  cases (top (pA r.2.2.1 r.2.2.2.1) (b.2.2.take t)).isSome <;> exact ⟨_, rfl, rfl⟩
                · have d3 : decide (idV (some x) < (gt b.2.2 t).1) = false := decide_eq_false (show ¬ x.1 < (gt b.2.2 t).1 from g5)
                  simp only [d3, cond_false, g5, if_false]
                  cases (top (pA r.2.2.1 r.2.2.2.1) (b.2.2.take t)).isSome <;> exact ⟨_, rfl, rfl⟩
            · have p2 : pT r.2.2.1 r.2.2.2.1 u (gt b.2.2 t) = false := by simp [pT, g4]
              rw [topS_no p2]
              simp only [g4, decide_false, cond_false]
              cases (top (pA r.2.2.1 r.2.2.2.1) (b.2.2.take t)).isSome <;> exact ⟨_, rfl, rfl⟩
        · rw [topS_no (by simp [pA, g2]), topS_no (by simp [pT, g2])]
          simp only [g1, g2, decide_true, decide_false, Bool.not_true, Bool.not_false, cond_false, cond_true]
          exact ⟨_, rfl, rfl⟩
      · rw [topS_no (by simp [pA, g1]), topS_no (by simp [pT, g1])]
        simp only [g1, decide_false, Bool.not_false, cond_true]
        exact ⟨_, rfl, rfl⟩
    · rintro s rfl
      simp only [p4_0, q4_0, lt_nat_f, cond_false, List.take_length]
      exact ⟨_, rfl, rfl⟩
  obtain ⟨y, e4, rfl⟩ := e4 (acV b r.2.2.2.1 c) (acV (wthV b r) r.2.2.2.1 c)
  have eg : (acV b r.2.2.2.1 c).1 = grV b.2.2 r.2.2.1 r.2.2.2.1 := by rw [← hcf]; rfl
  have eg' : (acV (wthV b r) r.2.2.2.1 c).1 = grV (b.2.2 ++ [wthR b.2.2 r]) r.2.2.1 r.2.2.2.1 := by rw [← hcf]; rfl
  have gb := grV_b (f := r.2.2.1) (w := r.2.2.2.1) hRV
  have ob := RV_top (p := pT r.2.2.1 r.2.2.2.1 u) hRV
  simp only [ho, decide_true, Bool.not_true, cond_false, P17_eq b _ _ hb, P17_eq _ _ _ hsz, ew, ew', bind_some', e4, eg, eg', eqR]
  by_cases hk2 : r.2.1 = 2
  · have : pA r.2.2.1 r.2.2.2.1 (wthR b.2.2 r) = true := by simp [pA, wthR, hk2]
    simp only [hk2, decide_true, cond_true, gr_audit this]
  have pA0 : pA r.2.2.1 r.2.2.2.1 (wthR b.2.2 r) = false := by simp [pA, wthR, hk2]
  simp only [hk2, decide_false, cond_false]
  cases haud : top (pA r.2.2.1 r.2.2.2.1) b.2.2 with
  | some x =>
    have es : acV (wthV b r) r.2.2.2.1 c = acV b r.2.2.2.1 c := by
      have : grV (wthV b r).2.2 c.1 r.2.2.2.1 = grV b.2.2 c.1 r.2.2.2.1 := by
        rw [hcf]
        show grV (b.2.2 ++ [wthR b.2.2 r]) r.2.2.1 r.2.2.2.1 = _
        unfold grV
        rw [top_old pA0, haud]
      unfold acV
      rw [this]; rfl
    simp only [Option.isSome_some, cond_true, es, decide_true]
  | none =>
    have hg : grV (b.2.2 ++ [wthR b.2.2 r]) r.2.2.1 r.2.2.2.1 = grV b.2.2 r.2.2.1 r.2.2.2.1 - cv (top (pT r.2.2.1 r.2.2.2.1 u) b.2.2) + r.2.2.2.2.2 := by
      unfold grV
      rw [top_old pA0, haud]
      simp only
      rw [← sumN_upd (f := fun t => cv (top (pT r.2.2.1 r.2.2.2.1 t) b.2.2)) (c := r.2.2.2.2.2) hu9]
      refine sumN_congr fun t ht => ?_
      by_cases e : t = u
      · subst e
        rw [if_pos rfl, top_new (by simp [pT, wthR, hk2, hu])]; rfl
      · rw [if_neg e, top_old (by simp [pT, wthR, hu]; intros; omega)]
    simp only [Option.isSome_none, cond_false, fits_of (show -9223372036854775808 ≤ grV b.2.2 r.2.2.1 r.2.2.2.1 - cv (top (pT r.2.2.1 r.2.2.2.1 u) b.2.2) by omega) (by omega), fits_of (show -9223372036854775808 ≤ grV b.2.2 r.2.2.1 r.2.2.2.1 - cv (top (pT r.2.2.1 r.2.2.2.1 u) b.2.2) + r.2.2.2.2.2 by omega) (by omega), chk_t, hg, decide_true, cond_true]
    by_cases hlt : r.2.2.2.2.2 < cv (top (pT r.2.2.1 r.2.2.2.1 u) b.2.2)
    · simp only [hlt, decide_true, cond_true]
    · obtain ⟨k1, k2, k3⟩ := okBs_b (chk0 hk).1
      have gb' := grV_b (f := r.2.2.1) (w := r.2.2.2.1) (okRs_RV (chk0 ho).2.2)
      have gb'' : grV (b.2.2 ++ [wthR b.2.2 r]) r.2.2.1 r.2.2.2.1 ≤ 100000000 := gb'.2
      have hm : shV b.1 c r.2.2.2.1 (grV b.2.2 r.2.2.1 r.2.2.2.1) ≤ shV b.1 c r.2.2.2.1 (grV (b.2.2 ++ [wthR b.2.2 r]) r.2.2.1 r.2.2.2.1) := sh_mono (k1 c hc) hw1 k2 gb.1 gb'' (by omega)
      have e1 : (acV b r.2.2.2.1 c).2.2.2.1 = shV b.1 c r.2.2.2.1 (grV b.2.2 r.2.2.1 r.2.2.2.1) := by rw [← hcf]; rfl
      have e2 : (acV (wthV b r) r.2.2.2.1 c).2.2.2.1 = shV b.1 c r.2.2.2.1 (grV (b.2.2 ++ [wthR b.2.2 r]) r.2.2.1 r.2.2.2.1) := by rw [← hcf]; rfl
      have dm : decide (shV b.1 c r.2.2.2.1 (grV b.2.2 r.2.2.1 r.2.2.2.1) ≤ shV b.1 c r.2.2.2.1 (grV (b.2.2 ++ [wthR b.2.2 r]) r.2.2.1 r.2.2.2.1)) = true := by simp [hm]
      simp only [hlt, decide_false, cond_false, e1, e2, dm, cond_true]
theorem Pure.ShareReach (b : BT) (_ : Wf TyB b) (x : Int × Int × Int) (_ : Wf TyA x) : P6 (b, x) = some true := Pure.ShareReach' b x
theorem Pure.ShareMore (b : BT) (_ : Wf TyB b) (r : RT) (_ : Wf TyR r) : P4 (b, r) = some true := Pure.ShareMore' b r
end Go.Proofs.Ytfknkinmnecoeaa.D
