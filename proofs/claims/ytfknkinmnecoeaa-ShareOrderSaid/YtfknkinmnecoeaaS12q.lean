/- Cut down from a longer text. -/
import Derived.Test.YtfknkinmnecoeaaS11q
import Derived.Test.YtfknkinmnecoeaaG9q
set_option linter.unusedVariables false
set_option linter.unusedSimpArgs false
namespace Go.Proofs.Ytfknkinmnecoeaa.D
open Go Go.Proofs Go.Proofs.Ytfknkinmnecoeaa.L
theorem weekV_ok' {b : BT} {f w : Int} {c : CT} (hk : chkV b = 0) (hf : fc b.2.1 f = some c) (hw : c.2.1 ≤ w ∧ w ≤ c.2.2.1) : weekV b f w = (acV b w c, 0) := by
  have hww : wi w c.2.1 c.2.2.1 = true := wi_iff.2 hw
  simp only [weekV, hk, hf, hww, if_true, cond_true, acV, (fc_some hf).2]
theorem P32_ok {b : BT} {more : List RT} (hb : szB b) (hk : chkV b = 0) (hm : more.length ≤ 40) (hR : okRs b.2.1 more = true) (hl : b.2.2.length + more.length ≤ 40) (hn : NC (b.2.2 ++ more)) :
    ∃ l', P32 (b, more) = some (b.1, 0, b.2.1, l') ∧ Asc l' ∧ (∀ x, x ∈ l' ↔ x ∈ b.2.2 ++ more) ∧ l'.length ≤ 40 := by
  have hall : (b.2.2 ++ more).length ≤ 2000 := by rw [List.length_append]; omega
  obtain ⟨v, l', e56, l1, l2⟩ := P56_eq (b.2.2 ++ more) (by rw [List.length_append]; omega)
  obtain ⟨y, e320, m, rfl, m1, m2⟩ := L32_0_eq b more l' (b.2.2 ++ more) v hall
  obtain ⟨r1, r2⟩ := okRs_iff.1 (chk0 hk).2.2
  obtain ⟨r3, r4⟩ := okRs_iff.1 hR
  have hokall : ∀ r ∈ b.2.2 ++ more, okR b.2.1 r = true := fun r hr => (List.mem_append.1 hr).elim (r1 r) (r3 r)
  have hids : idsOk (b.2.2 ++ more) := fun r hr => (okR_b (hokall r hr)).1
  obtain ⟨l3, l4⟩ := l2 hids
  have hv : v = true := l3.2 hn
  obtain ⟨l5, l6⟩ := l4 hv
  have hcnt : m.length ≤ 40 := by
    have q1 := nodup_le m1 (l' := (b.2.2 ++ more).map keyL) fun k hk => by
      obtain ⟨x, hx, e⟩ := (m2 k).1 hk
      exact List.mem_map.2 ⟨x, hx, e⟩
    simp only [List.length_map, List.length_append] at q1
    omega
  have hA' : (decide (more.length ≤ 40) && okRs b.2.1 more) = true := by simp [hm, hR]
  have n40 : decide (40 < (m.length : Int)) = false := by simp; omega
  subst hv
  refine ⟨l', ?_, l5, l6, ?_⟩
  · simp only [P32, p32, q32, P27_eq b hb, bind_some', hk, decide_true, Bool.not_true, cond_false, P57_eq _ _ hb.2.1 (show more.length ≤ 1000 by omega), e56, e320, P51_eq b more hb.1 (by omega), hA', n40, P58_eq _ hb.1, L32_1_eq b.1 b.2.1 l' hb.1 hb.2.2]
  · rw [List.length_append] at l1; omega
theorem mod_ne {i j t n : Nat} (h1 : i < j) (h2 : j < n) : (i + t) % n ≠ (j + t) % n := fun h => by
  have h3 := Nat.sub_mod_eq_zero_of_mod_eq h.symm
  rw [show j + t - (i + t) = j - i by omega, Nat.mod_eq_of_lt (by omega)] at h3
  omega
theorem mod_on {k t n : Nat} (h : k < n) : ∃ i, i < n ∧ (i + t) % n = k := by
  refine ⟨(k + (n - t % n)) % n, Nat.mod_lt _ (by omega), ?_⟩
  have h1 := Nat.div_add_mod t n
  have h2 := Nat.mod_lt t (show 0 < n by omega)
  rw [Nat.mod_add_mod, show k + (n - t % n) + t = k + n + n * (t / n) by omega, Nat.add_mul_mod_self_left, Nat.add_mod_right, Nat.mod_eq_of_lt h]
theorem tmod_nat (a n : Nat) : Int.tmod ((a : Nat) : Int) (n : Int) = ((a % n : Nat) : Int) := by
  rw [Int.tmod_eq_emod_of_nonneg (by omega)]; rfl
theorem fc_same {l l' : List CT} (hm : ∀ c, c ∈ l' ↔ c ∈ l) (hu : ∀ c ∈ l, ∀ c' ∈ l, c.1 = c'.1 → c = c') (f : Int) : fc l' f = fc l f := by
  cases h : fc l f with
  | none =>
    cases h' : fc l' f with
    | none => rfl
    | some c =>
      have := fc_some h'
      have h3 := List.find?_eq_none.1 h c ((hm c).1 this.1)
      simp [this.2] at h3
  | some c =>
    have h1 := fc_some h
    cases h' : fc l' f with
    | none =>
      have h3 := List.find?_eq_none.1 h' c ((hm c).2 h1.1)
      simp [h1.2] at h3
    | some c' =>
      have h2 := fc_some h'
      rw [hu c' ((hm c').1 h2.1) c h1.1 (by rw [h1.2, h2.2])]
theorem grV_same {l l' : List RT} (hm : ∀ x, x ∈ l' ↔ x ∈ l) (hn : NC l) (f w : Int) : grV l' f w = grV l f w := by
  unfold grV
  rw [top_eq hm hn]
  cases top (pA f w) l with
  | some r => rfl
  | none => exact sumN_congr fun t _ => by rw [top_eq hm hn]
theorem Pure.ShareOrder' (b : BT) (x : Int × Int × Int) (t : Int × Int) : P10 (b, x, t) = some true := by
  obtain ⟨f, w, s⟩ := x
  obtain ⟨by_, ct⟩ := t
  simp only [P10, p10, q10, P14_eq, bind_some', P15_eq]
  cases hv : vldV b f w
  · rfl
  obtain ⟨hb, hfar, hk, c, hf, hc, hcf, hw1, hw2⟩ := vld_yes hv
  simp only [Bool.not_true, cond_false]
  by_cases h20 : (20 : Int) < b.2.2.length
  · simp only [h20, decide_true, cond_true]
  by_cases hy0 : by_ < 0
  · simp only [h20, hy0, decide_true, decide_false, cond_true, cond_false]
  by_cases hy1 : 100 < by_
  · simp only [h20, hy0, hy1, decide_true, decide_false, cond_true, cond_false]
  by_cases hc0 : ct < 0
  · simp only [h20, hy0, hy1, hc0, decide_true, decide_false, cond_true, cond_false]
  by_cases hc1 : (b.2.2.length : Int) < ct
  · simp only [h20, hy0, hy1, hc0, hc1, decide_true, decide_false, cond_true, cond_false]
  obtain ⟨t, rfl⟩ : ∃ t : Nat, by_ = (t : Int) := ⟨by_.toNat, by omega⟩
  obtain ⟨u, rfl⟩ : ∃ u : Nat, ct = (u : Int) := ⟨ct.toNat, by omega⟩
  obtain ⟨hB, hR40, hR⟩ := chk0 hk
  obtain ⟨k1, k2, k3⟩ := okBs_b hB
  obtain ⟨r1, r2⟩ := okRs_iff.1 hR
  have hn20 : b.2.2.length ≤ 20 := by omega
  have hu : u ≤ b.2.2.length := by omega
  obtain ⟨y0, e0, R, rfl, R1, R2, R3⟩ : ∃ y, L10_0 (0, b, (f, w, s), ((t : Int), (u : Int)), b.1, []) = some y ∧ ∃ R : List RT, y = (b, (f, w, s), ((t : Int), (u : Int)), b.1, R) ∧ R.length = 2 * b.2.2.length ∧ (∀ x ∈ R, x ∈ b.2.2) ∧ ∀ j, j < b.2.2.length → gt b.2.2 j ∈ R := by
    refine while_inv b.2.2.length (fun k s' => ∃ R : List RT, s' = ((k : Int), b, (f, w, s), ((t : Int), (u : Int)), b.1, R) ∧ R.length = 2 * k ∧ (∀ x ∈ R, x ∈ b.2.2) ∧ ∀ j, j < k → gt b.2.2 j ∈ R) _ ⟨[], rfl, rfl, by simp, fun j hj => by omega⟩ (by omega) ?_ ?_
    · rintro k s' hk' ⟨R, rfl, R1, R2, R3⟩
      have hmod : (k + t) % b.2.2.length < b.2.2.length := Nat.mod_lt _ (by omega)
      have cc : (k : Int) + (t : Int) = ((k + t : Nat) : Int) := by omega
      have nz : decide ((b.2.2.length : Int) ≠ 0) = true := decide_eq_true (by omega)
      have cap : capOk 48 (R.length + [gt b.2.2 ((k + t) % b.2.2.length), gt b.2.2 k].length) = true := capOk_of (by simp only [List.length_cons, List.length_nil]; omega)
      simp only [p10_0, q10_0, lt_nat_t hk', cond_true, cc, fitsN (show (0 : Int) ≤ ((k + t : Nat) : Int) by omega) (by omega), chk_t, nz, tmod_nat, inR_nat hmod, inR_nat hk', ix_gt, cap, fits_nat (show k < 9223372036854775807 by omega)]
      refine ⟨_, rfl, _, by rw [cast_succ], by simp only [List.length_append, List.length_cons, List.length_nil]; omega, fun x hx => ?_, fun j hj => ?_⟩
      · rcases List.mem_append.1 hx with h | h
        · exact R2 x h
        · simp only [List.mem_cons, List.not_mem_nil, or_false] at h
          rcases h with h | h
          · rw [h]; exact gt_mem hmod
          · rw [h]; exact gt_mem hk'
      · by_cases e : j = k
        · subst e; simp
        · exact List.mem_append.2 (.inl (R3 j (by omega)))
    · rintro s' ⟨R, rfl, R1, R2, R3⟩
      simp only [p10_0, q10_0, lt_nat_f, cond_false]
      exact ⟨_, rfl, R, rfl, R1, R2, R3⟩
  have hRm : ∀ x, x ∈ R ↔ x ∈ b.2.2 := fun x => ⟨R2 x, fun h => by obtain ⟨j, hj, e⟩ := mem_gt h; rw [← e]; exact R3 j hj⟩
  obtain ⟨y1, e1, C, rfl, C1, C2⟩ : ∃ y, L10_1 (0, b, (f, w, s), ((t : Int), (u : Int)), b.1, [], R) = some y ∧ ∃ C : List CT, y = (b, (f, w, s), ((t : Int), (u : Int)), b.1, R, C) ∧ C.length = b.2.1.length ∧ ∀ j, j < b.2.1.length → gt C j = gt b.2.1 ((j + t) % b.2.1.length) := by
    refine while_inv b.2.1.length (fun k s' => ∃ C : List CT, s' = ((k : Int), b, (f, w, s), ((t : Int), (u : Int)), b.1, C, R) ∧ C.length = k ∧ ∀ j, j < k → gt C j = gt b.2.1 ((j + t) % b.2.1.length)) _ ⟨[], rfl, rfl, fun j hj => by omega⟩ (by omega) ?_ ?_
    · rintro k s' hk' ⟨C, rfl, C1, C2⟩
      have hmod : (k + t) % b.2.1.length < b.2.1.length := Nat.mod_lt _ (by omega)
      have cc : (k : Int) + (t : Int) = ((k + t : Nat) : Int) := by omega
      have nz : decide ((b.2.1.length : Int) ≠ 0) = true := decide_eq_true (by omega)
      have cap : capOk 104 (C.length + [gt b.2.1 ((k + t) % b.2.1.length)].length) = true := capOk_of (by simp only [List.length_cons, List.length_nil]; omega)
      simp only [p10_1, q10_1, lt_nat_t hk', cond_true, cc, fitsN (show (0 : Int) ≤ ((k + t : Nat) : Int) by omega) (by omega), chk_t, nz, tmod_nat, inR_nat hmod, ix_gt, cap, fits_nat (show k < 9223372036854775807 by omega)]
      refine ⟨_, rfl, _, by rw [cast_succ], by simp only [List.length_append, List.length_cons, List.length_nil]; omega, fun j hj => ?_⟩
      rw [gt_append]
      by_cases e : j < C.length
      · rw [if_pos e]; exact C2 j (by omega)
      · have : j = k := by omega
        subst this
        rw [if_neg e, C1, Nat.sub_self]; rfl
    · rintro s' ⟨C, rfl, C1, C2⟩
      simp only [p10_1, q10_1, lt_nat_f, cond_false]
      exact ⟨_, rfl, C, rfl, C1, C2⟩
  have hCm : ∀ x, x ∈ C ↔ x ∈ b.2.1 := fun x => by
    constructor
    · intro h
      obtain ⟨j, hj, e⟩ := mem_gt h
      rw [← e, C2 j (by omega)]
      exact gt_mem (Nat.mod_lt _ (by omega))
    · intro h
      obtain ⟨k, hk', e⟩ := mem_gt h
      obtain ⟨i, hi, hik⟩ := mod_on (t := t) hk'
      rw [← e, ← hik, ← C2 i hi]
      exact gt_mem (by omega)
  have hdis : ∀ i j, i < b.2.1.length → j < b.2.1.length → i ≠ j → (gt b.2.1 i).1 ≠ (gt b.2.1 j).1 := fun i j hi hj hij => by
    simp only [okBs, Bool.and_eq_true, allB_true] at hB
    rcases Nat.lt_or_ge i j with h | h
    · simpa using (hB.1 j hj).2 i h
    · have := (hB.1 i hi).2 j (by omega)
      intro e; simp [e] at this
  have huniq : ∀ c ∈ b.2.1, ∀ c' ∈ b.2.1, c.1 = c'.1 → c = c' := fun c hc c' hc' e => by
    obtain ⟨i, hi, rfl⟩ := mem_gt hc
    obtain ⟨j, hj, rfl⟩ := mem_gt hc'
    by_cases h : i = j
    · rw [h]
    · exact absurd e (hdis i j hi hj h)
  have hfc : ∀ f, fc C f = fc b.2.1 f := fun f => fc_same hCm huniq f
  have hokR : ∀ r, okR C r = okR b.2.1 r := fun r => by unfold okR; rw [hfc]
  have hoB : okBs (b.1, C, R) = true := by
    simp only [okBs, Bool.and_eq_true, allB_true, wi_iff, decide_eq_true_eq]
    refine ⟨fun i hi => ⟨k1 _ ((hCm _).1 (gt_mem hi)), fun j hj => ?_⟩, k2, by omega⟩
    have hi' : i < b.2.1.length := by omega
    have hj' : j < b.2.1.length := by omega
    have := hdis ((j + t) % b.2.1.length) ((i + t) % b.2.1.length) (Nat.mod_lt _ (by omega)) (Nat.mod_lt _ (by omega)) (mod_ne hj hi')
    rw [C2 i hi', C2 j hj']
    simpa using this
  have hoR : okRs C R = true := by
    rw [okRs_iff]
    exact ⟨fun r hr => by rw [hokR]; exact r1 r (R2 r hr), fun x hx y hy => r2 x (R2 x hx) y (R2 y hy)⟩
  have hko : chkV (b.1, C, R) = 0 := by
    have e2 : decide (R.length ≤ 40) = true := by simp; omega
    unfold chkV
    rw [hoB]
    show cond true (cond (decide (R.length ≤ 40) && okRs C R) 0 81) 80 = 0
    rw [e2, hoR]; rfl
  have hso : szB (b.1, C, R) := ⟨by show C.length ≤ 1000; rw [C1]; exact hb.1, by show R.length ≤ 1000; omega, fun c hc => hb.2.2 c ((hCm c).1 hc)⟩
  have hgr : ∀ f w, grV R f w = grV b.2.2 f w := fun f w => grV_same hRm r2 f w
  have ew := weekV_ok' (b := b) hk hf ⟨hw1, hw2⟩
  have ew' : weekV (b.1, C, R) f w = (acV b w c, 0) := by
    rw [weekV_ok' (b := (b.1, C, R)) (c := c) hko ((hfc f).trans hf) ⟨hw1, hw2⟩]
    unfold acV
    rw [hgr]
  have hcb := okC_b (k1 c hc)
  have h99 : wi w 0 99 = true := wi_iff.2 ⟨by omega, by omega⟩
  have ed : duV b f w = (dueV b c w, 0) := by simp only [duV, hk, hf, h99, if_true, cond_true]
  have ed' : duV (b.1, C, R) f w = (dueV b c w, 0) := by
    have hs : shW (b.1, C, R) c = shW b c := funext fun k => by unfold shW; rw [hgr]
    simp only [duV, hko, (hfc f).trans hf, h99, if_true, cond_true]
    unfold dueV
    rw [hs]
  obtain ⟨l1, p1, p2, p3, p4⟩ := P32_ok (b := b) (more := []) hb hk (by simp) (by rfl) (by simp; omega) (by rw [List.append_nil]; exact r2)
  have ec0 : cutL b.2.2 0 (u : Int) = b.2.2.take u := by simp [cutL]
  have ec1 : cutL b.2.2 (u : Int) (b.2.2.length : Int) = b.2.2.drop u := by
    simp only [cutL, Int.toNat_natCast]
    have : ((b.2.2.length : Int) - (u : Int)).toNat = (b.2.2.drop u).length := by simp
    rw [this, List.take_length]
  have htd : b.2.2.take u ++ b.2.2.drop u = b.2.2 := List.take_append_drop u b.2.2
  have hkf : chkV (b.1, b.2.1, b.2.2.take u) = 0 := by
    have e2 : decide ((b.2.2.take u).length ≤ 40) = true := by simp; omega
    have e3 : okRs b.2.1 (b.2.2.take u) = true := okRs_iff.2 ⟨fun r hr => r1 r (List.mem_of_mem_take hr), fun x hx y hy => r2 x (List.mem_of_mem_take hx) y (List.mem_of_mem_take hy)⟩
    have e1 : okBs (b.1, b.2.1, b.2.2.take u) = true := hB
    unfold chkV
    rw [e1]
    show cond true (cond (decide ((b.2.2.take u).length ≤ 40) && okRs b.2.1 (b.2.2.take u)) 0 81) 80 = 0
    rw [e2, e3]; rfl
  have hsf : szB (b.1, b.2.1, b.2.2.take u) := ⟨hb.1, by show (b.2.2.take u).length ≤ 1000; simp; omega, hb.2.2⟩
  obtain ⟨l2, q1, q2, q3, q4⟩ := P32_ok (b := (b.1, b.2.1, b.2.2.take u)) (more := b.2.2.drop u) hsf hkf (by simp; omega) (okRs_iff.2 ⟨fun r hr => r1 r (List.mem_of_mem_drop hr), fun x hx y hy => r2 x (List.mem_of_mem_drop hx) y (List.mem_of_mem_drop hy)⟩) (by show (b.2.2.take u).length + _ ≤ 40; simp; omega) (by show NC (b.2.2.take u ++ b.2.2.drop u); rw [htd]; exact r2)
  have hll : l2 = l1 := asc_eq q2 p2 fun x => by
    rw [q3, p3]
    show x ∈ b.2.2.take u ++ b.2.2.drop u ↔ x ∈ b.2.2 ++ []
    rw [htd, List.append_nil]
  subst hll
  have hz : szB (b.1, b.2.1, l2) := ⟨hb.1, by show l2.length ≤ 1000; omega, hb.2.2⟩
  have b0 : decide ((0 : Int) ≤ 0) = true := rfl
  have b1 : decide ((0 : Int) ≤ (u : Int)) = true := by simp
  have b2 : decide ((u : Int) ≤ (b.2.2.length : Int)) = true := by simp; omega
  have b3 : decide ((b.2.2.length : Int) ≤ (b.2.2.length : Int)) = true := by simp
  simp only [h20, hy0, hy1, hc0, hc1, decide_false, cond_false, P24_eq b hb, bind_some', e0, e1, P17_eq b f w hb, P17_eq (b.1, C, R) f w hso, P21_eq b f w hb, P21_eq (b.1, C, R) f w hso, ew, ew', ed, ed', p1, b0, b1, b2, b3, chk_t, ec0, ec1, q1, decide_true, cond_true, Bool.and_self, P31_refl _ hz]
theorem Pure.ShareOrder (b : BT) (_ : Wf TyB b) (x : Int × Int × Int) (_ : Wf TyA x) (t : Int × Int) (_ : Wf (.pair (.int .i64) (.int .i64)) t) : P10 (b, x, t) = some true := Pure.ShareOrder' b x t
end Go.Proofs.Ytfknkinmnecoeaa.D
