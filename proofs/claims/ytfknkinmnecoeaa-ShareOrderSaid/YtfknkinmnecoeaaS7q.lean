/- Cut down from a longer text. -/
import Derived.Test.YtfknkinmnecoeaaS6q
set_option linter.unusedVariables false
set_option linter.unusedSimpArgs false
namespace Go.Proofs.Ytfknkinmnecoeaa.D
open Go Go.Proofs Go.Proofs.Ytfknkinmnecoeaa.L
theorem take_gt' {α : Type} [Inhabited α] (l : List α) {n : Nat} (h : n < l.length) : l.take (n + 1) = l.take n ++ [gt l n] := by
  rw [List.take_add_one, List.getElem?_eq_getElem h, gt_lt h]; rfl
theorem P24_eq (b : BT) (hb : szB b) : P24 b = some b := by
  obtain ⟨h1, h2, h3⟩ := hb
  have e : L24_0 (0, b, 0, b.1, [], b.2.2) = some (b, 0, b.1, b.2.2, b.2.1) :=
    while_run (step := fun x => p24_0 x.1 x.2.1 x.2.2.1 x.2.2.2.1 x.2.2.2.2.1 x.2.2.2.2.2) b.2.1.length (fun k => ((k : Int), b, 0, b.1, b.2.1.take k, b.2.2)) _ (fun k hk => by
      have hc := h3 _ (gt_mem hk)
      have c1 : capOk 8 (gt b.2.1 k).2.2.2.1.length = true := capOk_of (by have := hc.1; omega)
      have c2 : capOk 16 (gt b.2.1 k).2.2.2.2.1.length = true := capOk_of (by have := hc.2; omega)
      have c3 : capOk 104 ((b.2.1.take k).length + [gt b.2.1 k].length) = true := capOk_of (by simp; omega)
      simp only [p24_0, q24_0, lt_nat_t hk, cond_true, inR_nat hk, chk_t, ix_gt, c1, c2, c3, fits_nat (show k < 9223372036854775807 by omega), cast_succ, take_gt' b.2.1 hk]) (by
      simp only [p24_0, q24_0, lt_nat_f, cond_false, List.take_length]) (by omega)
  have c0 : capOk 48 b.2.2.length = true := capOk_of (by omega)
  simp only [P24, p24, q24, c0, chk_t, e, bind_some']
def farV (b : BT) : Bool := decide ((20 : Int) < b.2.1.length) || (decide ((60 : Int) < b.2.2.length) || !(allB b.2.1.length fun k => !decide ((30 : Int) < (gt b.2.1 k).2.2.2.1.length) && !decide ((30 : Int) < (gt b.2.1 k).2.2.2.2.1.length)))
theorem P23_eq (b : BT) : P23 b = some (farV b) := by
  simp only [P23, p23, q23, farV]
  cases h1 : decide ((20 : Int) < b.2.1.length)
  · have hl : b.2.1.length ≤ 20 := by simp at h1; omega
    cases decide ((60 : Int) < b.2.2.length)
    · have e : L23_0 (0, b) = some (cond (allB b.2.1.length fun k => !decide ((30 : Int) < (gt b.2.1 k).2.2.2.1.length) && !decide ((30 : Int) < (gt b.2.1 k).2.2.2.2.1.length)) (.inr b) (.inl (true, b))) :=
        while_all b.2.1.length (fun k => ((k : Int), b)) (fun k => !decide ((30 : Int) < (gt b.2.1 k).2.2.2.1.length) && !decide ((30 : Int) < (gt b.2.1 k).2.2.2.2.1.length)) _ _ (fun k hk => by
          simp only [p23_0, q23_0, lt_nat_t hk, cond_true, inR_nat hk, chk_t, ix_gt, fits_nat (show k < 9223372036854775807 by omega), cast_succ]
          cases decide ((30 : Int) < (gt b.2.1 k).2.2.2.1.length) <;> cases decide ((30 : Int) < (gt b.2.1 k).2.2.2.2.1.length) <;> rfl) (by simp only [p23_0, q23_0, lt_nat_f, cond_false]) (by omega)
      simp only [cond_false, e, bind_some', Bool.false_or]
      cases allB b.2.1.length fun k => !decide ((30 : Int) < (gt b.2.1 k).2.2.2.1.length) && !decide ((30 : Int) < (gt b.2.1 k).2.2.2.2.1.length) <;> rfl
    · rfl
  · rfl
theorem far_no {b : BT} (h : farV b = false) : b.2.1.length ≤ 20 ∧ b.2.2.length ≤ 60 ∧ ∀ c ∈ b.2.1, c.2.2.2.1.length ≤ 30 ∧ c.2.2.2.2.1.length ≤ 30 := by
  simp only [farV, Bool.or_eq_false_iff, decide_eq_false_iff_not, Bool.not_eq_false'] at h
  refine ⟨by omega, by omega, fun c hc => ?_⟩
  have := all_gt (p := fun c : CT => !decide ((30 : Int) < c.2.2.2.1.length) && !decide ((30 : Int) < c.2.2.2.2.1.length)).1 h.2.2 c hc
  simp only [Bool.and_eq_true, Bool.not_eq_true', decide_eq_false_iff_not] at this
  omega
theorem far_sz {b : BT} (h : farV b = false) : szB b := by
  obtain ⟨h1, h2, h3⟩ := far_no h
  exact ⟨by omega, by omega, fun c hc => by have := h3 c hc; omega⟩
def vldV (b : BT) (f w : Int) : Bool := !farV b && (decide (chkV b = 0) && (match fc b.2.1 f with
  | some c => wi w c.2.1 c.2.2.1
  | none => false))
theorem P14_eq (b : BT) (f w s : Int) : P14 (b, f, w, s) = some (vldV b f w) := by
  simp only [P14, p14, q14, P23_eq, bind_some', vldV]
  cases h : farV b
  · have hb := far_sz h
    simp only [cond_false, P20_eq b hb, bind_some', Bool.not_false, Bool.true_and]
    cases decide (chkV b = 0)
    · rfl
    simp only [Bool.not_true, cond_false, P16_eq b f hb.1, bind_some', Bool.true_and]
    cases fc b.2.1 f with
    | none => rfl
    | some c =>
      simp only [crV, cond_true]
      exact wi_cond w c.2.1 c.2.2.1
  · rfl
theorem vld_yes {b : BT} {f w : Int} (h : vldV b f w = true) : szB b ∧ farV b = false ∧ chkV b = 0 ∧ ∃ c, fc b.2.1 f = some c ∧ c ∈ b.2.1 ∧ c.1 = f ∧ c.2.1 ≤ w ∧ w ≤ c.2.2.1 := by
  simp only [vldV, Bool.and_eq_true, Bool.not_eq_true', decide_eq_true_eq] at h
  obtain ⟨h1, h2, h3⟩ := h
  cases hf : fc b.2.1 f with
  | none => rw [hf] at h3; cases h3
  | some c =>
    rw [hf] at h3
    have := wi_iff.1 h3
    exact ⟨far_sz h1, h1, h2, c, rfl, (fc_some hf).1, (fc_some hf).2, this.1, this.2⟩
def bal (r : RT) : Bool := decide (r.1 = r.2.1 + r.2.2.1) && (decide (r.2.2.1 = r.2.2.2.1 + r.2.2.2.2.1) && decide (0 ≤ min (min (min (min r.1 r.2.1) r.2.2.1) r.2.2.2.1) r.2.2.2.2.1))
def Ex : BT := (100, [(5, 10, 12, [600, 500], [(20000, 700)], 8000, 900, 3000, 40000)], [(1, 1, 5, 10, 0, 20000), (2, 1, 5, 10, 1, 10000), (3, 1, 5, 11, 0, 5000), (4, 1, 5, 11, 0, 4000), (5, 2, 5, 12, 0, 10001)])
def ExC : CT := (5, 10, 12, [600, 500], [(20000, 700)], 8000, 900, 3000, 40000)
theorem ex_sz : szB Ex := ⟨by decide, by decide, fun c hc => by
  have : c = ExC := by simp only [Ex, List.mem_singleton] at hc; exact hc
  subst this; decide⟩
theorem ex_chk : chkV Ex = 0 := by decide +kernel
theorem ex_w : weekV Ex 5 10 = ((30000, 3000, 27000, 18900, 8100, 1), 0) := by decide +kernel
theorem ex_d : duV Ex 5 12 = (40000, 0) := by decide +kernel
theorem ex_r : P22 (Ex, 5, 11, 3000) = some (3333, 0) := by
  obtain ⟨k, h1, h2, h3⟩ := P22_ok (b := Ex) (c := ExC) (f := 5) (w := 11) (s := 3000) ex_sz ex_chk rfl (by decide +kernel) (by decide +kernel)
  have hm := RQ_mono (b := Ex) (c := ExC) (w := 11) 3000 ex_chk (by simp [Ex, ExC]) (by decide)
  have a1 : RQ Ex ExC 11 3000 3332 := (by decide +kernel : shV 100 ExC 11 3332 < 3000)
  have a2 : ¬ RQ Ex ExC 11 3000 3333 := (by decide +kernel : ¬ shV 100 ExC 11 3333 < 3000)
  have : k = 3333 := cut_unique h3 ⟨fun p h4 h5 => hm p 3332 h4 (by omega) (by omega) a1, fun p h4 h5 h6 => a2 (hm 3333 p (by omega) h4 h5 h6)⟩ (by omega) h2 (by omega) (by omega)
  rw [h1, this]; rfl
theorem P15_eq : P15 () = some true := by
  have e0 : P38 () = some Ex := rfl
  simp only [P15, p15, q15, e0, bind_some', P17_eq Ex 5 10 ex_sz, P21_eq Ex 5 12 ex_sz, ex_w, ex_d, ex_r]
  decide +kernel
end Go.Proofs.Ytfknkinmnecoeaa.D
