/- Cut down from a longer text. -/
import Derived.Test.YtfknkinmnecoeaaS4q
set_option linter.unusedVariables false
set_option linter.unusedSimpArgs false
namespace Go.Proofs.Ytfknkinmnecoeaa.D
open Go Go.Proofs Go.Proofs.Ytfknkinmnecoeaa.L
theorem okC_b {c : CT} (h : okC c = true) : (0 ≤ c.1 ∧ c.1 ≤ 99) ∧ 0 ≤ c.2.1 ∧ c.2.1 ≤ c.2.2.1 ∧ c.2.2.1 ≤ 99 ∧ (1 ≤ (c.2.2.2.1.length : Int) ∧ (c.2.2.2.1.length : Int) ≤ 6) ∧ c.2.2.2.2.1.length ≤ 4 ∧ (0 ≤ c.2.2.2.2.2.1 ∧ c.2.2.2.2.2.1 ≤ 10000000) ∧ (0 ≤ c.2.2.2.2.2.2.2.1 ∧ c.2.2.2.2.2.2.2.1 ≤ 10000000) ∧ (0 ≤ c.2.2.2.2.2.2.1 ∧ c.2.2.2.2.2.2.1 ≤ 1000) ∧ (0 ≤ c.2.2.2.2.2.2.2.2 ∧ c.2.2.2.2.2.2.2.2 ≤ 100000000) ∧ (∀ k, k < c.2.2.2.1.length → 0 ≤ gt c.2.2.2.1 k ∧ gt c.2.2.2.1 k ≤ 1000) ∧ ∀ k, k < c.2.2.2.2.1.length → (0 ≤ (gt c.2.2.2.2.1 k).1 ∧ (gt c.2.2.2.2.1 k).1 ≤ 10000000) ∧ 0 ≤ (gt c.2.2.2.2.1 k).2 ∧ (gt c.2.2.2.2.1 k).2 ≤ 1000 := by
  simp only [okC, okT, Bool.and_eq_true, decide_eq_true_eq, wi_iff, allB_true] at h
  obtain ⟨h1, h2, h3, h4, h5, h6, h7, h8, h9, h10, h11, h12⟩ := h
  exact ⟨h1, h2, h3, h4, h5, h6, h7, h8, h9, h10, h11, fun k hk => ⟨(h12 k hk).1, (h12 k hk).2.1⟩⟩
def mll (net : Int) (t : List (Int × Int)) (p : Int) : Nat → Int
  | 0 => p
  | n + 1 => if (gt t n).1 ≤ net then max (mll net t p n) (gt t n).2 else mll net t p n
def mlV (c : CT) (week net : Int) : Int := mll net c.2.2.2.2.1 (gt c.2.2.2.1 (min (week - c.2.1) (c.2.2.2.1.length - 1)).toNat) c.2.2.2.2.1.length
def td (n : Int) : Int := Int.tdiv n 1000
def stS (c : CT) (week net : Int) : Int := td (net * mlV c week net)
def stN (c : CT) (net : Int) : Int := td (max 0 (net - c.2.2.2.2.2.1) * c.2.2.2.2.2.2.1)
def stM (c : CT) (week net : Int) : Int := max (max (stS c week net) (stN c net)) c.2.2.2.2.2.2.2.1
def stR (c : CT) (week net : Int) : Int := if stM c week net = stS c week net then 1 else if stM c week net = stN c net then 2 else 3
def netV (tax gross : Int) : Int := gross - td (gross * tax)
def shV (tax : Int) (c : CT) (week gross : Int) : Int := min (netV tax gross) (stM c week (netV tax gross))
def stV (tax : Int) (c : CT) (week gross : Int) : RT := (gross, td (gross * tax), netV tax gross, shV tax c week gross, netV tax gross - shV tax c week gross, stR c week (netV tax gross))
theorem td_eq {n : Int} (h : 0 ≤ n) : td n = n / 1000 := Int.tdiv_eq_ediv_of_nonneg h
theorem td_b {a b u v : Int} (h1 : 0 ≤ a) (h2 : a ≤ u) (h3 : 0 ≤ b) (h4 : b ≤ 1000) : 0 ≤ a * b ∧ a * b ≤ 1000 * u ∧ 0 ≤ td (a * b) ∧ td (a * b) ≤ a := by
  have e1 : 0 ≤ a * b := Int.mul_nonneg h1 h3
  have e2 : a * b ≤ a * 1000 := Int.mul_le_mul_of_nonneg_left h4 h1
  rw [td_eq e1]
  omega
theorem mll_b {net p : Int} {t : List (Int × Int)} (hp : 0 ≤ p ∧ p ≤ 1000) (ht : ∀ k, k < t.length → 0 ≤ (gt t k).2 ∧ (gt t k).2 ≤ 1000) : ∀ n, n ≤ t.length → 0 ≤ mll net t p n ∧ mll net t p n ≤ 1000
  | 0, _ => hp
  | n + 1, h => by
    have h1 := mll_b (net := net) hp ht n (by omega)
    have h2 := ht n (by omega)
    unfold mll; split <;> omega
structure AOk (tax : Int) (c : CT) (week gross : Int) : Prop where
  ok : okC c = true
  t : 0 ≤ tax ∧ tax ≤ 500
  w : c.2.1 ≤ week ∧ week ≤ 99
  g : 0 ≤ gross ∧ gross ≤ 100000000
theorem idx_b {c : CT} {week : Int} (h : okC c = true) (hw : c.2.1 ≤ week) : 0 ≤ min (week - c.2.1) ((c.2.2.2.1.length : Int) - 1) ∧ min (week - c.2.1) ((c.2.2.2.1.length : Int) - 1) < c.2.2.2.1.length := by
  have := (okC_b h).2.2.2.2.1
  omega
theorem ml_b {c : CT} {week net : Int} (h : okC c = true) (hw : c.2.1 ≤ week) : 0 ≤ mlV c week net ∧ mlV c week net ≤ 1000 := by
  obtain ⟨_, _, _, _, h5, _, _, _, _, _, h11, h12⟩ := okC_b h
  have := idx_b h hw
  exact mll_b (h11 _ (by omega)) (fun k hk => (h12 k hk).2) _ (Nat.le_refl _)
theorem net_b {tax gross : Int} (ht : 0 ≤ tax ∧ tax ≤ 500) (hg : 0 ≤ gross ∧ gross ≤ 100000000) : 0 ≤ netV tax gross ∧ netV tax gross ≤ gross := by
  have := td_b (u := 100000000) (v := 0) hg.1 hg.2 ht.1 (by omega)
  unfold netV; omega
theorem st_b {c : CT} {week net : Int} (h : okC c = true) (hw : c.2.1 ≤ week) (hn : 0 ≤ net ∧ net ≤ 100000000) : (0 ≤ stS c week net ∧ stS c week net ≤ 100000000) ∧ (0 ≤ stN c net ∧ stN c net ≤ 100000000) ∧ 0 ≤ stM c week net ∧ stM c week net ≤ 100000000 := by
  obtain ⟨_, _, _, _, _, _, h7, h8, h9, _⟩ := okC_b h
  have m := ml_b (net := net) h hw
  have a := td_b (u := 100000000) (v := 0) hn.1 hn.2 m.1 m.2
  have b := td_b (u := 100000000) (v := 0) (a := max 0 (net - c.2.2.2.2.2.1)) (b := c.2.2.2.2.2.2.1) (by omega) (by omega) h9.1 h9.2
  unfold stM stS stN
  omega
theorem st_bal {tax : Int} {c : CT} {week gross : Int} (h : AOk tax c week gross) : 0 ≤ td (gross * tax) ∧ td (gross * tax) ≤ gross ∧ 0 ≤ netV tax gross ∧ 0 ≤ shV tax c week gross ∧ shV tax c week gross ≤ netV tax gross ∧ netV tax gross ≤ 100000000 := by
  have a := td_b (u := 100000000) (v := 0) h.g.1 h.g.2 h.t.1 (by have := h.t; omega)
  have n := net_b h.t h.g
  have s := (st_b (net := netV tax gross) h.ok h.w.1 (by have := h.g; omega)).2.2
  have := h.g
  unfold shV
  omega
theorem P65_eq (a b c : Int) : P65 (0, 3, [a, b, c]) = some (max (max a b) c, [a, b, c]) := by
  have e : L65_0 (0, 3, a, 1, [a, b, c]) = some (max (max a b) c, [a, b, c]) :=
    while_run (step := fun x => p65_0 x.1 x.2.1 x.2.2.1 x.2.2.2.1 x.2.2.2.2) 2 (fun k => (0, 3, (match k with
      | 0 => a
      | 1 => max a b
      | _ => max (max a b) c), ((k + 1 : Nat) : Int), [a, b, c])) _ (fun i hi => by
        match i, hi with
        | 0, _ => exact (by kernel_rfl : p65_0 0 3 a 1 [a, b, c] = some (.inl (0, 3, max a b, 2, [a, b, c])))
        | 1, _ => exact (by kernel_rfl : p65_0 0 3 (max a b) 2 [a, b, c] = some (.inl (0, 3, max (max a b) c, 3, [a, b, c])))) (by kernel_rfl) (by omega)
  have e2 : P65 (0, 3, [a, b, c]) = (L65_0 (0, 3, a, 1, [a, b, c])).bind fun y1 => some (y1.1, y1.2) := by kernel_rfl
  rw [e2, e]; rfl
theorem P66_eq (a b c : Int) : P66 (0, 3, max (max a b) c, [a, b, c]) = some ((if max (max a b) c = a then 0 else if max (max a b) c = b then 1 else 2), [a, b, c]) := by
  have h := while_find (step := fun x => p66_0 x.1 x.2.1 x.2.2.1 x.2.2.2.1 x.2.2.2.2.1 x.2.2.2.2.2) 3 (fun k => (0, 3, max (max a b) c, 3, (k : Int), [a, b, c])) (fun k => decide (max (max a b) c = gt [a, b, c] k)) (fun k => .inl ((k : Int), [a, b, c])) (.inr [a, b, c])
    (fun k hk _ => by
      have d : decide ((k : Int) < 3) = true := by simp; omega
      have d2 : inR (k : Int) (Int.toNat 3) = true := inR_nat hk
      simp only [p66_0, q66_0, d, cond_true, d2, chk_t, Int.toNat_natCast, ixn_gt, fits_nat (show k < 9223372036854775807 by omega), cast_succ, show Int.toNat 0 = 0 from rfl, Nat.zero_add]
      cases decide (max (max a b) c = gt [a, b, c] k) <;> rfl) (fun _ => by kernel_rfl) (by omega)
  have e2 : P66 (0, 3, max (max a b) c, [a, b, c]) = (L66_0 (0, 3, max (max a b) c, 3, 0, [a, b, c])).bind fun y1 => Sum.elim (fun y2 => some (y2.1, y2.2)) (fun y3 => some (-1, y3)) y1 := by kernel_rfl
  rw [e2]
  have g0 : gt [a, b, c] 0 = a := rfl
  have g1 : gt [a, b, c] 1 = b := rfl
  have g2 : gt [a, b, c] 2 = c := rfl
  rcases h with ⟨k, hk, h1, h2, h3⟩ | ⟨h2, h3⟩
  · have e : L66_0 (0, 3, max (max a b) c, 3, 0, [a, b, c]) = some (.inl ((k : Int), [a, b, c])) := h3
    rw [e]
    simp only [bind_some', elim_inl]
    match k, hk with
    | 0, _ =>
      have : max (max a b) c = a := by simpa [g0] using h1
      rw [if_pos this]; rfl
    | 1, _ =>
      have n0 : ¬ max (max a b) c = a := by simpa [g0] using h2 0 (by omega)
      have : max (max a b) c = b := by simpa [g1] using h1
      rw [if_neg n0, if_pos this]; rfl
    | 2, _ =>
      have n0 : ¬ max (max a b) c = a := by simpa [g0] using h2 0 (by omega)
      have n1 : ¬ max (max a b) c = b := by simpa [g1] using h2 1 (by omega)
      rw [if_neg n0, if_neg n1]; rfl
  · have n0 : ¬ max (max a b) c = a := by simpa [g0] using h2 0 (by omega)
    have n1 : ¬ max (max a b) c = b := by simpa [g1] using h2 1 (by omega)
    have n2 : ¬ max (max a b) c = c := by simpa [g2] using h2 2 (by omega)
    omega
theorem P41_eq {tax : Int} {c : CT} {week gross : Int} (h : AOk tax c week gross) : P41 (tax, c, week, gross) = some (stV tax c week gross) := by
  obtain ⟨h1, h2, h3, h4, h5, h6, h7, h8, h9, h10, h11, h12⟩ := okC_b h.ok
  have hw := h.w
  have hg := h.g
  have a := td_b (u := 100000000) (v := 0) h.g.1 h.g.2 h.t.1 (by have := h.t; omega)
  have n := net_b h.t h.g
  have ib := idx_b h.ok hw.1
  have m := ml_b (net := netV tax gross) h.ok hw.1
  have s := td_b (u := 100000000) (v := 0) n.1 (by omega) m.1 m.2
  have u := td_b (u := 100000000) (v := 0) (a := max 0 (netV tax gross - c.2.2.2.2.2.1)) (b := c.2.2.2.2.2.2.1) (by omega) (by omega) h9.1 h9.2
  have sb := st_b (net := netV tax gross) h.ok hw.1 (by omega)
  have bal := st_bal h
  obtain ⟨i, hi⟩ : ∃ i : Nat, min (week - c.2.1) ((c.2.2.2.1.length : Int) - 1) = (i : Int) := ⟨_, (Int.toNat_of_nonneg ib.1).symm⟩
  have hi' : i < c.2.2.2.1.length := by omega
  have e0 : ∀ acc : RT, acc.2.2.1 = netV tax gross → L41_0 (gt c.2.2.2.1 i, c.2.2.2.2.1, (c.2.2.2.2.1.length : Int), 0, c, (0, 0, 0, 0, 0, 0), acc) = some (mlV c week (netV tax gross), c, (0, 0, 0, 0, 0, 0), acc) := fun acc ha => by
    have := while_run (step := fun x => p41_0 x.1 x.2.1 x.2.2.1 x.2.2.2.1 x.2.2.2.2.1 x.2.2.2.2.2.1 x.2.2.2.2.2.2) c.2.2.2.2.1.length (fun k => (mll (netV tax gross) c.2.2.2.2.1 (gt c.2.2.2.1 i) k, c.2.2.2.2.1, (c.2.2.2.2.1.length : Int), (k : Int), c, (0, 0, 0, 0, 0, 0), acc)) (mlV c week (netV tax gross), c, (0, 0, 0, 0, 0, 0), acc)
      (fun k hk => by
        simp only [p41_0, q41_0, lt_nat_t hk, cond_true, inR_nat hk, chk_t, ix_gt, ha, fits_nat (show k < 9223372036854775807 by omega), cast_succ]
        by_cases e : (gt c.2.2.2.2.1 k).1 ≤ netV tax gross
        · simp only [e, decide_true, cond_true, mll, if_true]
        · simp only [e, decide_false, cond_false, mll, if_false]) (by
        simp only [p41_0, q41_0, lt_nat_f, cond_false, mlV, hi, Int.toNat_natCast]) (by omega)
    exact this
  have hnet : gross - td (gross * tax) = netV tax gross := rfl
  have hS : Int.tdiv (netV tax gross * mlV c week (netV tax gross)) 1000 = stS c week (netV tax gross) := rfl
  have hN : Int.tdiv (max 0 (netV tax gross - c.2.2.2.2.2.1) * c.2.2.2.2.2.2.1) 1000 = stN c (netV tax gross) := rfl
  have hM : max (max (stS c week (netV tax gross)) (stN c (netV tax gross))) c.2.2.2.2.2.2.2.1 = stM c week (netV tax gross) := rfl
  have hT : Int.tdiv (gross * tax) 1000 = td (gross * tax) := rfl
  have hsh : min (netV tax gross) (stM c week (netV tax gross)) = shV tax c week gross := rfl
  have b3 : Nat.beq (repl 3 (0 : Int)).length 3 = true := rfl
  have l3 : ∀ x y z : Int, leb 3 [x, y, z].length = true := fun _ _ _ => rfl
  have c3 : (((3 : Nat) : Int)) = 3 := rfl
  have c0 : (((0 : Nat) : Int)) = 0 := rfl
  have hP65 := P65_eq (stS c week (netV tax gross)) (stN c (netV tax gross)) c.2.2.2.2.2.2.2.1
  have hP66 := P66_eq (stS c week (netV tax gross)) (stN c (netV tax gross)) c.2.2.2.2.2.2.2.1
  rw [hM] at hP65 hP66
  have ri : fits .i64 (1 + (if stM c week (netV tax gross) = stS c week (netV tax gross) then (0 : Int) else if stM c week (netV tax gross) = stN c (netV tax gross) then 1 else 2)) = true := fitsN (by (repeat' split) <;> omega) (by (repeat' split) <;> omega)
  have rr : 1 + (if stM c week (netV tax gross) = stS c week (netV tax gross) then (0 : Int) else if stM c week (netV tax gross) = stN c (netV tax gross) then 1 else 2) = stR c week (netV tax gross) := by
    unfold stR; (repeat' split) <;> rfl
  rw [rr] at ri
  simp only [P41, p41, q41, hT, hnet, fitsN (show 0 ≤ gross * tax by omega) (by omega), fitsN (show 0 ≤ td (gross * tax) by omega) (by omega), fitsN (show 0 ≤ netV tax gross by omega) (by omega), fitsN (show 0 ≤ week - c.2.1 by omega) (by omega), fitsN (show 0 ≤ (c.2.2.2.1.length : Int) - 1 by omega) (by omega), chk_t, hi, inR_nat hi', ix_gt]
  rw [e0 (gross, td (gross * tax), netV tax gross, 0, 0, 0) rfl]
  simp only [bind_some', hS, hN, fitsN (show 0 ≤ netV tax gross * mlV c week (netV tax gross) by omega) (by omega), fitsN (show 0 ≤ stS c week (netV tax gross) by omega) (by omega), fits_of (show -9223372036854775808 ≤ netV tax gross - c.2.2.2.2.2.1 by omega) (by omega), fitsN (show 0 ≤ max 0 (netV tax gross - c.2.2.2.2.2.1) * c.2.2.2.2.2.2.1 by omega) (by omega), fitsN (show 0 ≤ stN c (netV tax gross) by omega) (by omega), chk_t, b3, l3, c3, c0, hP65, hP66, ri, rr, hsh,
    fitsN (show 0 ≤ netV tax gross - shV tax c week gross by omega) (by omega)]
  rfl
theorem net_mono {tax g g' : Int} (ht : 0 ≤ tax ∧ tax ≤ 500) (h0 : 0 ≤ g) (h : g ≤ g') : netV tax g ≤ netV tax g' := by
  have e1 : 0 ≤ g * tax := Int.mul_nonneg h0 ht.1
  have e2 : 0 ≤ g' * tax := Int.mul_nonneg (by omega) ht.1
  have e3 : (g' - g) * tax ≤ (g' - g) * 1000 := Int.mul_le_mul_of_nonneg_left (by omega) (by omega)
  rw [Int.sub_mul] at e3
  unfold netV
  rw [td_eq e1, td_eq e2]
  omega
theorem mll_mono {n n' p : Int} {t : List (Int × Int)} (h : n ≤ n') : ∀ k, mll n t p k ≤ mll n' t p k
  | 0 => Int.le_refl _
  | k + 1 => by
    have := mll_mono (p := p) (t := t) h k
    unfold mll
    split <;> split <;> omega
theorem st_mono {c : CT} {week n n' : Int} (h : okC c = true) (hw : c.2.1 ≤ week) (h0 : 0 ≤ n) (hn : n ≤ n') : stM c week n ≤ stM c week n' := by
  obtain ⟨_, _, _, _, _, _, h7, h8, h9, _⟩ := okC_b h
  have m := ml_b (net := n) h hw
  have m' := ml_b (net := n') h hw
  have mm : mlV c week n ≤ mlV c week n' := mll_mono hn _
  have a : stS c week n ≤ stS c week n' := by
    unfold stS
    rw [td_eq (Int.mul_nonneg h0 m.1), td_eq (Int.mul_nonneg (by omega) m'.1)]
    have e1 : n * mlV c week n ≤ n' * mlV c week n' := Int.mul_le_mul hn mm m.1 (by omega)
    omega
  have b : stN c n ≤ stN c n' := by
    unfold stN
    rw [td_eq (Int.mul_nonneg (by omega) h9.1), td_eq (Int.mul_nonneg (by omega) h9.1)]
    have e1 : max 0 (n - c.2.2.2.2.2.1) * c.2.2.2.2.2.2.1 ≤ max 0 (n' - c.2.2.2.2.2.1) * c.2.2.2.2.2.2.1 := Int.mul_le_mul_of_nonneg_right (by omega) h9.1
    omega
  unfold stM
  omega
theorem sh_mono {tax : Int} {c : CT} {week g g' : Int} (h : okC c = true) (hw : c.2.1 ≤ week) (ht : 0 ≤ tax ∧ tax ≤ 500) (h0 : 0 ≤ g) (h1 : g' ≤ 100000000) (hg : g ≤ g') : shV tax c week g ≤ shV tax c week g' := by
  have a := net_mono ht h0 hg
  have b := net_b (gross := g) ht (by omega)
  have := st_mono h hw b.1 a
  unfold shV
  omega
end Go.Proofs.Ytfknkinmnecoeaa.D
