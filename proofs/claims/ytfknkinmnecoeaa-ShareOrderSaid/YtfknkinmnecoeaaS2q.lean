/- Cut down from a longer text. -/
import Derived.Test.YtfknkinmnecoeaaS0q
import Derived.Test.YtfknkinmnecoeaaS1q
set_option linter.unusedVariables false
set_option linter.unusedSimpArgs false
namespace Go.Proofs.Ytfknkinmnecoeaa.D
open Go Go.Proofs Go.Proofs.Ytfknkinmnecoeaa.L
def ddN (l : List RT) : Nat → List RT
  | 0 => []
  | n + 1 => if 0 < n ∧ gt l n = gt l (n - 1) then ddN l n else ddN l n ++ [gt l n]
theorem take_gt (l : List RT) {n : Nat} (h : n < l.length) : l.take (n + 1) = l.take n ++ [gt l n] := by
  rw [List.take_add_one, List.getElem?_eq_getElem h, gt_lt h]; rfl
theorem ddN_take (l : List RT) : ∀ n, n ≤ l.length → (∀ k, k + 1 < n → gt l (k + 1) ≠ gt l k) → ddN l n = l.take n
  | 0, _, _ => by simp [ddN]
  | n + 1, h, hd => by
    rw [ddN, if_neg, ddN_take l n (by omega) fun k hk => hd k (by omega), take_gt l (by omega)]
    rintro ⟨h0, e⟩
    have := hd (n - 1) (by omega)
    rw [show n - 1 + 1 = n by omega] at this
    exact this e
theorem ddN_len (l : List RT) : ∀ n, (ddN l n).length ≤ n
  | 0 => by simp [ddN]
  | n + 1 => by have := ddN_len l n; rw [ddN]; split <;> simp <;> omega
theorem ddN_mem (l : List RT) : ∀ n, ∀ x, x ∈ ddN l n ↔ ∃ k, k < n ∧ gt l k = x
  | 0, x => by simp [ddN]
  | n + 1, x => by
    rw [ddN]
    split
    · rename_i h
      rw [ddN_mem l n]
      constructor
      · rintro ⟨k, hk, e⟩; exact ⟨k, by omega, e⟩
      · rintro ⟨k, hk, e⟩
        by_cases hkn : k = n
        · subst hkn; exact ⟨k - 1, by omega, by rw [← h.2]; exact e⟩
        · exact ⟨k, by omega, e⟩
    · rw [List.mem_append, ddN_mem l n, List.mem_singleton]
      constructor
      · rintro (⟨k, hk, e⟩ | e)
        · exact ⟨k, by omega, e⟩
        · exact ⟨n, by omega, e.symm⟩
      · rintro ⟨k, hk, e⟩
        by_cases hkn : k = n
        · subst hkn; exact .inr e.symm
        · exact .inl ⟨k, by omega, e⟩
theorem clr_take {α : Type} (l : List α) (w n : Nat) (z : α) (h : w ≤ l.length) : (clrL l w n z).take w = l.take w := by
  unfold clrL
  rw [List.take_append_of_le_length (by simp; omega), List.take_take, Nat.min_self]
theorem clr_len {α : Type} (l : List α) (w n : Nat) (z : α) (h : w + n ≤ l.length) : (clrL l w n z).length = l.length := by
  unfold clrL; simp; omega
theorem L80_1_eq (l : List RT) {r : Nat} (hr : 0 < r) (hl : r < l.length) (h1000 : l.length ≤ 1000) (he : gt l r = gt l (r - 1)) (hd : ∀ k, k + 1 < r → gt l (k + 1) ≠ gt l k) :
    ∃ y, L80_1 ((r : Int), (r : Int), ((l.length - r : Nat) : Int), 1, l) = some y ∧ ∃ w l1, y = (((w : Nat) : Int), l1) ∧ l1.length = l.length ∧ w ≤ l.length ∧ l1.take w = ddN l l.length := by
  refine while_inv (l.length - r - 1) (fun t s => ∃ w l1, s = (((w : Nat) : Int), (r : Int), ((l.length - r : Nat) : Int), ((t + 1 : Nat) : Int), l1) ∧ l1.length = l.length ∧ w ≤ r + t ∧ l1.take w = ddN l (r + t + 1) ∧ ∀ k, w ≤ k → gt l1 k = gt l k) _
    ⟨r, l, rfl, rfl, by omega, ?_, fun _ _ => rfl⟩ (by omega) ?_ ?_
  · show l.take r = ddN l (r + 0 + 1)
    rw [Nat.add_zero, ddN, if_pos ⟨hr, he⟩, ddN_take l r (by omega) hd]
  · rintro t s ht ⟨w, l1, rfl, h1, h2, h3, h4⟩
    have q : ((t + 1 : Nat) : Int) - 1 = ((t : Nat) : Int) := by omega
    have v1 := h4 (r + (t + 1)) (by omega)
    have v2 := h4 (r + t) (by omega)
    simp only [p80_1, q80_1, Int.toNat_natCast, lt_nat_t (show t + 1 < l.length - r by omega), cond_true, inR_nat (show t + 1 < l.length - r by omega), q, inR_nat (show t < l.length - r by omega), fitsN (show (0 : Int) ≤ ((t : Nat) : Int) by omega) (by omega), chk_t, ixn_gt, eqR, v1, v2,
      inR_nat (show w < l1.length by omega), fits_nat (show w < 9223372036854775807 by omega), fits_nat (show t + 1 < 9223372036854775807 by omega)]
    have e0 : ddN l (r + (t + 1) + 1) = if 0 < r + (t + 1) ∧ gt l (r + (t + 1)) = gt l (r + t) then ddN l (r + t + 1) else ddN l (r + t + 1) ++ [gt l (r + (t + 1))] := rfl
    by_cases e : gt l (r + (t + 1)) = gt l (r + t)
    · simp only [e, decide_true, Bool.not_true, cond_false]
      exact ⟨_, rfl, w, l1, rfl, h1, by omega, by rw [e0, if_pos ⟨by omega, e⟩]; exact h3, h4⟩
    · simp only [e, decide_false, Bool.not_false, cond_true]
      refine ⟨_, rfl, w + 1, l1.set w (gt l (r + (t + 1))), by simp only [cast_succ], by simpa using h1, by omega, ?_, fun k hk => ?_⟩
      · rw [e0, if_neg fun h => e h.2, ← h3, take_gt _ (by simp; omega), gt_set _ _ _ _ (by omega), if_pos rfl]
        congr 1
        exact List.take_set_of_le (Nat.le_refl _)
      · rw [gt_set _ _ _ _ (by omega), if_neg (by omega)]; exact h4 k (by omega)
  · rintro s ⟨w, l1, rfl, h1, h2, h3, h4⟩
    have q : l.length - r - 1 + 1 = l.length - r := by omega
    simp only [p80_1, q80_1, Int.toNat_natCast, q, lt_nat_f, cond_false]
    refine ⟨_, rfl, w, l1, rfl, h1, by omega, ?_⟩
    rw [h3]; congr 1; omega
theorem P80_eq (l : List RT) (hl : l.length ≤ 1000) : P80 l = some (ddN l l.length) := by
  by_cases hs : l.length < 2
  · have d : decide ((l.length : Int) < 2) = true := by simp; omega
    simp only [P80, p80, q80, d, cond_true]
    rw [ddN_take l l.length (Nat.le_refl _) (fun k hk => by omega), List.take_length]
  have d : decide ((l.length : Int) < 2) = false := by simp; omega
  have h := while_find (step := fun x => p80_0 x.1 x.2) (l.length - 1) (fun k => (((k + 1 : Nat) : Int), l)) (fun k => decide (gt l (k + 1) = gt l k)) (fun _ => .inl (ddN l l.length)) (.inr l)
    (fun k hk hp => by
      have q : ((k + 1 : Nat) : Int) - 1 = ((k : Nat) : Int) := by omega
      simp only [p80_0, q80_0, lt_nat_t (show k + 1 < l.length by omega), cond_true, inR_nat (show k + 1 < l.length by omega), inR_nat (show k < l.length by omega), q, fitsN (show (0 : Int) ≤ ((k : Nat) : Int) by omega) (by omega), chk_t, ix_gt, eqR, fits_nat (show k + 1 < 9223372036854775807 by omega)]
      by_cases e : gt l (k + 1) = gt l k
      · have hd : ∀ j, j + 1 < k + 1 → gt l (j + 1) ≠ gt l j := fun j hj => by simpa using hp j (by omega)
        obtain ⟨y, y1, w, l1, rfl, y2, y3, y4⟩ := L80_1_eq l (r := k + 1) (by omega) (by omega) hl e hd
        have c1 : (l.length : Int) - ((k + 1 : Nat) : Int) = ((l.length - (k + 1) : Nat) : Int) := by omega
        have c2 : (l1.length : Int) - (w : Int) = ((l1.length - w : Nat) : Int) := by omega
        have b1 : decide ((0 : Int) ≤ ((k + 1 : Nat) : Int)) = true := by simp; omega
        have b2 : decide (((k + 1 : Nat) : Int) ≤ (l.length : Int)) = true := by simp; omega
        have b3 : ∀ n : Nat, decide ((n : Int) ≤ (n : Int)) = true := fun n => by simp
        have b4 : decide (0 < l.length) = true := by simp; omega
        have b5 : decide ((0 : Int) ≤ (w : Int)) = true := by simp
        have b6 : decide ((w : Int) ≤ (l1.length : Int)) = true := by simp; omega
        have b7 : decide (0 < l1.length) = true := by simp; omega
        simp only [e, decide_true, cond_true, b1, b2, b3, b4, chk_t, c1, Int.toNat_natCast, y1, bind_some', b5, b6, b7, c2, clr_len l1 w (l1.length - w) _ (by omega), clr_take l1 w _ _ (by omega), y4]
      · simp only [e, decide_false, cond_false]; rfl)
    (fun _ => by
      have d2 : decide (((l.length - 1 + 1 : Nat) : Int) < (l.length : Int)) = false := by simp; omega
      simp only [p80_0, q80_0, d2, cond_false]) (by omega)
  rcases h with ⟨k, hk, h1, h2, h3⟩ | ⟨h2, h3⟩
  · have e : L80_0 (1, l) = some (.inl (ddN l l.length)) := h3
    simp only [P80, p80, q80, d, cond_false, e, bind_some', elim_inl]
  · have e : L80_0 (1, l) = some (.inr l) := h3
    simp only [P80, p80, q80, d, cond_false, e, bind_some', elim_inr]
    rw [ddN_take l l.length (Nat.le_refl _) (fun k hk => by simpa using h2 k (by omega)), List.take_length]
theorem P77_eq (l : List RT) (hl : l.length ≤ 1000) : P77 l = some l := by
  have : capOk 48 (([] : List RT).length + l.length) = true := capOk_of (by simp; omega)
  simp only [P77, p77, q77, this, chk_t, List.nil_append]
  cases hl : decide (l.length = 0)
  · rfl
  · have : l = [] := by simpa using hl
    subst this; simp [bisn]
def cmpR (x y : RT) : Int := IntKind.wrap .i64 (x.1 - y.1)
theorem P79_eq (x y : RT) : P79 (x, y) = some (cmpR x y) := rfl
def keyR (x : RT) : Int := x.1
def idsOk (l : List RT) : Prop := ∀ r ∈ l, 0 ≤ r.1 ∧ r.1 ≤ 99
theorem gdR {l : List RT} (h : idsOk l) : Srt78.Gd cmpR keyR l := fun x hx y hy => by
  have h1 := h x hx
  have h2 := h y hy
  have := fits_of (n := x.1 - y.1) (by omega) (by omega)
  rw [fits, decide_eq_true_eq] at this
  unfold cmpR keyR
  rw [this]; omega
def NC (l : List RT) : Prop := ∀ x ∈ l, ∀ y ∈ l, x.1 = y.1 → x = y
def adj (l : List RT) : Bool := allB (l.length - 1) fun k => !(decide ((gt l (k + 1)).1 = (gt l k).1) && !decide (gt l (k + 1) = gt l k))
theorem adj_iff {l : List RT} (hs : Sd keyR l 0 l.length) : adj l = true ↔ NC l := by
  unfold adj
  rw [allB_true]
  constructor
  · intro h
    have key : ∀ d i, i + d < l.length → (gt l i).1 = (gt l (i + d)).1 → gt l i = gt l (i + d) := by
      intro d
      induction d with
      | zero => intro i _ _; rfl
      | succ d ih =>
        intro i hi he
        have a1 := hs.le (Nat.zero_le i) (show i ≤ i + d by omega) (by omega)
        have a2 := hs.le (Nat.zero_le (i + d)) (show i + d ≤ i + (d + 1) by omega) (by omega)
        unfold keyR at a1 a2
        have e1 := ih i (by omega) (by omega)
        have e2 := h (i + d) (by omega)
        rw [e1]
        have e3 : (gt l (i + d + 1)).1 = (gt l (i + d)).1 := by rw [show i + d + 1 = i + (d + 1) by omega]; omega
        simp only [e3, decide_true, Bool.true_and, Bool.not_not, decide_eq_true_eq] at e2
        exact e2.symm
    intro x hx y hy e
    obtain ⟨i, hi, rfl⟩ := mem_gt hx
    obtain ⟨j, hj, rfl⟩ := mem_gt hy
    rcases Nat.le_total i j with hij | hij
    · have := key (j - i) i (by omega)
      rw [show i + (j - i) = j by omega] at this
      exact this e
    · have := key (i - j) j (by omega)
      rw [show j + (i - j) = i by omega] at this
      exact (this e.symm).symm
  · intro h k hk
    by_cases e : (gt l (k + 1)).1 = (gt l k).1
    · simp [h _ (gt_mem (show k + 1 < l.length by omega)) _ (gt_mem (show k < l.length by omega)) e]
    · simp [e]
def Asc (l : List RT) : Prop := l.Pairwise fun x y => x.1 < y.1
theorem ddN_asc {l : List RT} (hs : Sd keyR l 0 l.length) (hn : NC l) : ∀ n, n ≤ l.length → Asc (ddN l n)
  | 0, _ => by simp [ddN, Asc]
  | n + 1, h => by
    have ih := ddN_asc hs hn n (by omega)
    rw [ddN]
    split
    · exact ih
    · rename_i hne
      unfold Asc
      rw [List.pairwise_append]
      refine ⟨ih, by simp, fun x hx y hy => ?_⟩
      rw [List.mem_singleton] at hy
      subst hy
      obtain ⟨k, hk, rfl⟩ := (ddN_mem l n x).1 hx
      have a1 := hs.le (Nat.zero_le k) (show k ≤ n - 1 by omega) (by omega)
      have a2 := hs.le (Nat.zero_le (n - 1)) (show n - 1 ≤ n by omega) (by omega)
      unfold keyR at a1 a2
      rcases Int.lt_or_le (gt l k).1 (gt l n).1 with hlt | hge
      · exact hlt
      · exact absurd ⟨by omega, hn _ (gt_mem (show n < l.length by omega)) _ (gt_mem (show n - 1 < l.length by omega)) (by omega)⟩ hne
theorem P56_eq (l : List RT) (hl : l.length ≤ 1000) : ∃ v l', P56 l = some (v, l') ∧ l'.length ≤ l.length ∧ (idsOk l → (v = true ↔ NC l) ∧ (v = true → Asc l' ∧ ∀ x, x ∈ l' ↔ x ∈ l)) := by
  obtain ⟨s, s1, s2, s3⟩ := Srt78.srt P79_eq (K := keyR) l (by omega)
  have hsl := s2.len
  have e0 : L56_0 (1, s) = some (cond (adj s) (.inr s) (.inl (false, s))) := by
    refine while_all (s.length - 1) (fun k => (((k + 1 : Nat) : Int), s)) (fun k => !(decide ((gt s (k + 1)).1 = (gt s k).1) && !decide (gt s (k + 1) = gt s k))) _ _ (fun k hk => ?_) ?_ (by omega)
    · have q : ((k + 1 : Nat) : Int) - 1 = ((k : Nat) : Int) := by omega
      simp only [p56_0, q56_0, lt_nat_t (show k + 1 < s.length by omega), cond_true, inR_nat (show k + 1 < s.length by omega), inR_nat (show k < s.length by omega), q, fitsN (show (0 : Int) ≤ ((k : Nat) : Int) by omega) (by omega), chk_t, ix_gt, eqR, fits_nat (show k + 1 < 9223372036854775807 by omega)]
      cases decide ((gt s (k + 1)).1 = (gt s k).1)
      · rfl
      cases decide (gt s (k + 1) = gt s k) <;> rfl
    · have d2 : decide (((s.length - 1 + 1 : Nat) : Int) < (s.length : Int)) = false := by simp; omega
      simp only [p56_0, q56_0, d2, cond_false]
  have hfin : P56 l = some (adj s, cond (adj s) (ddN s s.length) []) := by
    simp only [P56, p56, q56, P77_eq l hl, bind_some', s1, e0]
    cases adj s
    · rfl
    · simp only [cond_true, bind_some', elim_inr, P80_eq s (by omega)]
  refine ⟨_, _, hfin, ?_, fun hi => ?_⟩
  · have := ddN_len s s.length
    cases adj s <;> simp <;> omega
  · have hs : Sd keyR s 0 s.length := by rw [hsl]; exact s3 (gdR hi)
    have hnc : NC s ↔ NC l := by
      unfold NC
      constructor
      · exact fun h x hx y hy => h x (s2.perm.mem_iff.2 hx) y (s2.perm.mem_iff.2 hy)
      · exact fun h x hx y hy => h x (s2.perm.mem_iff.1 hx) y (s2.perm.mem_iff.1 hy)
    refine ⟨(adj_iff hs).trans hnc, fun hv => ?_⟩
    rw [hv]
    refine ⟨ddN_asc hs ((adj_iff hs).1 hv) _ (Nat.le_refl _), fun x => ?_⟩
    show x ∈ ddN s s.length ↔ x ∈ l
    rw [ddN_mem, ← s2.perm.mem_iff]
    exact ⟨fun ⟨k, hk, e⟩ => e ▸ gt_mem hk, fun h => mem_gt h⟩
end Go.Proofs.Ytfknkinmnecoeaa.D
