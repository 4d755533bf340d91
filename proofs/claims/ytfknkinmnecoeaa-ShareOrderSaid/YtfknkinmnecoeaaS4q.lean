/- Cut down from a longer text. -/
import Derived.Test.YtfknkinmnecoeaaS3q
set_option linter.unusedVariables false
set_option linter.unusedSimpArgs false
namespace Go.Proofs.Ytfknkinmnecoeaa.D
open Go Go.Proofs Go.Proofs.Ytfknkinmnecoeaa.L
def topS (p : RT → Bool) (a : Option RT) (r : RT) : Option RT := bif p r then (match a with
  | none => some r
  | some x => if x.1 < r.1 then some r else some x) else a
def top (p : RT → Bool) (l : List RT) : Option RT := l.foldl (topS p) none
theorem top_snoc (p : RT → Bool) (l : List RT) (r : RT) : top p (l ++ [r]) = topS p (top p l) r := by simp [top]
theorem top_take (p : RT → Bool) (l : List RT) {t : Nat} (h : t < l.length) : top p (l.take (t + 1)) = topS p (top p (l.take t)) (gt l t) := by rw [take_gt l h, top_snoc]
theorem top_spec (p : RT → Bool) (l : List RT) : (top p l = none → ∀ r ∈ l, p r = false) ∧ ∀ x, top p l = some x → x ∈ l ∧ p x = true ∧ ∀ r ∈ l, p r = true → r.1 ≤ x.1 := by
  have key : ∀ n, n ≤ l.length → (top p (l.take n) = none → ∀ r ∈ l.take n, p r = false) ∧ ∀ x, top p (l.take n) = some x → x ∈ l.take n ∧ p x = true ∧ ∀ r ∈ l.take n, p r = true → r.1 ≤ x.1 := by
    intro n
    induction n with
    | zero => intro _; simp [top]
    | succ n ih =>
      intro hn
      obtain ⟨i1, i2⟩ := ih (by omega)
      rw [top_take p l (by omega), take_gt l (by omega)]
      unfold topS
      cases hp : p (gt l n)
      · simp only [cond_false]
        refine ⟨fun h r hr => ?_, fun x hx => ?_⟩
        · rcases List.mem_append.1 hr with hr | hr
          · exact i1 h r hr
          · rw [List.mem_singleton.1 hr]; exact hp
        · obtain ⟨j1, j2, j3⟩ := i2 x hx
          refine ⟨List.mem_append.2 (.inl j1), j2, fun r hr hpr => ?_⟩
          rcases List.mem_append.1 hr with hr | hr
          · exact j3 r hr hpr
          · rw [List.mem_singleton.1 hr, hp] at hpr; cases hpr
      · simp only [cond_true]
        cases ht : top p (l.take n) with
        | none =>
          refine ⟨fun h => (by cases h), fun x hx => ?_⟩
          obtain rfl := Option.some.inj hx
          refine ⟨by simp, hp, fun r hr hpr => ?_⟩
          rcases List.mem_append.1 hr with hr | hr
          · rw [i1 ht r hr] at hpr; cases hpr
          · rw [List.mem_singleton.1 hr]; exact Int.le_refl _
        | some a =>
          obtain ⟨j1, j2, j3⟩ := i2 a ht
          by_cases hlt : a.1 < (gt l n).1
          · simp only [hlt, if_true]
            refine ⟨fun h => (by cases h), fun x hx => ?_⟩
            obtain rfl := Option.some.inj hx
            refine ⟨by simp, hp, fun r hr hpr => ?_⟩
            rcases List.mem_append.1 hr with hr | hr
            · have := j3 r hr hpr; omega
            · rw [List.mem_singleton.1 hr]; exact Int.le_refl _
          · simp only [hlt, if_false]
            refine ⟨fun h => (by cases h), fun x hx => ?_⟩
            obtain rfl := Option.some.inj hx
            refine ⟨List.mem_append.2 (.inl j1), j2, fun r hr hpr => ?_⟩
            rcases List.mem_append.1 hr with hr | hr
            · exact j3 r hr hpr
            · rw [List.mem_singleton.1 hr]; omega
  have := key l.length (Nat.le_refl _)
  rwa [List.take_length] at this
theorem top_eq {p : RT → Bool} {l l' : List RT} (hm : ∀ x, x ∈ l' ↔ x ∈ l) (hn : NC l) : top p l' = top p l := by
  obtain ⟨a1, a2⟩ := top_spec p l
  obtain ⟨b1, b2⟩ := top_spec p l'
  cases h : top p l with
  | none =>
    cases h' : top p l' with
    | none => rfl
    | some x => have := a1 h x ((hm x).1 (b2 x h').1); rw [(b2 x h').2.1] at this; cases this
  | some x =>
    obtain ⟨c1, c2, c3⟩ := a2 x h
    cases h' : top p l' with
    | none => rw [b1 h' x ((hm x).2 c1)] at c2; cases c2
    | some y =>
      obtain ⟨d1, d2, d3⟩ := b2 y h'
      have e1 := c3 y ((hm y).1 d1) d2
      have e2 := d3 x ((hm x).2 c1) c2
      rw [hn y ((hm y).1 d1) x c1 (by omega)]
def sumN : Nat → (Nat → Int) → Int
  | 0, _ => 0
  | n + 1, f => sumN n f + f n
theorem sumN_congr {f g : Nat → Int} : ∀ {n : Nat}, (∀ k, k < n → f k = g k) → sumN n f = sumN n g
  | 0, _ => rfl
  | n + 1, h => by simp only [sumN]; rw [sumN_congr fun k hk => h k (by omega), h n (by omega)]
theorem sumN_zero : ∀ n, sumN n (fun _ => 0) = 0
  | 0 => rfl
  | n + 1 => by simp only [sumN, sumN_zero n]; rfl
theorem sumN_add {f : Nat → Int} {t : Nat} {c : Int} (h0 : f t = 0) : ∀ {n : Nat}, t < n → sumN n (fun k => if k = t then c else f k) = c + sumN n f
  | 0, h => by omega
  | n + 1, h => by
    simp only [sumN]
    by_cases e : t = n
    · subst e
      rw [if_pos rfl, h0, sumN_congr (g := f) fun k hk => if_neg (by omega)]; omega
    · rw [if_neg (fun h' => e h'.symm), sumN_add h0 (by omega)]; omega
theorem sumN_b {f : Nat → Int} {c : Int} : ∀ {n : Nat}, (∀ k, k < n → 0 ≤ f k ∧ f k ≤ c) → 0 ≤ sumN n f ∧ sumN n f ≤ c * n
  | 0, _ => by simp [sumN]
  | n + 1, h => by
    have h1 := sumN_b (n := n) fun k hk => h k (by omega)
    have h2 := h n (by omega)
    have e : c * ((n + 1 : Nat) : Int) = c * n + c := by rw [Int.natCast_add, Int.mul_add, Int.natCast_one, Int.mul_one]
    simp only [sumN]
    rw [e]; omega
def pA (f w : Int) (r : RT) : Bool := decide (r.2.2.1 = f) && (decide (r.2.2.2.1 = w) && decide (r.2.1 = 2))
def pT (f w : Int) (t : Nat) (r : RT) : Bool := decide (r.2.2.1 = f) && (decide (r.2.2.2.1 = w) && (!decide (r.2.1 = 2) && decide (r.2.2.2.2.1 = (t : Int))))
def cv : Option RT → Int
  | some r => r.2.2.2.2.2
  | none => 0
def grV (l : List RT) (f w : Int) : Int := match top (pA f w) l with
  | some r => r.2.2.2.2.2
  | none => sumN 10 fun t => cv (top (pT f w t) l)
def RV (l : List RT) : Prop := NC l ∧ ∀ r ∈ l, (0 ≤ r.1 ∧ r.1 ≤ 99) ∧ (r.2.1 = 1 ∨ r.2.1 = 2) ∧ (0 ≤ r.2.2.2.2.1 ∧ r.2.2.2.2.1 ≤ 9) ∧ 0 ≤ r.2.2.2.2.2 ∧ r.2.2.2.2.2 ≤ 10000000
theorem okRs_RV {c : List CT} {l : List RT} (h : okRs c l = true) : RV l := ⟨(okRs_iff.1 h).2, fun r hr => okR_b ((okRs_iff.1 h).1 r hr)⟩
theorem RV_top {l : List RT} {p : RT → Bool} (h : RV l) : 0 ≤ cv (top p l) ∧ cv (top p l) ≤ 10000000 := by
  cases e : top p l with
  | none => exact ⟨Int.le_refl _, by decide⟩
  | some r => exact (h.2 r ((top_spec p l).2 r e).1).2.2.2
theorem grV_b {l : List RT} {f w : Int} (h : RV l) : 0 ≤ grV l f w ∧ grV l f w ≤ 100000000 := by
  unfold grV
  cases e : top (pA f w) l with
  | none =>
    have := sumN_b (f := fun t => cv (top (pT f w t) l)) (c := 10000000) (n := 10) fun k _ => RV_top h
    simp only; omega
  | some r =>
    have := (h.2 r ((top_spec _ l).2 r e).1).2.2.2
    simp only; omega
abbrev MT := List (List Int × RT)
def WF (m : MT) : Prop := (m.map (·.1)).Nodup ∧ ∀ e ∈ m, ∃ t : Nat, t < 10 ∧ e.1 = [(t : Int)]
theorem kput_keys {m : MT} {k : List Int} {r : RT} : (∀ e ∈ kput m k r, e.1 = k ∨ e.1 ∈ m.map (·.1)) := by
  induction m with
  | nil => intro e he; simp [kput] at he; left; rw [he]
  | cons a m ih =>
    obtain ⟨k', u⟩ := a
    intro e he
    rw [kput] at he
    split at he
    · rename_i hk
      rcases List.mem_cons.1 he with he | he
      · left; rw [he]
      · right; exact List.mem_map.2 ⟨e, List.mem_cons_of_mem _ he, rfl⟩
    · rcases List.mem_cons.1 he with he | he
      · right; rw [he]; simp
      · rcases ih e he with h | h
        · exact .inl h
        · right; simp only [List.map_cons, List.mem_cons]; exact .inr h
theorem kput_nodup {m : MT} {k : List Int} {r : RT} (h : (m.map (·.1)).Nodup) : ((kput m k r).map (·.1)).Nodup := by
  induction m with
  | nil => simp [kput]
  | cons a m ih =>
    obtain ⟨k', u⟩ := a
    rw [kput]
    simp only [List.map_cons, List.nodup_cons] at h
    split
    · rename_i hk
      subst hk
      simp only [List.map_cons, List.nodup_cons]; exact h
    · rename_i hk
      simp only [List.map_cons, List.nodup_cons]
      refine ⟨fun hm => ?_, ih h.2⟩
      obtain ⟨e, he, h1⟩ := List.mem_map.1 hm
      rcases kput_keys e he with h2 | h2
      · exact hk (h1.symm.trans h2)
      · exact h.1 (h1 ▸ h2)
theorem kput_get {m : MT} {k k2 : List Int} {r : RT} : kget (kput m k r) k2 = if k = k2 then some r else kget m k2 := by
  induction m with
  | nil =>
    by_cases e : k = k2 <;> simp [kput, kget, e]
  | cons a m ih =>
    obtain ⟨k', u⟩ := a
    rw [kput]
    split
    · rename_i hk
      subst hk
      by_cases e : k' = k2 <;> simp [kget, e]
    · rename_i hk
      by_cases e : k' = k2
      · subst e
        rw [if_neg (fun h => hk h.symm)]; simp [kget]
      · have e1 : ∀ (l : MT), kget ((k', u) :: l) k2 = kget l k2 := fun l => by simp [kget, e]
        rw [e1, e1, ih]
theorem kput_mem {m : MT} {k : List Int} {r : RT} : ∀ e ∈ kput m k r, e.2 = r ∨ e ∈ m := by
  induction m with
  | nil => intro e he; simp [kput] at he; left; rw [he]
  | cons a m ih =>
    obtain ⟨k', u⟩ := a
    intro e he
    rw [kput] at he
    split at he
    · rcases List.mem_cons.1 he with he | he
      · left; rw [he]
      · right; exact List.mem_cons_of_mem _ he
    · rcases List.mem_cons.1 he with he | he
      · right; rw [he]; simp
      · rcases ih e he with h | h
        · exact .inl h
        · exact .inr (List.mem_cons_of_mem _ h)
def sumL (m : MT) : Int := (m.map fun e => e.2.2.2.2.2.2).sum
theorem sumL_eq : ∀ {m : MT}, WF m → sumL m = sumN 10 fun t => cv (kget m [(t : Int)])
  | [], _ => (sumN_zero 10).symm
  | (k, r) :: m, h => by
    obtain ⟨h1, h2⟩ := h
    simp only [List.map_cons, List.nodup_cons] at h1
    have ih := sumL_eq (m := m) ⟨h1.2, fun e he => h2 e (List.mem_cons_of_mem _ he)⟩
    obtain ⟨t, ht, hk⟩ := h2 (k, r) (by simp)
    simp only at hk
    subst hk
    have h0 : cv (kget m [(t : Int)]) = 0 := by
      have : kget m [(t : Int)] = none := by
        simp only [kget, Option.map_eq_none_iff, List.find?_eq_none, decide_eq_true_eq]
        exact fun e he h => h1.1 (List.mem_map.2 ⟨e, he, h⟩)
      rw [this]; rfl
    have e : sumN 10 (fun j => cv (kget (([(t : Int)], r) :: m) [(j : Int)])) = sumN 10 fun j => if j = t then r.2.2.2.2.2 else cv (kget m [(j : Int)]) := sumN_congr fun j hj => by
      by_cases e : j = t
      · subst e; rw [if_pos rfl]; simp [kget, cv]
      · rw [if_neg e]
        have : decide (([(t : Int)] : List Int) = [(j : Int)]) = false := by simp; omega
        simp only [kget, List.find?_cons, this]
    rw [e, sumN_add h0 ht, ← ih]
    simp [sumL]
theorem foldS_sum {g : Int → (List Int × RT) → Option Int} (hg : g = fun x e => chk (fits .i64 (x + e.2.2.2.2.2.2)) (some (x + e.2.2.2.2.2.2))) : ∀ (m : MT) (x : Int), (∀ e ∈ m, 0 ≤ e.2.2.2.2.2.2 ∧ e.2.2.2.2.2.2 ≤ 10000000) → 0 ≤ x → x + 10000000 * m.length ≤ 1000000000000 → foldS g m x = some (x + sumL m)
  | [], x, _, _, _ => by simp [foldS, sumL]
  | e :: m, x, h, h0, h1 => by
    have he := h e (by simp)
    simp only [List.length_cons] at h1
    have e1 : foldS g (e :: m) x = (g x e).bind (foldS g m) := rfl
    have e2 : g x e = some (x + e.2.2.2.2.2.2) := by rw [hg]; simp only [fitsN (show 0 ≤ x + e.2.2.2.2.2.2 by omega) (by omega), chk_t]
    rw [e1, e2, bind_some', foldS_sum hg m _ (fun e' he' => h e' (List.mem_cons_of_mem _ he')) (by omega) (by omega)]
    simp only [sumL, List.map_cons, List.sum_cons]
    congr 1; omega
theorem sum_perm {l l' : List Int} (h : l.Perm l') : l.sum = l'.sum := by
  induction h with
  | nil => rfl
  | cons x _ ih => simp [ih]
  | swap x y l => simp only [List.sum_cons]; omega
  | trans _ _ h1 h2 => exact h1.trans h2
theorem L42_1_eq {m : MT} (h : ∀ e ∈ m, 0 ≤ e.2.2.2.2.2.2 ∧ e.2.2.2.2.2.2 ≤ 10000000) (hl : m.length ≤ 10000) : L42_1 m 0 = some (sumL m) := by
  have key : ∀ p : MT, p.Perm m → foldS (fun x e => p42_1 x e) p 0 = some (sumL m) := fun p hp => by
    have := foldS_sum (g := fun x e => p42_1 x e) rfl p 0 (fun e he => h e (hp.mem_iff.1 he)) (Int.le_refl _) (by have := hp.length_eq; omega)
    rw [this, Int.zero_add]
    unfold sumL
    rw [sum_perm (hp.map _)]
  unfold L42_1 rngF
  rw [if_pos fun p hp => (key p hp).trans (key m (List.Perm.refl _)).symm]
  exact key m (List.Perm.refl _)
theorem kput_len {m : MT} {k : List Int} {r : RT} : (kput m k r).length ≤ m.length + 1 := by
  induction m with
  | nil => simp [kput]
  | cons a m ih =>
    obtain ⟨k', u⟩ := a
    rw [kput]
    split
    · simp
    · simp; omega
theorem topS_asc {p : RT → Bool} {l : List RT} {t : Nat} (ha : Asc l) (ht : t < l.length) (hp : p (gt l t) = true) : topS p (top p (l.take t)) (gt l t) = some (gt l t) := by
  unfold topS
  rw [hp, cond_true]
  cases e : top p (l.take t) with
  | none => rfl
  | some a =>
    obtain ⟨i, hi, h1⟩ := mem_gt ((top_spec p (l.take t)).2 a e).1
    have hi' : i < t := by simp at hi; omega
    rw [gt_take _ _ _ hi'] at h1
    have : (gt l i).1 < (gt l t).1 := by
      rw [gt_lt (show i < l.length by omega), gt_lt ht]
      exact List.pairwise_iff_getElem.1 ha i t (by omega) ht hi'
    rw [h1] at this
    simp only [this, if_true]
theorem topS_no {p : RT → Bool} {a : Option RT} {r : RT} (hp : p r = false) : topS p a r = a := by simp [topS, hp]
theorem P42_eq (b : BT) (f w : Int) (hl : b.2.2.length ≤ 1000) (h : RV b.2.2) : P42 (b, f, w) = some (grV b.2.2 f w) := by
  obtain ⟨v, l, h1, h2, h3⟩ := P56_eq b.2.2 hl
  obtain ⟨h4, h5⟩ := h3 fun r hr => (h.2 r hr).1
  obtain ⟨ha, hm⟩ := h5 (h4.2 h.1)
  have hv : ∀ r ∈ l, (0 ≤ r.1 ∧ r.1 ≤ 99) ∧ (r.2.1 = 1 ∨ r.2.1 = 2) ∧ (0 ≤ r.2.2.2.2.1 ∧ r.2.2.2.2.1 ≤ 9) ∧ 0 ≤ r.2.2.2.2.2 ∧ r.2.2.2.2.2 ≤ 10000000 := fun r hr => h.2 r ((hm r).1 hr)
  obtain ⟨y, y1, au, m, rfl, ym1, ym2, ym3, ym4, ym5⟩ : ∃ y, L42_0 (f, w, none, (l.length : Int), 0, [], l) = some y ∧ ∃ (au : Option RT) (m : MT), y = (au, m, l) ∧ au = top (pA f w) l ∧ WF m ∧ (∀ t, kget m [((t : Nat) : Int)] = top (pT f w t) l) ∧ (∀ e ∈ m, e.2 ∈ l) ∧ m.length ≤ l.length := by
    refine while_inv l.length (fun t s => ∃ (au : Option RT) (m : MT), s = (f, w, au, (l.length : Int), (t : Int), m, l) ∧ au = top (pA f w) (l.take t) ∧ WF m ∧ (∀ u, kget m [((u : Nat) : Int)] = top (pT f w u) (l.take t)) ∧ (∀ e ∈ m, e.2 ∈ l) ∧ m.length ≤ t) _
      ⟨none, [], rfl, rfl, ⟨by simp, by simp⟩, fun u => rfl, by simp, by simp⟩ (by omega) ?_ ?_
    · rintro t s ht ⟨au, m, rfl, m1, m2, m3, m4, m5⟩
      have hr := hv _ (gt_mem ht)
      simp only [p42_0, q42_0, lt_nat_t ht, cond_true, inR_nat ht, chk_t, ix_gt, fits_nat (show t < 9223372036854775807 by omega)]
      by_cases g1 : (gt l t).2.2.1 = f
      · by_cases g2 : (gt l t).2.2.2.1 = w
        · by_cases g3 : (gt l t).2.1 = 2
          · simp only [g1, g2, g3, decide_true, Bool.not_true, cond_false, cond_true]
            refine ⟨_, rfl, _, m, rfl, ?_, m2, fun u => ?_, m4, by omega⟩
            · rw [top_take _ _ ht, topS_asc ha ht (by simp [pA, g1, g2, g3])]
            · rw [top_take _ _ ht, topS_no (by simp [pT, g3]), m3]
          · simp only [g1, g2, g3, decide_true, decide_false, Bool.not_true, cond_false, cond_true]
            obtain ⟨u, hu⟩ : ∃ u : Nat, (gt l t).2.2.2.2.1 = (u : Int) := ⟨(gt l t).2.2.2.2.1.toNat, by omega⟩
            refine ⟨_, rfl, au, _, rfl, ?_, ⟨kput_nodup m2.1, fun e he => ?_⟩, fun u' => ?_, fun e he => ?_, ?_⟩
            · rw [top_take _ _ ht, topS_no (by simp [pA, g3]), m1]
            · rcases kput_keys e he with h | h
              · exact ⟨u, by omega, by rw [h, hu]⟩
              · obtain ⟨e', he', h'⟩ := List.mem_map.1 h
                rw [← h']; exact m2.2 e' he'
            · rw [kput_get, hu, top_take _ _ ht]
              by_cases e : u = u'
              · subst e
                rw [if_pos rfl, topS_asc ha ht (by simp [pT, g1, g2, g3, hu])]
              · have e' : ¬ ([(u : Int)] = [(u' : Int)]) := by simp; omega
                rw [if_neg e', topS_no (by simp [pT, hu]; intros; omega), m3]
            · rcases kput_mem e he with h | h
              · rw [h]; exact gt_mem ht
              · exact m4 e h
            · have := kput_len (m := m) (k := [(gt l t).2.2.2.2.1]) (r := gt l t); omega
        · simp only [g1, g2, decide_true, decide_false, Bool.not_true, Bool.not_false, cond_false, cond_true]
          refine ⟨_, rfl, _, m, rfl, ?_, m2, fun u => ?_, m4, by omega⟩
          · rw [top_take _ _ ht, topS_no (by simp [pA, g2]), m1]
          · rw [top_take _ _ ht, topS_no (by simp [pT, g2]), m3]
      · simp only [g1, decide_false, Bool.not_false, cond_true]
        refine ⟨_, rfl, _, m, rfl, ?_, m2, fun u => ?_, m4, by omega⟩
        · rw [top_take _ _ ht, topS_no (by simp [pA, g1]), m1]
        · rw [top_take _ _ ht, topS_no (by simp [pT, g1]), m3]
    · rintro s ⟨au, m, rfl, m1, m2, m3, m4, m5⟩
      simp only [p42_0, q42_0, lt_nat_f, cond_false]
      rw [List.take_length] at m1
      exact ⟨_, rfl, au, m, rfl, m1, m2, fun u => by rw [m3, List.take_length], m4, m5⟩
  have e2 : L42_1 m 0 = some (sumL m) := L42_1_eq (fun e he => (hv _ (ym4 e he)).2.2.2) (by omega)
  have q1 : au = top (pA f w) b.2.2 := ym1.trans (top_eq hm h.1)
  have q2 : sumL m = sumN 10 fun t => cv (top (pT f w t) b.2.2) := by
    rw [sumL_eq ym2]
    exact sumN_congr fun k _ => by rw [ym3, top_eq hm h.1]
  simp only [P42, p42, q42, h1, bind_some', y1, e2, q2, grV, ← q1]
  cases au <;> rfl
end Go.Proofs.Ytfknkinmnecoeaa.D
