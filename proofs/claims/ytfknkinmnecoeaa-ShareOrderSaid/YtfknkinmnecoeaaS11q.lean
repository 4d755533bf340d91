/- Cut down from a longer text. -/
import Derived.Test.YtfknkinmnecoeaaS8q
import Derived.Test.YtfknkinmnecoeaaG8q
set_option linter.unusedVariables false
set_option linter.unusedSimpArgs false
namespace Go.Proofs.Ytfknkinmnecoeaa.D
open Go Go.Proofs Go.Proofs.Ytfknkinmnecoeaa.L
theorem nodup_le {α : Type} [DecidableEq α] : ∀ {l l' : List α}, l.Nodup → (∀ x ∈ l, x ∈ l') → l.length ≤ l'.length
  | [], _, _, _ => Nat.zero_le _
  | x :: l, l', h, hs => by
    rw [List.nodup_cons] at h
    have hx := hs x (by simp)
    have := nodup_le (l' := l'.erase x) h.2 fun y hy => by
      have hne : y ≠ x := fun e => h.1 (e ▸ hy)
      exact (List.mem_erase_of_ne hne).2 (hs y (List.mem_cons_of_mem _ hy))
    rw [List.length_erase_of_mem hx] at this
    have hpos : 0 < l'.length := List.length_pos_of_mem hx
    simp only [List.length_cons]
    omega
theorem asc_eq : ∀ {l l' : List RT}, Asc l → Asc l' → (∀ x, x ∈ l ↔ x ∈ l') → l = l'
  | [], [], _, _, _ => rfl
  | [], y :: l', _, _, h => absurd ((h y).2 (by simp)) (by simp)
  | x :: l, [], _, _, h => absurd ((h x).1 (by simp)) (by simp)
  | x :: l, y :: l', h1, h2, h => by
    unfold Asc at h1 h2
    rw [List.pairwise_cons] at h1 h2
    have hxy : x = y := by
      rcases List.mem_cons.1 ((h x).1 (by simp)) with e | e
      · exact e
      · rcases List.mem_cons.1 ((h y).2 (by simp)) with e' | e'
        · exact e'.symm
        · have := h1.1 y e'; have := h2.1 x e; omega
    subst hxy
    refine congrArg _ (asc_eq h1.2 h2.2 fun z => ⟨fun hz => ?_, fun hz => ?_⟩)
    · rcases List.mem_cons.1 ((h z).1 (List.mem_cons_of_mem _ hz)) with e | e
      · subst e; have := h1.1 z hz; omega
      · exact e
    · rcases List.mem_cons.1 ((h z).2 (List.mem_cons_of_mem _ hz)) with e | e
      · subst e; have := h2.1 z hz; omega
      · exact e
theorem P81_eq (n : Int) (h0 : 0 ≤ n) (h1 : n ≤ 100000) : P81 n = some [] := by
  have d0 : decide (n < 0) = false := by simp; omega
  have f0 : fits .i64 ((0 : Int) - 0) = true := by decide
  have e0 : n - ((0 : Int) - 0) = n := by omega
  have d1 : decide ((0 : Int) = 0) = true := by decide
  have d2 : decide ((0 : Int) ≤ 0) = true := by decide
  simp only [P81, p81, q81, d0, cond_false, f0, chk_t, e0, fitsN h0 (by omega)]
  by_cases h : 0 < n
  · have d3 : decide ((48 : Int) * n ≤ 140737488355328) = true := by simp; omega
    have d4 : ∀ k : Nat, decide ((0 : Int) ≤ (k : Int)) = true := fun k => by simp
    have d5 : decide (0 < (repl n.toNat ((0, 0, 0, 0, 0, 0) : RT)).length) = true := by simp [repl]; omega
    simp only [h, decide_true, cond_true, d1, d2, d3, d4, d5, chk_t]
    rfl
  · simp only [h, decide_false, cond_false]
theorem P57_eq (l m : List RT) (hl : l.length ≤ 1000) (hm : m.length ≤ 1000) : P57 [l, m] = some (l ++ m) := by
  have i0 : inR 0 [l, m].length = true := rfl
  have i1 : inR 1 [l, m].length = true := rfl
  have x0 : ix [l, m] 0 = l := rfl
  have x1 : ix [l, m] 1 = m := rfl
  have e0 : L57_0 ([l, m], 0, [l, m], 2, 0) = some ([l, m], (l.length : Int) + (m.length : Int)) :=
    while_run (step := fun x => p57_0 x.1 x.2.1 x.2.2.1 x.2.2.2.1 x.2.2.2.2) 2 (fun k => ([l, m], (match k with
      | 0 => 0
      | 1 => (l.length : Int)
      | _ => (l.length : Int) + (m.length : Int)), [l, m], 2, (k : Int))) _ (fun i hi => by
        match i, hi with
        | 0, _ =>
          have d : decide ((l.length : Int) < 0) = false := by simp
          have e : (0 : Int) + (l.length : Int) = (l.length : Int) := by omega
          show p57_0 [l, m] 0 [l, m] 2 0 = some (.inl ([l, m], (l.length : Int), [l, m], 2, 1))
          simp only [p57_0, q57_0, show decide ((0 : Int) < 2) = true from rfl, cond_true, i0, chk_t, x0, e, fitsN (show 0 ≤ (l.length : Int) by omega) (by omega), d, cond_false, show fits .i64 ((0 : Int) + 1) = true from by decide]
          rfl
        | 1, _ =>
          have d : decide ((l.length : Int) + (m.length : Int) < 0) = false := by simp; omega
          show p57_0 [l, m] (l.length : Int) [l, m] 2 1 = some (.inl ([l, m], (l.length : Int) + (m.length : Int), [l, m], 2, 2))
          simp only [p57_0, q57_0, show decide ((1 : Int) < 2) = true from rfl, cond_true, i1, chk_t, x1, fitsN (show 0 ≤ (l.length : Int) + (m.length : Int) by omega) (by omega), d, cond_false, show fits .i64 ((1 : Int) + 1) = true from by decide]
          rfl) rfl (by omega)
  have e1 : L57_1 ([l, m], 2, 0, []) = some (l ++ m) :=
    while_run (step := fun x => p57_1 x.1 x.2.1 x.2.2.1 x.2.2.2) 2 (fun k => ([l, m], 2, (k : Int), (match k with
      | 0 => []
      | 1 => l
      | _ => l ++ m))) _ (fun i hi => by
        match i, hi with
        | 0, _ =>
          have c : capOk 48 (([] : List RT).length + l.length) = true := capOk_of (by simp; omega)
          show p57_1 [l, m] 2 0 [] = some (.inl ([l, m], 2, 1, l))
          simp only [p57_1, q57_1, show decide ((0 : Int) < 2) = true from rfl, cond_true, i0, chk_t, x0, c, show fits .i64 ((0 : Int) + 1) = true from by decide, List.nil_append]
          rfl
        | 1, _ =>
          have c : capOk 48 (l.length + m.length) = true := capOk_of (by omega)
          show p57_1 [l, m] 2 1 l = some (.inl ([l, m], 2, 2, l ++ m))
          simp only [p57_1, q57_1, show decide ((1 : Int) < 2) = true from rfl, cond_true, i1, chk_t, x1, c, show fits .i64 ((1 : Int) + 1) = true from by decide]
          rfl) rfl (by omega)
  have el : (([l, m] : List (List RT)).length : Int) = 2 := rfl
  simp only [P57, p57, q57, el, e0, bind_some', P81_eq _ (show 0 ≤ (l.length : Int) + (m.length : Int) by omega) (by omega), e1]
theorem P58_eq (l : List CT) (hl : l.length ≤ 1000) : P58 l = some l := by
  have : capOk 104 (([] : List CT).length + l.length) = true := capOk_of (by simp; omega)
  simp only [P58, p58, q58, this, chk_t, List.nil_append]
  cases hl : decide (l.length = 0)
  · rfl
  · have : l = [] := by simpa using hl
    subst this; simp [bisn]
theorem P59_eq (l : List Int) (hl : l.length ≤ 1000) : P59 l = some l := by
  have : capOk 8 (([] : List Int).length + l.length) = true := capOk_of (by simp; omega)
  simp only [P59, p59, q59, this, chk_t, List.nil_append]
  cases hl : decide (l.length = 0)
  · rfl
  · have : l = [] := by simpa using hl
    subst this; simp [bisn]
theorem P60_eq (l : List (Int × Int)) (hl : l.length ≤ 1000) : P60 l = some l := by
  have : capOk 16 (([] : List (Int × Int)).length + l.length) = true := capOk_of (by simp; omega)
  simp only [P60, p60, q60, this, chk_t, List.nil_append]
  cases hl : decide (l.length = 0)
  · rfl
  · have : l = [] := by simpa using hl
    subst this; simp [bisn]
theorem set_gt {α : Type} [Inhabited α] (l : List α) {k : Nat} (h : k < l.length) : l.set k (gt l k) = l := by
  rw [gt_lt h]; exact List.set_getElem_self h
section
variable {α : Type}
theorem kp_keys {m : List (List Int × α)} {k : List Int} {r : α} : ∀ x, x ∈ (kput m k r).map (·.1) ↔ x = k ∨ x ∈ m.map (·.1) := by
  induction m with
  | nil => intro x; simp [kput]
  | cons a m ih =>
    obtain ⟨k', u⟩ := a
    intro x
    rw [kput]
    split
    · rename_i hk; subst hk; simp
    · rename_i hk
      simp only [List.map_cons, List.mem_cons, ih]
      constructor
      · rintro (h | h | h)
        · exact .inr (.inl h)
        · exact .inl h
        · exact .inr (.inr h)
      · rintro (h | h | h)
        · exact .inr (.inl h)
        · exact .inl h
        · exact .inr (.inr h)
theorem kp_nodup {m : List (List Int × α)} {k : List Int} {r : α} (h : (m.map (·.1)).Nodup) : ((kput m k r).map (·.1)).Nodup := by
  induction m with
  | nil => simp [kput]
  | cons a m ih =>
    obtain ⟨k', u⟩ := a
    rw [kput]
    simp only [List.map_cons, List.nodup_cons] at h
    split
    · rename_i hk
      subst hk
      simp only [List.map_cons, List.nodup_cons]; exact h
    · rename_i hk
      simp only [List.map_cons, List.nodup_cons]
      refine ⟨fun hm => ?_, ih h.2⟩
      rcases (kp_keys _).1 hm with h2 | h2
      · exact hk h2
      · exact h.1 h2
theorem kp_mem {m : List (List Int × α)} {k : List Int} {r : α} : ∀ e ∈ kput m k r, e.2 = r ∨ e ∈ m := by
  induction m with
  | nil => intro e he; simp [kput] at he; left; rw [he]
  | cons a m ih =>
    obtain ⟨k', u⟩ := a
    intro e he
    rw [kput] at he
    split at he
    · rcases List.mem_cons.1 he with he | he
      · left; rw [he]
      · right; exact List.mem_cons_of_mem _ he
    · rcases List.mem_cons.1 he with he | he
      · right; rw [he]; simp
      · rcases ih e he with h | h
        · exact .inl h
        · exact .inr (List.mem_cons_of_mem _ h)
theorem kg_mem {m : List (List Int × α)} {k : List Int} {x : α} (h : kget m k = some x) : ∃ e ∈ m, e.2 = x := by
  unfold kget at h
  rw [Option.map_eq_some_iff] at h
  obtain ⟨e, h1, h2⟩ := h
  exact ⟨e, List.mem_of_find?_eq_some h1, h2⟩
end
def keyL (r : RT) : List Int := [r.1, r.2.1, r.2.2.1, r.2.2.2.1, r.2.2.2.2.1, r.2.2.2.2.2]
theorem L32_0_eq (b : BT) (more l' all : List RT) (v : Bool) (h : all.length ≤ 2000) : ∃ y, L32_0 (more, v, (all.length : Int), 0, b, 0, l', [], all) = some y ∧ ∃ m : List (List Int × Int), y = (more, v, b, 0, l', m, all) ∧ (m.map (·.1)).Nodup ∧ ∀ k, k ∈ m.map (·.1) ↔ ∃ x ∈ all, keyL x = k := by
  refine while_inv all.length (fun t s => ∃ m : List (List Int × Int), s = (more, v, (all.length : Int), (t : Int), b, 0, l', m, all) ∧ (m.map (·.1)).Nodup ∧ (∀ k, k ∈ m.map (·.1) ↔ ∃ x ∈ all.take t, keyL x = k) ∧ ∀ e ∈ m, 0 ≤ e.2 ∧ e.2 ≤ (t : Int)) _ ⟨[], rfl, by simp, by simp, by simp⟩ (by omega) ?_ ?_
  · rintro t s ht ⟨m, rfl, m1, m2, m3⟩
    have hd : 0 ≤ dof (kget m (keyL (gt all t))) 0 ∧ dof (kget m (keyL (gt all t))) 0 ≤ (t : Int) := by
      cases hg : kget m (keyL (gt all t)) with
      | none => exact ⟨Int.le_refl _, by simp [dof]⟩
      | some x =>
        obtain ⟨e, he, rfl⟩ := kg_mem hg
        exact m3 e he
    have hf : fits .i64 (dof (kget m (keyL (gt all t))) 0 + 1) = true := fitsN (by omega) (by omega)
    have hkk : keyL (gt all t) = [(gt all t).1, (gt all t).2.1, (gt all t).2.2.1, (gt all t).2.2.2.1, (gt all t).2.2.2.2.1, (gt all t).2.2.2.2.2] := rfl
    simp only [p32_0, q32_0, lt_nat_t ht, cond_true, inR_nat ht, chk_t, ix_gt, fits_nat (show t < 9223372036854775807 by omega), ← hkk, hf]
    refine ⟨_, rfl, _, rfl, kp_nodup m1, fun k => ?_, fun e he => ?_⟩
    · rw [kp_keys, m2, take_gt' all ht]
      simp only [List.mem_append, List.mem_singleton]
      constructor
      · rintro (h | ⟨x, hx, h⟩)
        · exact ⟨_, .inr rfl, h.symm⟩
        · exact ⟨x, .inl hx, h⟩
      · rintro ⟨x, hx | hx, h⟩
        · exact .inr ⟨x, hx, h⟩
        · subst hx; exact .inl h.symm
    · rcases kp_mem e he with h | h
      · rw [h]; omega
      · have := m3 e h; omega
  · rintro s ⟨m, rfl, m1, m2, m3⟩
    simp only [p32_0, q32_0, lt_nat_f, cond_false]
    rw [List.take_length] at m2
    exact ⟨_, rfl, m, rfl, m1, m2⟩
theorem L32_1_eq (tax : Int) (c : List CT) (r : List RT) (h : c.length ≤ 1000) (hs : ∀ x ∈ c, x.2.2.2.1.length ≤ 1000 ∧ x.2.2.2.2.1.length ≤ 1000) : L32_1 ((c.length : Int), 0, tax, 0, c, r) = some (tax, 0, c, r) :=
  while_run (step := fun x => p32_1 x.1 x.2.1 x.2.2.1 x.2.2.2.1 x.2.2.2.2.1 x.2.2.2.2.2) c.length (fun k => ((c.length : Int), (k : Int), tax, 0, c, r)) _ (fun k hk => by
    have hc := hs _ (gt_mem hk)
    simp only [p32_1, q32_1, lt_nat_t hk, cond_true, inR_nat hk, chk_t, ix_gt, P59_eq _ hc.1, P60_eq _ hc.2, bind_some', Int.toNat_natCast, Prod.eta, set_gt c hk, fits_nat (show k < 9223372036854775807 by omega), cast_succ]) (by
    simp only [p32_1, q32_1, lt_nat_f, cond_false]) (by omega)
end Go.Proofs.Ytfknkinmnecoeaa.D
