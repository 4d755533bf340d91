/- Cut down from a longer text. -/
import Derived.Test.YtfknkinmnecoeaaS8p
import Derived.Test.YtfknkinmnecoeaaG8p
set_option linter.unusedVariables false
set_option linter.unusedSimpArgs false
namespace Go.Proofs.Ytfknkinmnecoeaa.D
open Go Go.Proofs Go.Proofs.Ytfknkinmnecoeaa.L
theorem nodup_le {α : Type} [DecidableEq α] : ∀ {l l' : List α}, l.Nodup → (∀ x ∈ l, x ∈ l') → l.length ≤ l'.length
  | [], _, _, _ => Nat.zero_le _
  | x :: l, l', h, hs => by
    rw [List.nodup_cons] at h
    have hx := hs x (by simp)
    have := nodup_le (l' := l'.erase x) h.2 fun y hy => by
      have hne : y ≠ x := fun e => h.1 (e ▸ hy)
      exact (List.mem_erase_of_ne hne).2 (hs y (List.mem_cons_of_mem _ hy))
    rw [List.length_erase_of_mem hx] at this
    have hpos : 0 < l'.length := List.length_pos_of_mem hx
    simp only [List.length_cons]
    omega
theorem asc_eq : ∀ {l l' : List RT}, Asc l → Asc l' → (∀ x, x ∈ l ↔ x ∈ l') → l = l'
  | [], [], _, _, _ => rfl
  | [], y :: l', _, _, h => absurd ((h y).2 (by simp)) (by simp)
  | x :: l, [], _, _, h => absurd ((h x).1 (by simp)) (by simp)
  | x :: l, y :: l', h1, h2, h => by
    unfold Asc at h1 h2
    rw [List.pairwise_cons] at h1 h2
    have hxy : x = y := by
      rcases List.mem_cons.1 ((h x).1 (by simp)) with e | e
      · exact e
      · rcases List.mem_cons.1 ((h y).2 (by simp)) with e' | e'
        · exact e'.symm
        · have := h1.1 y e'; have := h2.1 x e; omega
    subst hxy
    refine congrArg _ (asc_eq h1.2 h2.2 fun z => ⟨fun hz => ?_, fun hz => ?_⟩)
    · rcases List.mem_cons.1 ((h z).1 (List.mem_cons_of_mem _ hz)) with e | e
      · subst e; have := h1.1 z hz; omega
      · exact e
    · rcases List.mem_cons.1 ((h z).2 (List.mem_cons_of_mem _ hz)) with e | e
      · subst e; have := h2.1 z hz; omega
      · exact e
theorem P81_eq (n : Int) (h0 : 0 ≤ n) (h1 : n ≤ 100000) : P81 n = some [] := by
  have d0 : decide (n < 0) = false := by simp; omega
  have f0 : fits .i64 ((0 : Int) - 0) = true := by decide
  have e0 : n - ((0 : Int) - 0) = n := by omega
  have d1 : decide ((0 : Int) = 0) = true := by decide
  have d2 : decide ((0 : Int) ≤ 0) = true := by decide
  simp only [P81, p81, q81, d0, cond_false, f0, chk_t, e0, fitsN h0 (by omega)]
  by_cases h : 0 < n
  · have d3 : decide ((48 : Int) * n ≤ 140737488355328) = true := by simp; omega
    have d4 : ∀ k : Nat, decide ((0 : Int) ≤ (k : Int)) = true := fun k => by simp
    have d5 : decide (0 < (repl n.toNat ((0, 0, 0, 0, 0, 0) : RT)).length) = true := by simp [repl]; omega
    simp only [h, decide_true, cond_true, d1, d2, d3, d4, d5, chk_t]
    rfl
  · simp only [h, decide_false, cond_false]
theorem P57_eq (l m : List RT) (hl : l.length ≤ 1000) (hm : m.length ≤ 1000) : P57 [l, m] = some (l ++ m) := by
  have i0 : inR 0 [l, m].length = true := rfl
  have i1 : inR 1 [l, m].length = true := rfl
  have x0 : ix [l, m] 0 = l := rfl
  have x1 : ix [l, m] 1 = m := rfl
  have e0 : L57_0 ([l, m], 0, [l, m], 2, 0) = some ([l, m], (l.length : Int) + (m.length : Int)) :=
    while_run (step := fun x => p57_0 x.1 x.2.1 x.2.2.1 x.2.2.2.1 x.2.2.2.2) 2 (fun k => ([l, m], (match k with
      | 0 => 0
      | 1 => (l.length : Int)
      | _ => (l.length : Int) + (m.length : Int)), [l, m], 2, (k : Int))) _ (fun i hi => by
        match i, hi with
        | 0, _ =>
          have d : decide ((l.length : Int) < 0) = false := by simp
          have e : (0 : Int) + (l.length : Int) = (l.length : Int) := by omega
          show p57_0 [l, m] 0 [l, m] 2 0 = some (.inl ([l, m], (l.length : Int), [l, m], 2, 1))
          simp only [p57_0, q57_0, show decide ((0 : Int) < 2) = true from rfl, cond_true, i0, chk_t, x0, e, fitsN (show 0 ≤ (l.length : Int) by omega) (by omega), d, cond_false, show fits .i64 ((0 : Int) + 1) = true from by decide]
          rfl
        | 1, _ =>
          have d : decide ((l.length : Int) + (m.length : Int) < 0) = false := by simp; omega
          show p57_0 [l, m] (l.length : Int) [l, m] 2 1 = some (.inl ([l, m], (l.length : Int) + (m.length : Int), [l, m], 2, 2))
          simp only [p57_0, q57_0, show decide ((1 : Int) < 2) = true from rfl, cond_true, i1, chk_t, x1, fitsN (show 0 ≤ (l.length : Int) + (m.length : Int) by omega) (by omega), d, cond_false, show fits .i64 ((1 : Int) + 1) = true from by decide]
          rfl) rfl (by omega)
  have e1 : L57_1 ([l, m], 2, 0, []) = some (l ++ m) :=
    while_run (step := fun x => p57_1 x.1 x.2.1 x.2.2.1 x.2.2.2) 2 (fun k => ([l, m], 2, (k : Int), (match k with
      | 0 => []
      | 1 => l
      | _ => l ++ m))) _ (fun i hi => by
        match i, hi with
        | 0, _ =>
          have c : capOk 48 (([] : List RT).length + l.length) = true := capOk_of (by simp; omega)
          show p57_1 [l, m] 2 0 [] = some (.inl ([l, m], 2, 1, l))
          simp only [p57_1, q57_1, show decide ((0 : Int) < 2) = true from rfl, cond_true, i0, chk_t, x0, c, show fits .i64 ((0 : Int) + 1) = true from by decide, List.nil_append]
          rfl
        | 1, _ =>
          have c : capOk 48 (l.length + m.length) = true := capOk_of (by omega)
          show p57_1 [l, m] 2 1 l = some (.inl ([l, m], 2, 2, l ++ m))
          simp only [p57_1, q57_1, show decide ((1 : Int) < 2) = true from rfl, cond_true, i1, chk_t, x1, c, show fits .i64 ((1 : Int) + 1) = true from by decide]
          rfl) rfl (by omega)
  have el : (([l, m] : List (List RT)).length : Int) = 2 := rfl
  simp only [P57, p57, q57, el, e0, bind_some', P81_eq _ (show 0 ≤ (l.length : Int) + (m.length : Int) by omega) (by omega), e1]
theorem P58_eq (l : List CT) (hl : l.length ≤ 1000) : P58 l = some l := by
  have : capOk 104 (([] : List CT).length + l.length) = true := capOk_of (by simp; omega)
  simp only [P58, p58, q58, this, chk_t, List.nil_append]
  cases hl : decide (l.length = 0)
  · rfl
  · have : l = [] := by simpa using hl
    subst this; simp [bisn]
theorem P59_eq (l : List Int) (hl : l.length ≤ 1000) : P59 l = some l := by
  have : capOk 8 (([] : List Int).length + l.length) = true := capOk_of (by simp; omega)
  simp only [P59, p59, q59, this, chk_t, List.nil_append]
  cases hl : decide (l.length = 0)
  · rfl
  · have : l = [] := by simpa using hl
    subst this; simp [bisn]
theorem P60_eq (l : List (Int × Int)) (hl : l.length ≤ 1000) : P60 l = some l := by
  have : capOk 16 (([] : List (Int × Int)).length + l.length) = true := capOk_of (by simp; omega)
  simp only [P60, p60, q60, this, chk_t, List.nil_append]
  cases hl : decide (l.length = 0)
  · rfl
  · have : l = [] := by simpa using hl
    subst this; simp [bisn]
theorem set_gt {α : Type} [Inhabited α] (l : List α) {k : Nat} (h : k < l.length) : l.set k (gt l k) = l := by
  rw [gt_lt h]; exact List.set_getElem_self h
section
variable {α : Type}
theorem kp_keys {m : List (List Int × α)} {k : List Int} {r : α} : ∀ x, x ∈ (kput m k r).map (·.1) ↔ x = k ∨ x ∈ m.map (·.1) := by
  induction m with
  | nil => intro x; simp [kput]
  | cons a m ih =>
    obtain ⟨k', u⟩ := a
    intro x
    rw [kput]
    split
    · rename_i hk; subst hk; simp
    · rename_i hk
      simp only [List.map_cons, List.mem_cons, ih]
      constructor
      · rintro (h | h | h)
        · exact .inr (.inl h)
        · exact .inl h
        · exact .inr (.inr h)
      · rintro (h | h | h)
        · exact .inr (.inl h)
        · exact .inl h
        · exact .inr (.inr h)
theorem kp_nodup {m : List (List Int × α)} {k : List Int} {r : α} (h : (m.map (·.1)).Nodup) : ((kput m k r).map (·.1)).Nodup := by
  induction m with
  | nil => simp [kput]
  | cons a m ih =>
    obtain ⟨k', u⟩ := a
    rw [kput]
    simp only [List.map_cons, List.nodup_cons] at h
    split
    · rename_i hk
      subst hk
      simp only [List.map_cons, List.nodup_cons]; exact h
    · rename_i hk
      simp only [List.map_cons, List.nodup_cons]
      refine ⟨fun hm => ?_, ih h.2⟩
      rcases (kp_keys _).1 hm with h2 | h2
      · exact hk h2
      · exact h.1 h2
theorem kp_mem {m : List (List Int × α)} {k : List Int} {r : α} : ∀ e ∈ kput m k r, e.2 = r ∨ e ∈ m := by
  induction m with
  | nil => intro e he; simp [kput] at he; left; rw [he]
  | cons a m ih =>
    obtain ⟨k', u⟩ := a
    intro e he
    rw [kput] at he
    split at he
    · rcases List.mem_cons.1 he with he | he
      · left; rw [he]
      · right; exact List.mem_cons_of_mem _ he
    · rcases List.mem_cons.1 he with he | he
      · right; rw [he]; simp
      · rcases ih e he with h | h
        · exact .inl h
        · exact .inr (List.mem_cons_of_mem _ h)
theorem kg_mem {m : List (List Int × α)} {k : List Int} {x : α} (h : kget m k = some x) : ∃ e ∈ m, e.2 = x := by
  unfold kget at h
  rw [Option.map_eq_some_iff] at h
  obtain ⟨e, h1, h2⟩ := h
  exact ⟨e, List.mem_of_find?_eq_some h1, h2⟩
end
def keyL (r : RT) : List Int := [r.1, r.2.1, r.2.2.1, r.2.2.2.1, r.2.2.2.2.1, r.2.2.2.2.2]
theorem keyL_inj {x y : RT} (h : keyL x = keyL y) : x = y := by
  obtain ⟨a, b, c, d, e, f⟩ := x
  obtain ⟨a', b', c', d', e', f'⟩ := y
  simp only [keyL, List.cons.injEq, and_true] at h
  obtain ⟨rfl, rfl, rfl, rfl, rfl, rfl⟩ := h
  rfl
theorem P61_eq (l : List RT) (hl : l.length ≤ 2000) : ∃ o, P61 l = some o ∧ o.Nodup ∧ (o.Pairwise fun x y => x.1 ≤ y.1) ∧ ∀ x, x ∈ o ↔ x ∈ l ∧ 0 ≤ x.1 ∧ x.1 ≤ 99 := by
  have e2 : ∀ (id : Int) (P Q : List RT) (i : Nat) (kn : Bool), i < l.length → (P ++ Q).length ≤ 2000 → L61_2 (l, id, (P.length : Int), (i : Int), kn, (P.length : Int), P ++ Q) = some (l, id, (P.length : Int), (i : Int), kn || decide (gt l i ∈ Q), P ++ Q) := fun id P Q i kn hi hlen => by
    have hQ : ∀ t, t < Q.length → gt (P ++ Q) (P.length + t) = gt Q t := fun t ht => by rw [gt_append, if_neg (by omega)]; congr 1; omega
    simp only [List.length_append] at hlen
    have := while_run (step := fun x => p61_2 x.1 x.2.1 x.2.2.1 x.2.2.2.1 x.2.2.2.2.1 x.2.2.2.2.2.1 x.2.2.2.2.2.2) Q.length (fun t => (l, id, (P.length : Int), (i : Int), kn || decide (gt l i ∈ Q.take t), ((P.length + t : Nat) : Int), P ++ Q)) (l, id, (P.length : Int), (i : Int), kn || decide (gt l i ∈ Q), P ++ Q) (fun t ht => by
      have hlt : P.length + t < (P ++ Q).length := by rw [List.length_append]; omega
      have hk : decide (gt l i ∈ Q.take (t + 1)) = (decide (gt l i ∈ Q.take t) || decide (gt Q t = gt l i)) := by
        rw [take_gt' Q ht, Bool.eq_iff_iff]
        simp only [List.mem_append, List.mem_singleton, decide_eq_true_eq, Bool.or_eq_true]
        constructor
        · rintro (h | h)
          · exact .inl h
          · exact .inr h.symm
        · rintro (h | h)
          · exact .inl h
          · exact .inr h.symm
      simp only [p61_2, q61_2, lt_nat_t hlt, cond_true, inR_nat hlt, inR_nat hi, chk_t, ix_gt, hQ t ht, eqR, fits_nat (show P.length + t < 9223372036854775807 by omega), hk]
      cases hkn : (kn || decide (gt l i ∈ Q.take t))
      · have h1 : kn = false := by cases kn <;> simp_all
        have h2 : decide (gt l i ∈ Q.take t) = false := by cases kn <;> simp_all
        simp only [h1, h2, cond_false, Bool.false_or]; rfl
      · rw [← Bool.or_assoc, hkn, Bool.true_or]; rfl) (by
      have hlen2 : P.length + Q.length = (P ++ Q).length := by rw [List.length_append]
      simp only [hlen2, p61_2, q61_2, lt_nat_f, cond_false, List.take_length]) (by omega)
    simp only [List.take_zero, List.not_mem_nil, decide_false, Bool.or_false, Nat.add_zero] at this
    exact this
  have e1 : ∀ (id : Int) (P : List RT), P.Nodup → (∀ x ∈ P, x ∈ l ∧ x.1 < id) → ∃ y, L61_1 (l, id, (P.length : Int), 0, P) = some y ∧ ∃ Q : List RT, y = (l, id, P ++ Q) ∧ Q.Nodup ∧ ∀ x, x ∈ Q ↔ x ∈ l ∧ x.1 = id := fun id P hP1 hP2 => by
    refine while_inv l.length (fun t s => ∃ Q : List RT, s = (l, id, (P.length : Int), (t : Int), P ++ Q) ∧ Q.Nodup ∧ ∀ x, x ∈ Q ↔ x ∈ l.take t ∧ x.1 = id) _ ⟨[], by simp, by simp, by simp⟩ (by omega) ?_ ?_
    · rintro t s ht ⟨Q, rfl, q1, q2⟩
      have hlen : (P ++ Q).length ≤ 2000 := by
        have hn : (P ++ Q).Nodup := List.nodup_append.2 ⟨hP1, q1, fun x hx y hy e => by subst e; have := (hP2 x hx).2; have := ((q2 x).1 hy).2; omega⟩
        have := nodup_le hn (l' := l) fun x hx => by
          rcases List.mem_append.1 hx with h | h
          · exact (hP2 x h).1
          · exact List.mem_of_mem_take ((q2 x).1 h).1
        omega
      have c : capOk 48 ((P ++ Q).length + [gt l t].length) = true := capOk_of (by simp only [List.length_singleton]; omega)
      simp only [p61_1, q61_1, lt_nat_t ht, cond_true, inR_nat ht, chk_t, ix_gt, e2 id P Q t _ ht hlen, bind_some', c, fits_nat (show t < 9223372036854775807 by omega)]
      by_cases hid : (gt l t).1 = id
      · by_cases hmem : gt l t ∈ Q
        · simp only [hid, hmem, decide_true, Bool.not_true, Bool.or_true, cond_false]
          refine ⟨_, rfl, Q, rfl, q1, fun x => ?_⟩
          rw [take_gt' l ht, List.mem_append, q2, List.mem_singleton]
          constructor
          · rintro ⟨h, h'⟩; exact ⟨.inl h, h'⟩
          · rintro ⟨h | h, h'⟩
            · exact ⟨h, h'⟩
            · subst h; exact (q2 _).1 hmem
        · simp only [hid, hmem, decide_true, decide_false, Bool.not_true, Bool.not_false, Bool.or_false, cond_true]
          refine ⟨_, rfl, Q ++ [gt l t], by rw [List.append_assoc]; rfl, ?_, fun x => ?_⟩
          · refine List.nodup_append.2 ⟨q1, by simp, fun x hx y hy e => ?_⟩
            rw [List.mem_singleton] at hy; subst hy; subst e; exact hmem hx
          · rw [take_gt' l ht, List.mem_append, List.mem_append, q2, List.mem_singleton]
            constructor
            · rintro (⟨h, h'⟩ | h)
              · exact ⟨.inl h, h'⟩
              · exact ⟨.inr h, by rw [h]; exact hid⟩
            · rintro ⟨h | h, h'⟩
              · exact .inl ⟨h, h'⟩
              · exact .inr h
      · simp only [hid, decide_false, Bool.not_false, Bool.true_or, Bool.not_true, cond_false]
        refine ⟨_, rfl, Q, rfl, q1, fun x => ?_⟩
        rw [take_gt' l ht, List.mem_append, q2, List.mem_singleton]
        constructor
        · rintro ⟨h, h'⟩; exact ⟨.inl h, h'⟩
        · rintro ⟨h | h, h'⟩
          · exact ⟨h, h'⟩
          · subst h; exact absurd h' hid
    · rintro s ⟨Q, rfl, q1, q2⟩
      simp only [p61_1, q61_1, lt_nat_f, cond_false]
      rw [List.take_length] at q2
      exact ⟨_, rfl, Q, rfl, q1, q2⟩
  obtain ⟨y, y1, y2, y3, y4⟩ : ∃ y, L61_0 (l, 0, []) = some y ∧ y.Nodup ∧ (y.Pairwise fun x y => x.1 ≤ y.1) ∧ ∀ x, x ∈ y ↔ x ∈ l ∧ 0 ≤ x.1 ∧ x.1 < 100 := by
    refine while_inv 100 (fun t s => ∃ P : List RT, s = (l, (t : Int), P) ∧ P.Nodup ∧ (P.Pairwise fun x y => x.1 ≤ y.1) ∧ ∀ x, x ∈ P ↔ x ∈ l ∧ 0 ≤ x.1 ∧ x.1 < (t : Int)) _ ⟨[], rfl, by simp, by simp, fun x => ⟨fun h => (by cases h), fun h => (by omega)⟩⟩ (by omega) ?_ ?_
    · rintro t s ht ⟨P, rfl, p1, p2, p3⟩
      have d : decide ((t : Int) ≤ 99) = true := by simp; omega
      obtain ⟨y, h1, Q, rfl, h2, h3⟩ := e1 t P p1 fun x hx => ⟨((p3 x).1 hx).1, ((p3 x).1 hx).2.2⟩
      simp only [p61_0, q61_0, d, cond_true, h1, bind_some', fits_nat (show t < 9223372036854775807 by omega), chk_t]
      refine ⟨_, rfl, P ++ Q, by simp only [cast_succ], List.nodup_append.2 ⟨p1, h2, fun x hx y hy e => ?_⟩, List.pairwise_append.2 ⟨p2, ?_, fun x hx y hy => ?_⟩, fun x => ?_⟩
      · subst e; have := ((p3 x).1 hx).2.2; have := ((h3 x).1 hy).2; omega
      · exact List.pairwise_iff_forall_sublist.2 fun {x y} hs => by
          have hx := ((h3 x).1 (hs.subset (by simp))).2
          have hy := ((h3 y).1 (hs.subset (by simp))).2
          omega
      · have := ((p3 x).1 hx).2.2; have := ((h3 y).1 hy).2; omega
      · rw [List.mem_append, p3, h3]
        constructor
        · rintro (⟨a, b, c⟩ | ⟨a, b⟩)
          · exact ⟨a, b, by omega⟩
          · exact ⟨a, by omega, by omega⟩
        · rintro ⟨a, b, c⟩
          by_cases hx : x.1 < (t : Int)
          · exact .inl ⟨a, b, hx⟩
          · exact .inr ⟨a, by omega⟩
    · rintro s ⟨P, rfl, p1, p2, p3⟩
      exact ⟨P, rfl, p1, p2, p3⟩
  exact ⟨y, by simp only [P61, p61, q61, y1, bind_some'], y2, y3, fun x => (y4 x).trans ⟨fun h => ⟨h.1, h.2.1, by omega⟩, fun h => ⟨h.1, h.2.1, by omega⟩⟩⟩
theorem L32_0_eq (b : BT) (more l' all : List RT) (v : Bool) (h : all.length ≤ 2000) : ∃ y, L32_0 (more, v, (all.length : Int), 0, b, 0, l', [], all) = some y ∧ ∃ m : List (List Int × Int), y = (more, v, b, 0, l', m, all) ∧ (m.map (·.1)).Nodup ∧ ∀ k, k ∈ m.map (·.1) ↔ ∃ x ∈ all, keyL x = k := by
  refine while_inv all.length (fun t s => ∃ m : List (List Int × Int), s = (more, v, (all.length : Int), (t : Int), b, 0, l', m, all) ∧ (m.map (·.1)).Nodup ∧ (∀ k, k ∈ m.map (·.1) ↔ ∃ x ∈ all.take t, keyL x = k) ∧ ∀ e ∈ m, 0 ≤ e.2 ∧ e.2 ≤ (t : Int)) _ ⟨[], rfl, by simp, by simp, by simp⟩ (by omega) ?_ ?_
  · rintro t s ht ⟨m, rfl, m1, m2, m3⟩
    have hd : 0 ≤ dof (kget m (keyL (gt all t))) 0 ∧ dof (kget m (keyL (gt all t))) 0 ≤ (t : Int) := by
      cases hg : kget m (keyL (gt all t)) with
      | none => exact ⟨Int.le_refl _, by simp [dof]⟩
      | some x =>
        obtain ⟨e, he, rfl⟩ := kg_mem hg
        exact m3 e he
    have hf : fits .i64 (dof (kget m (keyL (gt all t))) 0 + 1) = true := fitsN (by omega) (by omega)
    have hkk : keyL (gt all t) = [(gt all t).1, (gt all t).2.1, (gt all t).2.2.1, (gt all t).2.2.2.1, (gt all t).2.2.2.2.1, (gt all t).2.2.2.2.2] := rfl
    simp only [p32_0, q32_0, lt_nat_t ht, cond_true, inR_nat ht, chk_t, ix_gt, fits_nat (show t < 9223372036854775807 by omega), ← hkk, hf]
    refine ⟨_, rfl, _, rfl, kp_nodup m1, fun k => ?_, fun e he => ?_⟩
    · rw [kp_keys, m2, take_gt' all ht]
      simp only [List.mem_append, List.mem_singleton]
      constructor
      · rintro (h | ⟨x, hx, h⟩)
        · exact ⟨_, .inr rfl, h.symm⟩
        · exact ⟨x, .inl hx, h⟩
      · rintro ⟨x, hx | hx, h⟩
        · exact .inr ⟨x, hx, h⟩
        · subst hx; exact .inl h.symm
    · rcases kp_mem e he with h | h
      · rw [h]; omega
      · have := m3 e h; omega
  · rintro s ⟨m, rfl, m1, m2, m3⟩
    simp only [p32_0, q32_0, lt_nat_f, cond_false]
    rw [List.take_length] at m2
    exact ⟨_, rfl, m, rfl, m1, m2⟩
theorem L32_1_eq (tax : Int) (c : List CT) (r : List RT) (h : c.length ≤ 1000) (hs : ∀ x ∈ c, x.2.2.2.1.length ≤ 1000 ∧ x.2.2.2.2.1.length ≤ 1000) : L32_1 ((c.length : Int), 0, tax, 0, c, r) = some (tax, 0, c, r) :=
  while_run (step := fun x => p32_1 x.1 x.2.1 x.2.2.1 x.2.2.2.1 x.2.2.2.2.1 x.2.2.2.2.2) c.length (fun k => ((c.length : Int), (k : Int), tax, 0, c, r)) _ (fun k hk => by
    have hc := hs _ (gt_mem hk)
    simp only [p32_1, q32_1, lt_nat_t hk, cond_true, inR_nat hk, chk_t, ix_gt, P59_eq _ hc.1, P60_eq _ hc.2, bind_some', Int.toNat_natCast, Prod.eta, set_gt c hk, fits_nat (show k < 9223372036854775807 by omega), cast_succ]) (by
    simp only [p32_1, q32_1, lt_nat_f, cond_false]) (by omega)
theorem P32_33 (b : BT) (more : List RT) (hb : szB b) (hm0 : more.length ≤ 900) : ∃ t e c r, P32 (b, more) = some (t, e, c, r) ∧ P33 (b, more) = some (t, e, c, r) ∧ szB (t, c, r) := by
  have hm : more.length ≤ 1000 := by omega
  have hz : szB (0, [], []) := ⟨by simp, by simp, by simp⟩
  by_cases hk : ¬ chkV b = 0
  · refine ⟨0, chkV b, [], [], ?_, ?_, hz⟩
    · simp only [P32, p32, q32, P27_eq b hb, bind_some', hk, decide_false, Bool.not_false, cond_true]
    · simp only [P33, p33, q33, P20_eq b hb, bind_some', hk, decide_false, Bool.not_false, cond_true]
  have hk := Classical.not_not.1 hk
  obtain ⟨hB, hR40, hR⟩ := chk0 hk
  have hall : (b.2.2 ++ more).length ≤ 2000 := by rw [List.length_append]; have := hb.2.1; omega
  obtain ⟨v, l', e56, l1, l2⟩ := P56_eq (b.2.2 ++ more) (by rw [List.length_append]; omega)
  obtain ⟨y, e320, m, rfl, m1, m2⟩ := L32_0_eq b more l' (b.2.2 ++ more) v hall
  obtain ⟨o, e61, o1, o2, o3⟩ := P61_eq (b.2.2 ++ more) hall
  have c1 : capOk 48 (([] : List RT).length + b.2.2.length) = true := capOk_of (by simp; omega)
  have c2 : capOk 48 (b.2.2.length + more.length) = true := capOk_of (by omega)
  have hbm : szB (b.1, b.2.1, more) := ⟨hb.1, hm, hb.2.2⟩
  have ebm : chkV (b.1, b.2.1, more) = cond (decide (more.length ≤ 40) && okRs b.2.1 more) 0 81 := by
    have e1 : okBs (b.1, b.2.1, more) = true := hB
    unfold chkV; rw [e1]; rfl
  have z81 : decide ((81 : Int) = 0) = false := by decide
  cases hA : (decide (more.length ≤ 40) && okRs b.2.1 more)
  · rw [hA] at ebm
    refine ⟨0, 81, [], [], ?_, ?_, hz⟩
    · simp only [P32, p32, q32, P27_eq b hb, bind_some', hk, decide_true, Bool.not_true, cond_false, P57_eq _ _ hb.2.1 hm, e56, e320, P51_eq b more hb.1 hm, hA, Bool.not_false, cond_true]
      cases v <;> rfl
    · simp only [P33, p33, q33, P20_eq b hb, bind_some', hk, decide_true, Bool.not_true, cond_false, P24_eq b hb, P20_eq _ hbm, ebm, z81, Bool.not_false, cond_true]
  · rw [hA] at ebm
    simp only [Bool.and_eq_true, decide_eq_true_eq] at hA
    obtain ⟨r1, r2⟩ := okRs_iff.1 hR
    obtain ⟨r3, r4⟩ := okRs_iff.1 hA.2
    have hokall : ∀ r ∈ b.2.2 ++ more, okR b.2.1 r = true := fun r hr => (List.mem_append.1 hr).elim (r1 r) (r3 r)
    have hids : idsOk (b.2.2 ++ more) := fun r hr => (okR_b (hokall r hr)).1
    obtain ⟨l3, l4⟩ := l2 hids
    have o3' : ∀ x, x ∈ o ↔ x ∈ b.2.2 ++ more := fun x => (o3 x).trans ⟨fun h => h.1, fun h => ⟨h, hids x h⟩⟩
    have hNCo : NC o ↔ NC (b.2.2 ++ more) := by
      unfold NC
      exact ⟨fun h x hx y hy => h x ((o3' x).2 hx) y ((o3' y).2 hy), fun h x hx y hy => h x ((o3' x).1 hx) y ((o3' y).1 hy)⟩
    have hok : okRs b.2.1 o = v := by
      rw [Bool.eq_iff_iff, okRs_iff, l3, hNCo]
      exact ⟨fun h => h.2, fun h => ⟨fun r hr => hokall r ((o3' r).1 hr), h⟩⟩
    have hol : o.length ≤ 2000 := Nat.le_trans (nodup_le o1 fun x hx => (o3' x).1 hx) hall
    have hcnt : m.length = o.length := by
      have k1 : (o.map keyL).Nodup := by
        unfold List.Nodup at o1 ⊢
        rw [List.pairwise_map]
        exact o1.imp fun h e => h (keyL_inj e)
      have q1 := nodup_le m1 (l' := o.map keyL) fun k hk => by
        obtain ⟨x, hx, e⟩ := (m2 k).1 hk
        exact List.mem_map.2 ⟨x, (o3' x).2 hx, e⟩
      have q2 := nodup_le k1 (l' := m.map (·.1)) fun k hk => by
        obtain ⟨x, hx, e⟩ := List.mem_map.1 hk
        exact (m2 k).2 ⟨x, (o3' x).1 hx, e⟩
      simp only [List.length_map] at q1 q2
      omega
    have ebo : chkV (b.1, b.2.1, o) = cond (decide (o.length ≤ 40) && v) 0 81 := by
      have e1 : okBs (b.1, b.2.1, o) = true := hB
      unfold chkV; rw [e1]
      show cond (decide (o.length ≤ 40) && okRs b.2.1 o) 0 81 = _
      rw [hok]
    have hA' : (decide (more.length ≤ 40) && okRs b.2.1 more) = true := by simp [hA]
    have hbo : o.length ≤ 1000 ∨ 1000 < o.length := by omega
    have n40 : decide (40 < (m.length : Int)) = !decide (o.length ≤ 40) := by rw [hcnt, Bool.eq_iff_iff]; simp; omega
    have hob : szB (b.1, b.2.1, o) ∨ ¬ o.length ≤ 40 := by
      rcases hbo with h | h
      · exact .inl ⟨hb.1, h, hb.2.2⟩
      · exact .inr (by omega)
    have hol2 : o.length ≤ 1000 := by
      have := nodup_le o1 fun x hx => (o3' x).1 hx
      rw [List.length_append] at this; omega
    have hob : szB (b.1, b.2.1, o) := ⟨hb.1, hol2, hb.2.2⟩
    cases hv : v
    · refine ⟨0, 81, [], [], ?_, ?_, hz⟩
      · subst hv
        simp only [P32, p32, q32, P27_eq b hb, bind_some', hk, decide_true, Bool.not_true, cond_false, P57_eq _ _ hb.2.1 hm, e56, e320, Bool.not_false, cond_true]
      · rw [hv, Bool.and_false] at ebo
        simp only [P33, p33, q33, P20_eq b hb, bind_some', hk, decide_true, Bool.not_true, cond_false, P24_eq b hb, P20_eq _ hbm, ebm, cond_true, c1, c2, List.nil_append, chk_t, e61, P20_eq _ hob, ebo, z81, Bool.not_false]
    · obtain ⟨l5, l6⟩ := l4 hv
      cases h40 : decide (o.length ≤ 40)
      · refine ⟨0, 81, [], [], ?_, ?_, hz⟩
        · subst hv
          simp only [P32, p32, q32, P27_eq b hb, bind_some', hk, decide_true, Bool.not_true, cond_false, P57_eq _ _ hb.2.1 hm, e56, e320, P51_eq b more hb.1 hm, hA', n40, h40, Bool.not_false, cond_true]
        · rw [h40, Bool.false_and] at ebo
          simp only [P33, p33, q33, P20_eq b hb, bind_some', hk, decide_true, Bool.not_true, cond_false, P24_eq b hb, P20_eq _ hbm, ebm, cond_true, c1, c2, List.nil_append, chk_t, e61, P20_eq _ hob, ebo, z81, Bool.not_false]
      · have hasc : Asc o := by
          have hn := hNCo.2 (l3.1 hv)
          have : o.Pairwise fun x y => x.1 ≤ y.1 ∧ x ≠ y := o2.and o1
          refine List.Pairwise.imp_of_mem (fun {x y} hx hy h => ?_) this
          rcases Int.lt_or_le x.1 y.1 with q | q
          · exact q
          · exact absurd (hn x hx y hy (by omega)) h.2
        have hlo : l' = o := asc_eq l5 hasc fun x => (l6 x).trans (o3' x).symm
        subst hlo
        refine ⟨b.1, 0, b.2.1, l', ?_, ?_, hob⟩
        · subst hv
          simp only [P32, p32, q32, P27_eq b hb, bind_some', hk, decide_true, Bool.not_true, cond_false, P57_eq _ _ hb.2.1 hm, e56, e320, P51_eq b more hb.1 hm, hA', n40, h40, P58_eq _ hb.1, L32_1_eq b.1 b.2.1 l' hb.1 hb.2.2]
        · rw [h40, hv] at ebo
          simp only [P33, p33, q33, P20_eq b hb, bind_some', hk, decide_true, Bool.not_true, cond_false, P24_eq b hb, P20_eq _ hbm, ebm, cond_true, c1, c2, List.nil_append, chk_t, e61, P20_eq _ hob, ebo, Bool.and_self]
theorem Pure.ShareMerges' (b : BT) (more : List RT) : P11 (b, more) = some true := by
  simp only [P11, p11, q11, P23_eq, bind_some', P15_eq]
  cases hfar : farV b
  · have hb := far_sz hfar
    simp only [cond_false]
    by_cases hl : (60 : Int) < more.length
    · simp only [hl, decide_true, cond_true]
    · have c1 : capOk 48 (([] : List RT).length + more.length) = true := capOk_of (by simp; omega)
      obtain ⟨t, e, c, r, h1, h2, h3⟩ := P32_33 b more hb (by omega)
      simp only [hl, decide_false, cond_false, P24_eq b hb, bind_some', c1, chk_t, List.nil_append, h1, h2, P31_refl _ h3, cond_true, decide_true]
  · rfl
theorem Pure.ShareMerges (b : BT) (_ : Wf TyB b) (l : List RT) (_ : Wf (.sl TyR) l) : P11 (b, l) = some true := Pure.ShareMerges' b l
end Go.Proofs.Ytfknkinmnecoeaa.D
