/- Abstract code as a function over typed values, part 7: states behind calls and loops. -/
import Derived.Test.YtjoncejabdjekaaD6
set_option linter.unusedVariables false
set_option linter.unusedSimpArgs false
namespace Go.Proofs.Ytjoncejabdjekaa.D
open Go Go.Proofs.Ytjoncejabdjekaa.L

theorem fnd_mem {α : Type} : ∀ {l : List (Nat × α)} {b : Nat} {o : α}, fnd l b = some o → (b, o) ∈ l
  | [], b, o, h => by simp [fnd] at h
  | (c, p) :: l, b, o, h => by
    simp only [fnd] at h
    by_cases e : c = b
    · subst e; simp at h; subst h; simp
    · simp only [beq_ne e, cond_false] at h; simp [fnd_mem h]
theorem mem_fnd {α : Type} : ∀ {l : List (Nat × α)} {b : Nat} {o : α}, (b, o) ∈ l → ∃ o', fnd l b = some o'
  | (c, p) :: l, b, o, h => by
    by_cases e : c = b
    · subst e; exact ⟨p, by simp [fnd]⟩
    · rcases List.mem_cons.1 h with h | h
      · cases h; exact absurd rfl e
      · obtain ⟨o', ho⟩ := mem_fnd h; exact ⟨o', by simp only [fnd, beq_ne e, cond_false]; exact ho⟩
theorem any_mem {l : List Nat} {b : Nat} : l.any (Nat.beq b) = true ↔ b ∈ l := by
  rw [List.any_eq_true]
  constructor
  · rintro ⟨x, hx, h⟩; rw [beq_iff.1 h]; exact hx
  · exact fun h => ⟨b, h, Nat.beq_refl b⟩
theorem mem_names : ∀ {nm : Nm} {b : Nat}, b ∈ nmNames nm ↔ ∃ k, (k, some b) ∈ nm
  | [], b => by simp [nmNames]
  | (k, none) :: nm, b => by
    simp only [nmNames, mem_names (nm := nm), List.mem_cons, Prod.mk.injEq, reduceCtorEq, and_false, false_or]
  | (k, some c) :: nm, b => by
    simp only [nmNames, List.mem_cons, mem_names (nm := nm), Prod.mk.injEq, Option.some.injEq]
    constructor
    · rintro (rfl | ⟨k', h⟩)
      · exact ⟨k, .inl ⟨rfl, rfl⟩⟩
      · exact ⟨k', .inr h⟩
    · rintro ⟨k', ⟨rfl, rfl⟩ | h⟩
      · exact .inl rfl
      · exact .inr ⟨k', h⟩
theorem fnd_names {nm : Nm} {k b : Nat} (h : fnd nm k = some (some b)) : b ∈ nmNames nm := mem_names.2 ⟨k, fnd_mem h⟩
theorem noDup_cons {b : Nat} {l : List Nat} (h : noDup (b :: l) = true) : b ∉ l ∧ noDup l = true := by
  simp only [noDup, Bool.and_eq_true, Bool.not_eq_true'] at h
  refine ⟨fun hb => ?_, h.2⟩
  rw [any_mem.2 hb] at h
  cases h.1
theorem names_inj : ∀ {nm : Nm} {k1 k2 b : Nat}, noDup (nmNames nm) = true → (k1, some b) ∈ nm → (k2, some b) ∈ nm → k1 = k2
  | (k, none) :: nm, k1, k2, b, h, h1, h2 => by
    simp only [List.mem_cons, Prod.mk.injEq, reduceCtorEq, and_false, false_or] at h1 h2
    exact names_inj (nm := nm) h h1 h2
  | (k, some c) :: nm, k1, k2, b, h, h1, h2 => by
    obtain ⟨g1, g2⟩ := noDup_cons (b := c) (l := nmNames nm) h
    simp only [List.mem_cons, Prod.mk.injEq, Option.some.injEq] at h1 h2
    rcases h1 with ⟨rfl, rfl⟩ | h1 <;> rcases h2 with ⟨rfl, e2⟩ | h2
    · rfl
    · exact absurd (mem_names.2 ⟨_, h2⟩) g1
    · subst e2; exact absurd (mem_names.2 ⟨_, h1⟩) g1
    · exact names_inj g2 h1 h2
theorem names_fnd {α : Type} : ∀ {nm : List (Nat × α)} {k : Nat} {x : α}, noDup (nm.map (·.1)) = true → (k, x) ∈ nm → fnd nm k = some x
  | (k', y) :: nm, k, x, h, hm => by
    have h' : noDup (k' :: nm.map (·.1)) = true := h
    obtain ⟨g1, g2⟩ := noDup_cons h'
    rcases List.mem_cons.1 hm with e | hm
    · cases e; simp [fnd]
    · have : k' ≠ k := fun e => by subst e; exact g1 (List.mem_map.2 ⟨_, hm, rfl⟩)
      simp only [fnd, beq_ne this, cond_false]
      exact names_fnd g2 hm
theorem keysIn_mem {os : List (Nat × OSh)} : ∀ {nm : Nm} {k : Nat} {x : Option Nat}, keysIn os nm = true → fnd nm k = some x → ∃ o, (k, o) ∈ os
  | (k', y) :: nm, k, x, h, hf => by
    simp only [keysIn, Bool.and_eq_true] at h
    by_cases e : k' = k
    · subst e
      obtain ⟨⟨k2, o⟩, h1, h2⟩ := List.any_eq_true.1 h.1
      obtain rfl := beq_iff.1 h2
      exact ⟨o, h1⟩
    · simp only [fnd, beq_ne e, cond_false] at hf
      exact keysIn_mem h.2 hf
theorem boundB_mem {q : Nat} : ∀ {os : List (Nat × OSh)} {k : Nat} {o : OSh}, boundB q os = true → (k, o) ∈ os → k < q
  | (k', o') :: os, k, o, h, hm => by
    simp only [boundB, Bool.and_eq_true] at h
    rcases List.mem_cons.1 hm with e | hm
    · cases e; have h1 := h.1; simp [Nat.blt, Nat.ble_eq] at h1; omega
    · exact boundB_mem h.2 hm

def piOf (π : Pi) (nm : Nm) : Pi := fun k => match fnd nm k with
  | some x => locOf π x
  | none => none
theorem piOf_some {π : Pi} {nm : Nm} {k : Nat} {b' c n : Nat} (h : piOf π nm k = some (.real b' c n)) : ∃ b, fnd nm k = some (some b) ∧ π b = some (.real b' c n) := by
  unfold piOf at h
  split at h
  · rename_i x hx
    cases x with
    | none => simp [locOf] at h
    | some b => exact ⟨b, hx, h⟩
  · cases h

section
variable {π : Pi} {Fr : Store} {S : DSt} {s' : Store}
/-- A state is told anew. -/
theorem canon (hS : RelS π Fr S s') {sh : StSh} {q : Nat} {ds : List DV} {nm0 nm : Nm} {l : List Leaf} {as : List AV} (h : rdSt none S sh q ds nm0 = some (l, nm)) (hr : RelVs π ds as) {Fr1 : Store}
    (f1 : ∀ b' x, Fr1 b' = some x → s' b' = some x) (f2 : ∀ k b b' c n, fnd nm k = some (some b) → π b = some (.real b' c n) → Fr1 b' = none) :
    NmLe nm0 nm ∧ noDup (nmNames nm) = true ∧ noDup (sh.objs.map (·.1)) = true ∧ (∀ k b, fnd nm k = some (some b) → ∃ o, S.get b = some o) ∧
    ∃ ds0 os0, fillSt (fun k => k) sh l = some (ds0, os0) ∧ RelVs (piOf π nm) ds0 as ∧ RelS (piOf π nm) Fr1 ⟨q, os0⟩ s' := by
  unfold rdSt at h
  split at h
  · rename_i l1 nm1 h1
    split at h
    · rename_i l2 nm2 h2
      cases hc : (noDup (nmNames nm2) && (noDup (nm2.map (·.1)) && (keysIn sh.objs nm2 && (boundB q sh.objs && noDup (sh.objs.map (·.1)))))) with
      | false => rw [hc] at h; cases h
      | true =>
        rw [hc] at h
        cases h
        simp only [Bool.and_eq_true] at hc
        obtain ⟨c1, c2, c3, c4, c5⟩ := hc
        obtain ⟨g1, g2⟩ := rdVs_fill (π2 := piOf π nm) (ρ := fun k => k) sh.vals h1 hr
        obtain ⟨g3, g4, g5⟩ := rdOs_fill (π2 := piOf π nm) (ρ := fun k => k) hS sh.objs h2
        have hM : Mt π nm (piOf π nm) (fun k => k) := fun k x hx lc hl => by simp only [piOf, hx, hl]
        obtain ⟨ds0, k1, k2⟩ := g2 (l2 ++ []) (hM.le g3)
        obtain ⟨os0, k3, k4⟩ := g5 [] hM
        have live : ∀ k b, fnd nm k = some (some b) → ∃ o, S.get b = some o := fun k b hk => by
          obtain ⟨o, ho⟩ := keysIn_mem c3 hk
          obtain ⟨x, hx, hb⟩ := g4 k o ho
          rw [hk] at hx; cases hx
          exact hb b rfl
        refine ⟨g1.trans g3, c1, c5, live, ds0, os0, ?_, k2, ?_⟩
        · simp only [List.append_nil] at k1 k3
          simp only [fillSt, k1, k3]
        · refine ⟨fun b o hb => k4 b o (fnd_mem hb), fun b1 b2 o1 o2 b' c1' n1 c2' n2 h1 h2 p1 p2 => ?_, f1, fun b o b' c n hb hp => ?_, fun b hb => ?_⟩
          · obtain ⟨d1, q1, q2⟩ := piOf_some p1
            obtain ⟨d2, q3, q4⟩ := piOf_some p2
            obtain ⟨o3, h3⟩ := live _ _ q1
            obtain ⟨o4, h4⟩ := live _ _ q3
            have := hS.inj _ _ _ _ _ _ _ _ _ h3 h4 q2 q4
            subst this
            exact names_inj c1 (fnd_mem q1) (fnd_mem q3)
          · obtain ⟨d1, q1, q2⟩ := piOf_some hp
            exact f2 _ _ _ _ _ q1 q2
          · have hb : q ≤ b := hb
            unfold piOf
            cases hf : fnd nm b with
            | none => rfl
            | some x =>
              obtain ⟨o, ho⟩ := keysIn_mem c3 hf
              have := boundB_mem c4 ho
              omega
    · cases h
  · cases h

open Classical in
/-- What a call or a loop does not touch. -/
noncomputable def frOf (π : Pi) (nm : Nm) (s' : Store) : Store := fun b' => if ∃ k b c n, fnd nm k = some (some b) ∧ π b = some (.real b' c n) then none else s' b'
theorem frOf_le {nm : Nm} {b' : Nat} {x : AObj} (h : frOf π nm s' b' = some x) : s' b' = some x := by
  unfold frOf at h
  split at h
  · cases h
  · exact h
theorem frOf_none {nm : Nm} {k b b' c n : Nat} (h : fnd nm k = some (some b)) (hp : π b = some (.real b' c n)) : frOf π nm s' b' = none := by
  unfold frOf
  rw [if_pos ⟨k, b, c, n, h, hp⟩]
theorem frOf_old (hS : RelS π Fr S s') {nm : Nm} (live : ∀ k b, fnd nm k = some (some b) → ∃ o, S.get b = some o) {b b' c n : Nat} {o : DObj} (hb : S.get b = some o) (hn : b ∉ nmNames nm) (hp : π b = some (.real b' c n)) : frOf π nm s' b' = s' b' := by
  unfold frOf
  rw [if_neg]
  rintro ⟨k, b2, c2, n2, h1, h2⟩
  obtain ⟨o2, ho2⟩ := live _ _ h1
  have := hS.inj _ _ _ _ _ _ _ _ _ hb ho2 hp h2
  subst this
  exact hn (fnd_names h1)
theorem frOf_fr (hS : RelS π Fr S s') {nm : Nm} (live : ∀ k b, fnd nm k = some (some b) → ∃ o, S.get b = some o) {b' : Nat} {x : AObj} (h : Fr b' = some x) : frOf π nm s' b' = some x := by
  unfold frOf
  rw [if_neg, hS.frm _ _ h]
  rintro ⟨k, b2, c2, n2, h1, h2⟩
  obtain ⟨o2, ho2⟩ := live _ _ h1
  rw [hS.out _ _ _ _ _ ho2 h2] at h; cases h

theorem delAll_get : ∀ (L : List Nat) (S : DSt) (b : Nat), (delAll S L).get b = if b ∈ L then none else S.get b
  | [], S, b => by simp [delAll]
  | c :: L, S, b => by
    simp only [delAll, delAll_get L, DSt.get_del, List.mem_cons]
    by_cases h1 : b = c <;> by_cases h2 : b ∈ L <;> simp [h1, h2]
theorem repAll_inv : ∀ (os : List (Nat × DObj)) {m : List (Nat × DObj)} {b : Nat} {o : DObj}, fnd (repAll m os) b = some o → (b, o) ∈ os ∨ fnd m b = some o
  | [], m, b, o, h => .inr h
  | (c, p) :: os, m, b, o, h => by
    rcases repAll_inv os h with h | h
    · exact .inl (by simp [h])
    · rw [fnd_rep] at h
      by_cases e : b = c
      · rw [if_pos e] at h; cases h; exact .inl (by simp [e])
      · rw [if_neg e] at h; exact .inr h
theorem repAll_some : ∀ (os : List (Nat × DObj)) {m : List (Nat × DObj)} {b : Nat} {o : DObj}, fnd m b = some o → ∃ o', fnd (repAll m os) b = some o'
  | [], m, b, o, h => ⟨o, h⟩
  | (c, p) :: os, m, b, o, h => by
    have : ∃ o1, fnd (rep m c p) b = some o1 := by
      rw [fnd_rep]
      split
      · exact ⟨_, rfl⟩
      · exact ⟨_, h⟩
    obtain ⟨o1, h1⟩ := this
    exact repAll_some os h1

theorem fillOs_keys {ρ : Nat → Nat} : ∀ {os : List (Nat × OSh)} {l l' : List Leaf} {xs : List (Nat × DObj)}, fillOs ρ os l = some (xs, l') → xs.map (·.1) = os.map fun x => ρ x.1
  | [], l, l', xs, h => by cases h; rfl
  | (k, o) :: os, l, l', xs, h => by
    simp only [fillOs] at h
    split at h
    · split at h
      · rename_i hx; cases h; simp [fillOs_keys hx]
      · cases h
    · cases h

/-- The state behind a call or a loop. -/
theorem after_sound (hS : RelS π Fr S s') {nm : Nm} (live : ∀ k b, fnd nm k = some (some b) → ∃ o, S.get b = some o) {π1 : Pi} {s1 : Store} {o : OutSh} {l : List Leaf} {ds : List DV} {os : List (Nat × DObj)} {as : List AV}
    (hf : fillSt (fun k => k) o.st l = some (ds, os)) (hnd : noDup (o.st.objs.map (·.1)) = true) (hr : RelVs π1 ds as) (h1 : RelS π1 (frOf π nm s') ⟨o.q, os⟩ s1) (hid : ∀ k, o.ids.any (Nat.beq k) = true → ∀ b, fnd nm k = some (some b) → π1 k = π b) :
    ∃ ds2 S2 π2, afterD S nm o l = some (ds2, S2) ∧ Ext π π2 ∧ RelVs π2 ds2 as ∧ RelS π2 Fr S2 s1 ∧
      (∀ b o, S.get b = some o → b ∉ nmNames nm → ∃ o', S2.get b = some o') ∧ (∀ b o b' c n, S.get b = some o → b ∉ nmNames nm → π b = some (.real b' c n) → s1 b' = s' b') := by
  let π2 : Pi := fun b => if b < S.nx then π b else π1 (b - S.nx)
  have lt : ∀ b l, π b = some l → b < S.nx := fun b l hb => by
    rcases Nat.lt_or_ge b S.nx with h | h
    · exact h
    · rw [hS.nx b h] at hb; cases hb
  have hx : Ext π π2 := fun b l hb => by show (if b < S.nx then π b else _) = _; rw [if_pos (lt _ _ hb)]; exact hb
  have hx1 : ∀ k l, π1 k = some l → π2 (outN S.nx nm o.ids k) = some l := fun k l hk => by
    have other : π2 (S.nx + k) = some l := by
      show (if S.nx + k < S.nx then π _ else π1 (S.nx + k - S.nx)) = _
      rw [if_neg (by omega), Nat.add_sub_cancel_left]; exact hk
    unfold outN
    split
    · rename_i b ha hb
      rw [hid k ha b hb] at hk
      exact hx _ _ hk
    · exact other
  unfold fillSt at hf
  split at hf
  · rename_i ds1 l1 hv
    split at hf
    · rename_i os1 ho
      cases hf
      obtain ⟨ds2, g1, g2⟩ := fillVs_ren (ρ0 := fun k => k) hx1 o.st.vals hv hr
      have hkeys : noDup (os.map (·.1)) = true := by rw [fillOs_keys ho]; exact hnd
      have hO : ∀ b x, (b, x) ∈ os → ObR π1 s1 b x := fun b x hb => h1.obj b x (names_fnd hkeys hb)
      obtain ⟨os2, g3, g4⟩ := fillOs_ren (ρ0 := fun k => k) hx1 o.st.objs ho hO
      refine ⟨ds2, ⟨S.nx + o.q, repAll (delAll S (nmNames nm)).m os2⟩, π2, ?_, hx, g2, ?_, ?_, ?_⟩
      · simp only [afterD, fillSt, g1, g3]
      · have inv : ∀ b x, fnd (repAll (delAll S (nmNames nm)).m os2) b = some x → (∃ k y, b = outN S.nx nm o.ids k ∧ (k, y) ∈ os ∧ ObR π2 s1 b x) ∨ (S.get b = some x ∧ b ∉ nmNames nm) := fun b x hb => by
          rcases repAll_inv os2 hb with h | h
          · obtain ⟨k, y, q1, q2, q3⟩ := g4 b x h; exact .inl ⟨k, y, q1, q2, q3⟩
          · have h : (delAll S (nmNames nm)).get b = some x := h
            rw [delAll_get] at h
            split at h
            · cases h
            · rename_i hn; exact .inr ⟨h, hn⟩
        have old : ∀ b x b' c n, S.get b = some x → b ∉ nmNames nm → π b = some (.real b' c n) → s1 b' = s' b' := fun b x b' c n hb hn hp => by
          have e := frOf_old hS live hb hn hp
          cases hs : s' b' with
          | none => exact absurd hs ((hS.obj _ _ hb).some' hp)
          | some z => rw [hs] at e; exact h1.frm _ _ e
        have p2 : ∀ b x b' c n, S.get b = some x → π2 b = some (.real b' c n) → π b = some (.real b' c n) := fun b x b' c n hb hp => by
          obtain ⟨lc, hl⟩ := (hS.obj _ _ hb).loc
          have := hx _ _ hl
          rw [hp] at this; cases this; exact hl
        have p1 : ∀ k y b' c n, (k, y) ∈ os → π2 (outN S.nx nm o.ids k) = some (.real b' c n) → π1 k = some (.real b' c n) := fun k y b' c n hk hp => by
          obtain ⟨lc, hl⟩ := (hO _ _ hk).loc
          have := hx1 _ _ hl
          rw [hp] at this; cases this; exact hl
        refine ⟨fun b x hb => ?_, fun b1 b2 x1 x2 b' c1 n1 c2 n2 hb1 hb2 hp1 hp2 => ?_, fun b' x h => h1.frm _ _ (frOf_fr hS live h), fun b x b' c n hb hp => ?_, fun b hb => ?_⟩
        · rcases inv b x hb with ⟨k, y, _, _, h⟩ | ⟨h, hn⟩
          · exact h
          · exact (hS.obj _ _ h).mono hx fun b' c n hp => old b x b' c n h hn hp
        · rcases inv _ _ hb1 with ⟨k1, y1, rfl, m1, _⟩ | ⟨q1, q2⟩ <;> rcases inv _ _ hb2 with ⟨k2, y2, rfl, m2, _⟩ | ⟨q3, q4⟩
          · rw [h1.inj k1 k2 y1 y2 b' c1 n1 c2 n2 (names_fnd hkeys m1) (names_fnd hkeys m2) (p1 _ _ _ _ _ m1 hp1) (p1 _ _ _ _ _ m2 hp2)]
          · have e1 := h1.out k1 y1 b' c1 n1 (names_fnd hkeys m1) (p1 _ _ _ _ _ m1 hp1)
            have e2 := p2 _ _ _ _ _ q3 hp2
            rw [frOf_old hS live q3 q4 e2] at e1
            exact absurd e1 ((hS.obj _ _ q3).some' e2)
          · have e1 := h1.out k2 y2 b' c2 n2 (names_fnd hkeys m2) (p1 _ _ _ _ _ m2 hp2)
            have e2 := p2 _ _ _ _ _ q1 hp1
            rw [frOf_old hS live q1 q2 e2] at e1
            exact absurd e1 ((hS.obj _ _ q1).some' e2)
          · exact hS.inj _ _ _ _ _ _ _ _ _ q1 q3 (p2 _ _ _ _ _ q1 hp1) (p2 _ _ _ _ _ q3 hp2)
        · rcases inv _ _ hb with ⟨k, y, rfl, m1, _⟩ | ⟨h, hn⟩
          · have e1 := h1.out k y b' c n (names_fnd hkeys m1) (p1 _ _ _ _ _ m1 hp)
            cases hfr : Fr b' with
            | none => rfl
            | some z => rw [frOf_fr hS live hfr] at e1; cases e1
          · exact hS.out _ _ _ _ _ h (p2 _ _ _ _ _ h hp)
        · have hb : S.nx + o.q ≤ b := hb
          show (if b < S.nx then π b else π1 (b - S.nx)) = none
          rw [if_neg (by omega)]
          exact h1.nx _ (by show o.q ≤ b - S.nx; omega)
      · intro b x hb hn
        have : (delAll S (nmNames nm)).get b = some x := by rw [delAll_get, if_neg hn]; exact hb
        exact repAll_some os2 this
      · intro b x b' c n hb hn hp
        have e := frOf_old hS live hb hn hp
        cases hs : s' b' with
        | none => exact absurd hs ((hS.obj _ _ hb).some' hp)
        | some z => rw [hs] at e; exact h1.frm _ _ e
    · cases hf
  · cases hf
end
end Go.Proofs.Ytjoncejabdjekaa.D
