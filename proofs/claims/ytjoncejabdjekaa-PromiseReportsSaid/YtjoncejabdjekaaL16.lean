/- An own program logic over the kit's walk, part 16: knowing less; memory that is not written any more. -/
import Derived.Test.YtjoncejabdjekaaL15
set_option linter.unusedVariables false
set_option linter.unusedSimpArgs false
namespace Go.Proofs.Ytjoncejabdjekaa.L
open Go

/-- From one telling to another one that says no more. -/
def Wk (s : Store) (e : Env) (s' : Store) (e' : Env) : Prop :=
  ∀ (w : World) (vs : Nat → Value), St s w → (∀ t, RV (own s) w (e t) (vs t)) → St s' w ∧ (∀ t, RV (own s') w (e' t) (vs t)) ∧ Mv (own s) (own s') w w

theorem Wk.refl (s : Store) (e : Env) : Wk s e s e := fun w vs h1 h2 => ⟨h1, h2, Mv.refl _ _⟩
theorem Wk.trans {s s1 s2 : Store} {e e1 e2 : Env} (h : Wk s e s1 e1) (k : Wk s1 e1 s2 e2) : Wk s e s2 e2 := fun w vs h1 h2 => by
  obtain ⟨a1, a2, a3⟩ := h w vs h1 h2
  obtain ⟨b1, b2, b3⟩ := k w vs a1 a2
  exact ⟨b1, b2, a3.trans b3⟩

theorem Mv.less {o o' : Nat → Prop} (h : ∀ b, o' b → o b) (w : World) : Mv o o' w w := ⟨rfl, rfl, rfl, Nat.le_refl _, fun _ _ _ => rfl, fun b hb => .inl (h b hb)⟩

/-- Some objects less. -/
def Sub (s' s : Store) : Prop := ∀ b, s' b = none ∨ s' b = s b
theorem Sub.refl (s : Store) : Sub s s := fun b => .inr rfl
theorem Sub.trans {s s1 s2 : Store} (h : Sub s s1) (k : Sub s1 s2) : Sub s s2 := fun b => by
  rcases h b with h | h
  · exact .inl h
  · rcases k b with k | k
    · exact .inl (h.trans k)
    · exact .inr (h.trans k)
theorem Sub.own {s' s : Store} (h : Sub s' s) {b : Nat} (hb : own s' b) : own s b := by
  rcases h b with h | h
  · exact absurd h hb
  · unfold L.own; rw [← h]; exact hb
theorem Sub.st {s' s : Store} (h : Sub s' s) {w : World} (hs : St s w) : St s' w := fun b x hx => by
  rcases h b with k | k
  · rw [k] at hx; cases hx
  · exact (hs b x (k ▸ hx)).mv (Mv.less (fun _ => h.own) w) rfl
theorem Sub.del (s : Store) (b : Nat) : Sub (del s b) s := fun c => by
  unfold L.del
  split
  · exact .inl rfl
  · exact .inr rfl
/-- A fresh object is dropped. -/
theorem Sub.upd {s s' : Store} {b : Nat} {x : AObj} (h : Sub s' s) (hb : s b = none) : Sub s' (upd s b x) := fun c => by
  by_cases hc : c = b
  · subst hc
    rcases h c with h | h
    · exact .inl h
    · exact .inl (h.trans hb)
  · rw [upd_ne _ _ hc]; exact h c
/-- An object stays. -/
theorem Sub.upd' {s s' : Store} {b : Nat} {x : AObj} (h : Sub s' s) : Sub (L.upd s' b x) (L.upd s b x) := fun c => by
  by_cases hc : c = b
  · subst hc; simp [L.upd]
  · rw [upd_ne _ _ hc, upd_ne _ _ hc]; exact h c

/-- Some slots less. -/
def Le (e' e : Env) : Prop := ∀ t, e' t = .undef ∨ e' t = e t
theorem Le.refl (e : Env) : Le e e := fun t => .inr rfl

theorem Wk.less {s s' : Store} {e e' : Env} (h : Sub s' s) (k : Le e' e) : Wk s e s' e' := fun w vs h1 h2 =>
  ⟨h.st h1, fun t => by
    rcases k t with k | k
    · rw [k]; exact .undef _
    · rw [k]; exact (h2 t).mv (Mv.less (fun _ => h.own) w), Mv.less (fun _ => h.own) w⟩

theorem Wk.conf {n : Nat} {s s' : Store} {e e' : Env} (h : Wk s e s' e') {a : Act} {w : World} (hf : Conf n s e a w) : Conf n s' e' a w ∧ Mv (own s) (own s') w w := by
  obtain ⟨h1, h2, h3⟩ := h w (fun t => a.tmps.getD t Go.undef) hf.st hf.env
  exact ⟨⟨hf.sz, h1, h2, hf.df⟩, h3⟩

/-! ### An object that is not written any more -/
/-- A value, when the object b is not written any more. -/
def fv (b : Nat) (x : AObj) (D : List AV) : AV → AV
  | .slc b' n c => if b' = b then (match x with
    | .row _ k _ xs => if n ≤ xs.length ∧ n ≤ c then .lst k n (fun i => xs.getD i D) else .undef
    | _ => .undef) else .slc b' n c
  | .ptr b' o => if b' = b then (match x with
    | .box cs => if o ≤ cs.length then .elm (cs.drop o) else .undef
    | _ => .undef) else .ptr b' o
  | a => a
def fva (b : Nat) (x : AObj) (D : List AV) : AV → AV
  | .agg cs => .agg (cs.map (fv b x D))
  | .tup cs => .tup (cs.map (fv b x D))
  | a => fv b x D a
def fvo (b : Nat) (x : AObj) (D : List AV) : AObj → AObj
  | .box cs => .box (cs.map (fv b x D))
  | .row T k c xs => .row T k c (xs.map fun l => l.map (fv b x D))
  | .imap kn es pd => .imap kn (es.map fun p => (p.1, fv b x D p.2)) pd
def frzO : AObj → Prop
  | .box cs => ∀ a ∈ cs, a.frz = true
  | .row _ _ _ xs => ∀ l ∈ xs, ∀ a ∈ l, a.frz = true
  | .imap .. => False
/-- The object b is not written any more. -/
def fst (s : Store) (b : Nat) (x : AObj) (D : List AV) : Store := fun c => if c = b then none else (s c).map (fvo b x D)

theorem at_map (f : AV → AV) (cs : List AV) (j : Nat) (h : j < cs.length) : at_ (cs.map f) j = f (at_ cs j) := by
  simp [at_, List.getD_eq_getElem?_getD, List.getElem?_map, h]
theorem at_mem {cs : List AV} {j : Nat} (h : j < cs.length) : at_ cs j ∈ cs := by
  simp [at_, List.getD_eq_getElem?_getD, h]
theorem getD_mem {xs : List (List AV)} {j : Nat} (h : j < xs.length) : xs.getD j [] ∈ xs := by
  simp [List.getD_eq_getElem?_getD, h]

theorem getD_any {xs : List (List AV)} {j : Nat} (D : List AV) (h : j < xs.length) : xs.getD j D = xs.getD j [] := by
  simp [List.getD_eq_getElem?_getD, h]

theorem FV.of_frz {o : Nat → Prop} {w : World} {a : AV} {v : Value} (h : RV o w a v) (hf : a.frz = true) : FV o w a v := by
  cases h with
  | fz _ _ h => exact h
  | _ => simp [AV.frz] at hf

theorem fst_own {s : Store} {b : Nat} {x : AObj} {D : List AV} (c : Nat) (h : own (fst s b x D) c) : own s c := by
  intro h0
  apply h
  unfold fst
  split
  · rfl
  · rw [h0]; rfl
theorem fst_not {s : Store} {b : Nat} {x : AObj} {D : List AV} : ¬ own (fst s b x D) b := fun h => h (by simp [fst])

theorem fv_RV {s : Store} {w : World} {b : Nat} {x : AObj} {D : List AV} (hb : s b = some x) (hx : frzO x) (hs : St s w) {a : AV} {v : Value} (h : RV (own s) w a v) : RV (own (fst s b x D)) w (fv b x D a) v := by
  have hm : Mv (own s) (own (fst s b x D)) w w := Mv.less fst_own w
  have hlt : b < w.heap.size := (hs b x hb).lt
  cases a with
  | slc b' n c =>
    simp only [fv]
    split
    · rename_i he
      subst he
      have hv := inv_slc h
      subst hv
      cases x with
      | row T k c' xs =>
        simp only []
        split
        · rename_i hn
          refine .fz _ _ ?_
          rcases Nat.eq_zero_or_pos n with h0 | h0
          · subst h0; exact .lst0 _ _ _ _
          · have hc := fun i j (hi : i < n) (hj : j < k) => row_cell (hs _ _ hb) (j := j) (Nat.lt_of_lt_of_le hi hn.1) hj
            have hO := hs _ _ hb
            obtain ⟨vs, g1, g2, g3, g3', g4, g5⟩ := hO
            refine .lst k n _ _ c (fun i j => (w.cell? ⟨b', i * k + j, none⟩).getD Go.undef) h0 hn.2 rfl fst_not hlt (fun i j hi hj => ?_) (fun i hi => by rw [getD_any D (Nat.lt_of_lt_of_le hi hn.1)]; exact g4 i (Nat.lt_of_lt_of_le hi hn.1)) (fun i j hi hj => ?_)
            · obtain ⟨v, h1, _⟩ := hc i j hi hj
              rw [add_at, Nat.zero_add, h1]; rfl
            · obtain ⟨v, h1, h2⟩ := hc i j hi hj
              rw [h1, getD_any D (Nat.lt_of_lt_of_le hi hn.1)]
              have hl : j < (xs.getD i []).length := by rw [g4 i (Nat.lt_of_lt_of_le hi hn.1)]; exact hj
              exact (FV.of_frz h2 (hx _ (getD_mem (Nat.lt_of_lt_of_le hi hn.1)) _ (at_mem hl))).mv hm
        · exact .undef _
      | _ => exact .undef _
    · exact h.mv hm
  | ptr b' o =>
    simp only [fv]
    split
    · rename_i he
      subst he
      have hv := inv_ptr h
      subst hv
      cases x with
      | box cs =>
        simp only []
        split
        · rename_i ho
          refine .fz _ _ ?_
          have hc := fun j (hj : j < cs.length) => box_cell (hs _ _ hb) (j := j) hj
          refine .elm _ _ (fun j => (w.cell? ⟨b', o + j, none⟩).getD Go.undef) rfl fst_not hlt (fun j hj => ?_) (fun j hj => ?_)
          · simp only [List.length_drop] at hj
            obtain ⟨v, h1, _⟩ := hc (o + j) (by omega)
            rw [add_at, h1]; rfl
          · simp only [List.length_drop] at hj
            obtain ⟨v, h1, h2⟩ := hc (o + j) (by omega)
            rw [h1, at_drop]
            exact (FV.of_frz h2 (hx _ (at_mem (by omega)))).mv hm
        · exact .undef _
      | _ => exact .undef _
    · exact h.mv hm
  | _ => exact h.mv hm

theorem fva_RV {s : Store} {w : World} {b : Nat} {x : AObj} {D : List AV} (hb : s b = some x) (hx : frzO x) (hs : St s w) {a : AV} {v : Value} (h : RV (own s) w a v) : RV (own (fst s b x D)) w (fva b x D a) v := by
  cases a with
  | agg cs =>
    obtain ⟨vs, rfl, h1, h2⟩ := inv_agg h
    exact .agg _ vs (by simpa using h1) fun j hj => by
      have hj' : j < cs.length := by simpa using hj
      rw [at_map _ _ _ hj']; exact fv_RV hb hx hs (h2 j hj')
  | tup cs =>
    obtain ⟨vs, rfl, h1, h2⟩ := inv_tup h
    exact .tup _ vs (by simpa using h1) fun j hj => by
      have hj' : j < cs.length := by simpa using hj
      rw [at_map _ _ _ hj']; exact fv_RV hb hx hs (h2 j hj')
  | _ => exact fv_RV hb hx hs h

theorem fst_St {s : Store} {w : World} {b : Nat} {x : AObj} {D : List AV} (hb : s b = some x) (hx : frzO x) (hs : St s w) : St (fst s b x D) w := by
  intro c y hy
  unfold fst at hy
  split at hy
  · cases hy
  · cases hc : s c with
    | none => rw [hc] at hy; cases hy
    | some z =>
      rw [hc] at hy
      cases hy
      have hO := hs c z hc
      cases z with
      | box cs =>
        obtain ⟨vs, T, h1, h2, h3⟩ := hO
        exact ⟨vs, T, h1, by simpa using h2, fun j hj => by
          have hj' : j < cs.length := by simpa using hj
          rw [at_map _ _ _ hj']; exact fv_RV hb hx hs (h3 j hj')⟩
      | row T k cc xs =>
        obtain ⟨vs, h1, h2, h3, h3', h4, h5⟩ := hO
        have e : ∀ i, i < xs.length → (xs.map fun l => l.map (fv b x D)).getD i [] = (xs.getD i []).map (fv b x D) := fun i hi => by
          simp [List.getD_eq_getElem?_getD, List.getElem?_map, hi]
        refine ⟨vs, h1, h2, by simpa using h3, h3', fun i hi => ?_, fun i j hi hj => ?_⟩
        · have hi' : i < xs.length := by simpa using hi
          rw [e i hi', List.length_map]; exact h4 i hi'
        · have hi' : i < xs.length := by simpa using hi
          have := h5 i j hi' hj
          rw [e i hi', at_map _ _ _ (by rw [h4 i hi']; exact hj)]
          exact ⟨fv_RV hb hx hs this.1, this.2⟩
      | imap kn es pd =>
        obtain ⟨en, cl, h1, h2, h3, h4, h5, h6⟩ := hO
        have e : ∀ i, i < es.length → (es.map fun p => (p.1, fv b x D p.2)).getD i default = ((es.getD i default).1, fv b x D (es.getD i default).2) := fun i hi => by
          simp [List.getD_eq_getElem?_getD, List.getElem?_map, hi]
        refine ⟨en, cl, h1, by simpa using h2, fun i hi => ?_, fun i hi => h4 i (by simpa using hi), fun i j hi hj => h5 i j (by simpa using hi) (by simpa using hj), fun y i h => ?_⟩
        · have hi' : i < es.length := by simpa using hi
          rw [e i hi']
          obtain ⟨g1, g2, g3⟩ := h3 i hi'
          exact ⟨g1, g2, fv_RV hb hx hs g3⟩
        · obtain ⟨g1, g2⟩ := h6 y i h
          exact ⟨by simpa using g1, g2⟩

theorem Wk.freeze {s : Store} {b : Nat} {x : AObj} (D : List AV) (hb : s b = some x) (hx : frzO x) (e : Env) : Wk s e (fst s b x D) (fun t => fva b x D (e t)) := fun w vs h1 h2 =>
  ⟨fst_St hb hx h1, fun t => fva_RV hb hx h1 (h2 t), Mv.less fst_own w⟩

/-- The object b is not written any more; what hangs on it may be told anew. -/
theorem Wk.frz {s s' : Store} {e e' : Env} {b : Nat} {x : AObj} (D : List AV) (hb : s b = some x) (hx : frzO x) (h0 : s' b = none) (hs' : ∀ c, s' c = none ∨ s' c = s c ∨ s' c = (s c).map (fvo b x D))
    (he : ∀ t, e' t = .undef ∨ e' t = e t ∨ e' t = fva b x D (e t)) : Wk s e s' e' := by
  intro w vs h1 h2
  have hsub : ∀ c, own s' c → own (fst s b x D) c := fun c hc => by
    have hcb : c ≠ b := fun e => hc (e ▸ h0)
    unfold own fst
    rw [if_neg hcb]
    rcases hs' c with h | h | h
    · exact absurd h hc
    · unfold own at hc; rw [h] at hc
      intro hn
      exact hc (by simpa using hn)
    · unfold own at hc; rwa [h] at hc
  have hm := Mv.less hsub w
  have hm0 : Mv (own s) (own s') w w := Mv.less (fun c hc => fst_own c (hsub c hc)) w
  refine ⟨fun c y hy => ?_, fun t => ?_, hm0⟩
  · rcases hs' c with h | h | h
    · rw [h] at hy; cases hy
    · exact (h1 c y (h ▸ hy)).mv hm0 rfl
    · have hcb : c ≠ b := fun e => by rw [e, h0] at hy; cases hy
      have : fst s b x D c = some y := by unfold fst; rw [if_neg hcb, ← h, hy]
      exact (fst_St hb hx h1 c y this).mv hm rfl
  · rcases he t with h | h | h
    · rw [h]; exact .undef _
    · rw [h]; exact (h2 t).mv hm0
    · rw [h]; exact (fva_RV hb hx h1 (h2 t)).mv hm

/-- A value that says no more. -/
def Wa (a a' : AV) : Prop := ∀ o w v, RV o w a v → RV o w a' v
theorem Wa.refl (a : AV) : Wa a a := fun _ _ _ h => h
theorem Wa.emp (k : Nat) (g : Nat → List AV) : Wa .emp (.lst k 0 g) := fun o w v h => by
  obtain ⟨a, rfl⟩ := inv_emp h
  exact .fz _ _ (.lst0 _ _ _ _)
theorem Wk.box {s : Store} {b : Nat} {cs cs' : List AV} (hb : s b = some (.box cs)) (hl : cs'.length = cs.length) (h : ∀ j, j < cs.length → Wa (at_ cs j) (at_ cs' j)) (e : Env) : Wk s e (L.upd s b (.box cs')) e := by
  have ho : ∀ c, own (L.upd s b (.box cs')) c → own s c := fun c hc => by
    by_cases e : c = b
    · subst e; unfold own; rw [hb]; simp
    · unfold own at hc ⊢; rwa [upd_ne _ _ e] at hc
  intro w vs h1 h2
  have hm := Mv.less ho w
  refine ⟨fun c x hx => ?_, fun t => (h2 t).mv hm, hm⟩
  by_cases e : c = b
  · subst e
    rw [upd_same] at hx
    cases hx
    obtain ⟨us, T, g1, g2, g3⟩ := h1 _ _ hb
    exact ⟨us, T, g1, by rw [hl]; exact g2, fun j hj => (h j (by omega) _ _ _ (g3 j (by omega))).mv hm⟩
  · rw [upd_ne _ _ e] at hx
    exact (h1 _ _ hx).mv hm rfl

/-- One value alone. -/
def Wk1 (s : Store) (r : AV) (s' : Store) (r' : AV) : Prop := Wk s (fun _ => r) s' (fun _ => r')
theorem Wk1.refl (s : Store) (r : AV) : Wk1 s r s r := Wk.refl _ _
theorem Wk1.trans {s s1 s2 : Store} {r r1 r2 : AV} (h : Wk1 s r s1 r1) (k : Wk1 s1 r1 s2 r2) : Wk1 s r s2 r2 := Wk.trans h k
theorem Wk1.less {s s' : Store} {r : AV} (h : Sub s' s) : Wk1 s r s' r := Wk.less h (Le.refl _)
theorem Wk1.freeze {s : Store} {b : Nat} {x : AObj} (D : List AV) (hb : s b = some x) (hx : frzO x) (r : AV) : Wk1 s r (fst s b x D) (fva b x D r) := Wk.freeze D hb hx _
end Go.Proofs.Ytjoncejabdjekaa.L
