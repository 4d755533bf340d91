/- Abstract code as a function over typed values, part 5: operations that turn the state. -/
import Derived.Test.YtjoncejabdjekaaD4
set_option linter.unusedVariables false
set_option linter.unusedSimpArgs false
namespace Go.Proofs.Ytjoncejabdjekaa.D
open Go Go.Proofs.Ytjoncejabdjekaa.L

def addP (π : Pi) (b : Nat) (l : Loc) : Pi := fun c => if c = b then some l else π c
theorem addP_ext {π : Pi} {b : Nat} (h : π b = none) (l : Loc) : Ext π (addP π b l) := fun c x hx => by
  unfold addP; split
  · rename_i e; subst e; rw [h] at hx; cases hx
  · exact hx
theorem addP_same (π : Pi) (b : Nat) (l : Loc) : addP π b l b = some l := by simp [addP]
theorem addP_ne (π : Pi) {b c : Nat} (l : Loc) (h : c ≠ b) : addP π b l c = π c := by simp [addP, h]

section
variable {π π1 : Pi} {Fr : Store} {S : DSt} {s' s1 : Store} {RD : List Nat} {R : Nat → Prop} {ρ : Opd → DV} {ρ' : Opd → AV}

theorem ObR.mono {b : Nat} {o : DObj} (h : ObR π s' b o) (hx : Ext π π1) (hs : ∀ b' c n, π b = some (.real b' c n) → s1 b' = s' b') : ObR π1 s1 b o := by
  cases o with
  | box ds =>
    obtain ⟨b', c, n, as, h1, h2, h3⟩ := h
    exact ⟨b', c, n, as, hx _ _ h1, (hs _ _ _ h1).trans h2, h3.ext hx⟩
  | row T t l =>
    rcases h with ⟨h1, h2⟩ | ⟨b', c, xs, h1, h2, h3⟩
    · exact .inl ⟨hx _ _ h1, h2⟩
    · exact .inr ⟨b', c, xs, hx _ _ h1, h2, (hs _ _ _ h1).trans h3.1, h3.2⟩
  | imap kn ag t es pd =>
    obtain ⟨b', c, n, es', h1, h2, h3⟩ := h
    refine ⟨b', c, n, es', hx _ _ h1, h2, ?_⟩
    cases pd with
    | none => exact (hs _ _ _ h1).trans h3
    | some p =>
      obtain ⟨tk, key, v0⟩ := p
      obtain ⟨y, v0', g1, g2, g3⟩ := h3
      exact ⟨y, v0', hx _ _ g1, g2, (hs _ _ _ h1).trans g3⟩
theorem ObR.loc {b : Nat} {o : DObj} (h : ObR π s' b o) : ∃ l, π b = some l := by
  cases o with
  | box ds => obtain ⟨b', c, n, as, h1, _⟩ := h; exact ⟨_, h1⟩
  | row T t l =>
    rcases h with ⟨h1, h2⟩ | ⟨b', c, xs, h1, h2, h3⟩
    · exact ⟨_, h1⟩
    · exact ⟨_, h1⟩
  | imap kn ag t es pd => obtain ⟨b', c, n, es', h1, _⟩ := h; exact ⟨_, h1⟩
theorem ObR.some' {b : Nat} {o : DObj} (h : ObR π s' b o) {b' c n : Nat} (hp : π b = some (.real b' c n)) : s' b' ≠ none := by
  cases o with
  | box ds => obtain ⟨b2, c, n, as, h1, h2, _⟩ := h; rw [hp] at h1; cases h1; rw [h2]; simp
  | row T t l =>
    rcases h with ⟨h1, h2⟩ | ⟨b', c, xs, h1, h2, h3⟩
    · rw [hp] at h1; cases h1
    · rw [hp] at h1; cases h1; rw [h3.1]; simp
  | imap kn ag t es pd =>
    obtain ⟨b', c, n, es', h1, _, h3⟩ := h
    rw [hp] at h1; cases h1
    cases pd with
    | none => rw [show s' _ = _ from h3]; simp
    | some p => obtain ⟨tk, key, v0⟩ := p; obtain ⟨y, v0', g1, g2, g3⟩ := h3; rw [g3]; simp
theorem RelS.lt (hS : RelS π Fr S s') {b : Nat} {l : Loc} (h : π b = some l) : b ≠ S.nx := fun e => by
  rw [hS.nx b (by omega)] at h; cases h

/-- A new object. -/
theorem RelS_new (hS : RelS π Fr S s') {b' c n : Nat} (hb : s' b' = none) (x : AObj) {o : DObj} (hO : ObR (addP π S.nx (.real b' c n)) (upd s' b' x) S.nx o) :
    RelS (addP π S.nx (.real b' c n)) Fr (S.new o) (upd s' b' x) := by
  have hx : Ext π (addP π S.nx (.real b' c n)) := addP_ext (hS.nx _ (Nat.le_refl _)) _
  have old : ∀ b2 o2, S.get b2 = some o2 → ∃ l, π b2 = some l ∧ b2 ≠ S.nx := fun b2 o2 h => by
    obtain ⟨l, hl⟩ := (hS.obj _ _ h).loc
    exact ⟨l, hl, hS.lt hl⟩
  have ne : ∀ b2 o2 b3 c3 n3, S.get b2 = some o2 → π b2 = some (.real b3 c3 n3) → b3 ≠ b' := fun b2 o2 b3 c3 n3 h hp e => by
    subst e; exact (hS.obj _ _ h).some' hp hb
  refine ⟨fun b2 o2 h => ?_, fun b1 b2 o1 o2 b3 c1 n1 c2 n2 h1 h2 p1 p2 => ?_, fun b3 y h => ?_, fun b2 o2 b3 c3 n3 h p => ?_, fun b2 h => ?_⟩
  · rw [DSt.get_new] at h
    split at h
    · rename_i e; subst e; cases h; exact hO
    · exact (hS.obj _ _ h).mono hx fun b3 c3 n3 hp => upd_ne _ _ (ne _ _ _ _ _ h hp)
  · rw [DSt.get_new] at h1 h2
    split at h1 <;> split at h2
    · rename_i e1 e2; rw [e1, e2]
    · rename_i e1 e2
      rw [e1, addP_same] at p1; cases p1
      rw [addP_ne _ _ e2] at p2
      exact absurd rfl (ne _ _ _ _ _ h2 p2)
    · rename_i e1 e2
      rw [e2, addP_same] at p2; cases p2
      rw [addP_ne _ _ e1] at p1
      exact absurd rfl (ne _ _ _ _ _ h1 p1)
    · rename_i e1 e2
      rw [addP_ne _ _ e1] at p1
      rw [addP_ne _ _ e2] at p2
      exact hS.inj _ _ _ _ _ _ _ _ _ h1 h2 p1 p2
  · have e : b3 ≠ b' := fun e => by rw [e] at h; rw [hS.frm _ _ h] at hb; cases hb
    rw [upd_ne _ _ e]; exact hS.frm _ _ h
  · rw [DSt.get_new] at h
    split at h
    · rename_i e
      rw [e, addP_same] at p; cases p
      cases hf : Fr b' with
      | none => rfl
      | some y => rw [hS.frm _ _ hf] at hb; cases hb
    · rename_i e
      rw [addP_ne _ _ e] at p
      exact hS.out _ _ _ _ _ h p
  · have h' : S.nx + 1 ≤ b2 := h
    rw [addP_ne _ _ (by omega)]; exact hS.nx _ (by omega)
theorem RelS_virt (hS : RelS π Fr S s') (T : Nat) (t : Ty) : RelS (addP π S.nx .virt) Fr (S.new (.row T t [])) s' := by
  have hx : Ext π (addP π S.nx .virt) := addP_ext (hS.nx _ (Nat.le_refl _)) _
  refine ⟨fun b2 o2 h => ?_, fun b1 b2 o1 o2 b3 c1 n1 c2 n2 h1 h2 p1 p2 => ?_, hS.frm, fun b2 o2 b3 c3 n3 h p => ?_, fun b2 h => ?_⟩
  · rw [DSt.get_new] at h
    split at h
    · rename_i e; subst e; cases h; exact .inl ⟨addP_same _ _ _, rfl⟩
    · exact (hS.obj _ _ h).mono hx fun _ _ _ _ => rfl
  · have e1 : b1 ≠ S.nx := fun e => by rw [e, addP_same] at p1; cases p1
    have e2 : b2 ≠ S.nx := fun e => by rw [e, addP_same] at p2; cases p2
    rw [DSt.get_new, if_neg e1] at h1
    rw [DSt.get_new, if_neg e2] at h2
    rw [addP_ne _ _ e1] at p1
    rw [addP_ne _ _ e2] at p2
    exact hS.inj _ _ _ _ _ _ _ _ _ h1 h2 p1 p2
  · have e1 : b2 ≠ S.nx := fun e => by rw [e, addP_same] at p; cases p
    rw [DSt.get_new, if_neg e1] at h
    rw [addP_ne _ _ e1] at p
    exact hS.out _ _ _ _ _ h p
  · have h' : S.nx + 1 ≤ b2 := h
    rw [addP_ne _ _ (by omega)]; exact hS.nx _ (by omega)
/-- An object is written. -/
theorem RelS_set (hS : RelS π Fr S s') {b b' c n : Nat} {o0 : DObj} (h0 : S.get b = some o0) (hp : π b = some (.real b' c n)) (x : AObj) {o : DObj} (hO : ObR π (upd s' b' x) b o) : RelS π Fr (S.set b o) (upd s' b' x) := by
  have live : ∀ b2 o2, (S.set b o).get b2 = some o2 → ∃ o3, S.get b2 = some o3 := fun b2 o2 h => by
    rw [DSt.get_set] at h
    split at h
    · rename_i e; subst e; exact ⟨_, h0⟩
    · exact ⟨_, h⟩
  refine ⟨fun b2 o2 h => ?_, fun b1 b2 o1 o2 b3 c1 n1 c2 n2 h1 h2 p1 p2 => ?_, fun b3 y h => ?_, fun b2 o2 b3 c3 n3 h p => ?_, fun b2 h => hS.nx _ h⟩
  · rw [DSt.get_set] at h
    split at h
    · rename_i e; subst e; cases h; exact hO
    · rename_i e
      refine (hS.obj _ _ h).mono (Ext.refl _) fun b3 c3 n3 hp3 => upd_ne _ _ fun e3 => e ?_
      subst e3
      exact hS.inj _ _ _ _ _ _ _ _ _ h h0 hp3 hp
  · obtain ⟨o3, h3⟩ := live _ _ h1
    obtain ⟨o4, h4⟩ := live _ _ h2
    exact hS.inj _ _ _ _ _ _ _ _ _ h3 h4 p1 p2
  · have e : b3 ≠ b' := fun e => by rw [e, hS.out _ _ _ _ _ h0 hp] at h; cases h
    rw [upd_ne _ _ e]; exact hS.frm _ _ h
  · obtain ⟨o3, h3⟩ := live _ _ h
    exact hS.out _ _ _ _ _ h3 p
theorem RelS_del (hS : RelS π Fr S s') (b : Nat) : RelS π Fr (S.del b) s' := by
  have live : ∀ b2 o2, (S.del b).get b2 = some o2 → S.get b2 = some o2 := fun b2 o2 h => by
    rw [DSt.get_del] at h
    split at h
    · cases h
    · exact h
  exact ⟨fun b2 o2 h => hS.obj _ _ (live _ _ h), fun b1 b2 o1 o2 b3 c1 n1 c2 n2 h1 h2 p1 p2 => hS.inj _ _ _ _ _ _ _ _ _ (live _ _ h1) (live _ _ h2) p1 p2, hS.frm, fun b2 o2 b3 c3 n3 h p => hS.out _ _ _ _ _ (live _ _ h) p, hS.nx⟩
/-- An object is gone. -/
theorem RelS_del' (hS : RelS π Fr S s') {b b' c n : Nat} {o0 : DObj} (h0 : S.get b = some o0) (hp : π b = some (.real b' c n)) : RelS π Fr (S.del b) (del s' b') := by
  have hd := RelS_del hS b
  refine ⟨fun b2 o2 h => ?_, hd.inj, fun b3 y h => ?_, hd.out, hd.nx⟩
  · refine (hd.obj _ _ h).mono (Ext.refl _) fun b3 c3 n3 hp3 => ?_
    have e : b3 ≠ b' := fun e => by
      subst e
      rw [DSt.get_del] at h
      split at h
      · cases h
      · rename_i e; exact e (hS.inj _ _ _ _ _ _ _ _ _ h h0 hp3 hp)
    unfold del; rw [if_neg e]
  · have e : b3 ≠ b' := fun e => by rw [e, hS.out _ _ _ _ _ h0 hp] at h; cases h
    unfold del; rw [if_neg e]; exact hS.frm _ _ h
theorem RelS.tick' (hS : RelS π Fr S s') (y : Int) : RelS (addP π S.nx (.tok y)) Fr S.tick s' := by
  have hx : Ext π (addP π S.nx (.tok y)) := addP_ext (hS.nx _ (Nat.le_refl _)) _
  refine ⟨fun b2 o2 h => (hS.obj _ _ h).mono hx fun _ _ _ _ => rfl, fun b1 b2 o1 o2 b3 c1 n1 c2 n2 h1 h2 p1 p2 => ?_, hS.frm, fun b2 o2 b3 c3 n3 h p => ?_, fun b2 h => ?_⟩
  · have e1 : b1 ≠ S.nx := fun e => by rw [e, addP_same] at p1; cases p1
    have e2 : b2 ≠ S.nx := fun e => by rw [e, addP_same] at p2; cases p2
    rw [addP_ne _ _ e1] at p1
    rw [addP_ne _ _ e2] at p2
    exact hS.inj _ _ _ _ _ _ _ _ _ h1 h2 p1 p2
  · have e1 : b2 ≠ S.nx := fun e => by rw [e, addP_same] at p; cases p
    rw [addP_ne _ _ e1] at p
    exact hS.out _ _ _ _ _ h p
  · have h' : S.nx + 1 ≤ b2 := h
    rw [addP_ne _ _ (by omega)]; exact hS.nx _ (by omega)

theorem HR.mono (h : HR π S RD R) {S1 : DSt} (hx : Ext π π1) (hl : ∀ b, RD.any (Nat.beq b) = true → ∃ o, S1.get b = some o) : HR π1 S1 RD R := by
  refine ⟨fun b hb => ?_, fun b b' c n hb hp => ?_, fun b' hR => ?_⟩
  · obtain ⟨_, _, l, hp⟩ := h.live b hb
    obtain ⟨o, ho⟩ := hl b hb
    exact ⟨o, ho, l, hx _ _ hp⟩
  · obtain ⟨_, _, l, hl⟩ := h.live b hb
    have := hx _ _ hl
    rw [hp] at this; cases this
    exact h.to b b' c n hb hl
  · obtain ⟨b, c, n, h1, h2⟩ := h.of b' hR
    exact ⟨b, c, n, h1, hx _ _ h2⟩
theorem HR.new (h : HR π S RD R) (hx : Ext π π1) (o : DObj) : HR π1 (S.new o) RD R := h.mono hx fun b hb => by
  obtain ⟨o2, ho2, _⟩ := h.live b hb
  rw [DSt.get_new]
  split
  · exact ⟨_, rfl⟩
  · exact ⟨_, ho2⟩
theorem HR.set (h : HR π S RD R) (b0 : Nat) (o : DObj) : HR π (S.set b0 o) RD R := h.mono (Ext.refl _) fun b hb => by
  obtain ⟨o2, ho2, _⟩ := h.live b hb
  rw [DSt.get_set]
  split
  · exact ⟨_, rfl⟩
  · exact ⟨_, ho2⟩
theorem HR.del (h : HR π S RD R) {b0 : Nat} (hn : notIn RD b0 = true) : HR π (S.del b0) RD R := h.mono (Ext.refl _) fun b hb => by
  obtain ⟨o2, ho2, _⟩ := h.live b hb
  rw [DSt.get_del, if_neg fun e => by subst e; simp [notIn, hb] at hn]
  exact ⟨_, ho2⟩

/-! Rows. -/
theorem CRs_set {t : Ty} {l : List t.den} {xs : List (List AV)} (h : CRs t l xs) {i : Nat} (hi : i < l.length) {x : t.den} {c : List AV} (hc : CR t x c) : CRs t (l.set i x) (xs.set i c) := by
  refine ⟨by simp [h.1], fun j hj => ?_⟩
  have hj' : j < l.length := by simpa using hj
  have hj2 : j < xs.length := by rw [h.1]; exact hj'
  by_cases e : i = j
  · subst e
    simpa [at0, List.getD_eq_getElem?_getD, List.getElem?_set, hj', hj2] using hc
  · have := h.2 j hj'
    simpa [at0, List.getD_eq_getElem?_getD, List.getElem?_set, e] using this
theorem CRs_get {t : Ty} {l : List t.den} {get : Nat → List AV} (h : ∀ i, i < l.length → CR t (at0 t l i) (get i)) : CRs t l ((List.range l.length).map get) := by
  refine ⟨by simp, fun i hi => ?_⟩
  simpa [List.getD_eq_getElem?_getD, hi] using h i hi
theorem CRs_repl {t : Ty} {z : List AV} (h : CR t t.zero z) (n : Nat) : CRs t (repl n t.zero) (List.replicate n z) := by
  refine ⟨by simp [repl], fun i hi => ?_⟩
  have hi' : i < n := by simpa [repl] using hi
  simpa [repl, at0, List.getD_eq_getElem?_getD, List.getElem?_replicate, hi'] using h
theorem delems_sound (hS : RelS π Fr S s') {t : Ty} {d : DV} {ys : List t.den} {a : AV} (h : delems S t d = some ys) (r : RelV π d a) : ∃ xs, CRs t ys xs ∧ ∀ K : List (List AV) → Prop, K xs → elems t.w s' a K := by
  unfold delems dec1 at h
  split at h
  · rename_i t' y
    split at h
    · rename_i he; subst he; cases h
      simp only [RelV, CR] at r
      rcases r with ⟨e, rfl⟩ | ⟨get, e, v⟩
      · simp only [List.cons.injEq, and_true] at e; subst e
        exact ⟨[], CRs_nil t, fun K hk => hk⟩
      · simp only [List.cons.injEq, and_true] at e; subst e
        exact ⟨_, CRs_get v, fun K hk => ⟨rfl, hk⟩⟩
    · cases h
  · cases h
    simp only [RelV] at r; subst r
    exact ⟨[], CRs_nil t, fun K hk => hk⟩
  · rename_i b
    simp only at h
    split at h
    · rename_i T t' l hb
      split at h
      · rename_i he; subst he; cases h
        simp only [RelV] at r
        rcases hS.obj _ _ hb with ⟨g1, rfl⟩ | ⟨b2, c2, xs, hp2, hcap, hs, hr⟩
        · rcases r with ⟨b', c, m, hp, rfl⟩ | ⟨hp, rfl⟩
          · rw [g1] at hp; cases hp
          · exact ⟨[], CRs_nil _, fun K hk => hk⟩
        · rcases r with ⟨b', c, m, hp, rfl⟩ | ⟨hp, _⟩
          · rw [hp2] at hp; cases hp
            refine ⟨xs, hr, fun K hk => ?_⟩
            simp only [elems, hs]
            exact ⟨trivial, trivial, hr.1.symm, hk⟩
          · rw [hp2] at hp; cases hp
      · cases h
    · cases h
  · cases h

/-- Operations that turn the state. -/
theorem deo_sound {P : Program} (hS : RelS π Fr S s') (hH : HR π S RD R) (hρ : ∀ x, RelV π (ρ x) (ρ' x)) {o : AOp} {ann : Option (Bool × Ty)} {d : DV} {S1 : DSt} {ob : List Bool} (h : deo RD S ρ o ann = some (d, S1, ob)) (ho : ob.all id = true)
    {K : AV → Store → Prop} (hK : ∀ a π1 s1, RelV π1 d a → Ext π π1 → RelS π1 Fr S1 s1 → HR π1 S1 RD R → K a s1) : eff P R o ρ' s' K := by
  have V : ∀ x, (ρ x).df.all id = true → RelV π (ρ x).val (ρ' x).val := fun x hx => relv_val (hρ x) hx
  have F : ∀ x, (ρ x).df.all id = true → (ρ' x).df := fun x hx => relv_df (hρ x) hx
  have hnx : ∀ l, Ext π (addP π S.nx l) := addP_ext (hS.nx _ (Nat.le_refl _))
  unfold deo at h
  split at h
  · -- alc
    rename_i z
    cases h
    intro b' hb hR
    refine hK _ (addP π S.nx (.real b' 0 0)) _ ?_ (hnx _) (RelS_new hS hb _ ?_) (hH.new (hnx _) _)
    · simp only [RelV]; exact ⟨b', 0, 0, addP_same _ _ _, rfl⟩
    · exact ⟨b', 0, 0, z, addP_same _ _ _, upd_same _ _ _, consts_rel z⟩
  · -- box
    rename_i x
    cases hc : (dcells (ρ x).val).all DV.one with
    | false => rw [hc] at h; cases h
    | true =>
      rw [hc] at h; cases h
      obtain ⟨g1, g2⟩ := relv_cells (V x ho) hc
      refine ⟨F x ho, g2, fun b' hb hR => ?_⟩
      refine hK _ (addP π S.nx (.real b' 0 0)) _ ?_ (hnx _) (RelS_new hS hb _ ?_) (hH.new (hnx _) _)
      · simp only [RelV]; exact ⟨b', 0, 0, addP_same _ _ _, rfl⟩
      · exact ⟨b', 0, 0, _, addP_same _ _ _, upd_same _ _ _, g1.ext (hnx _)⟩
  · -- sto
    rename_i p v n
    cases hc : (Nat.beq (dcells (ρ v).val).length n && (dcells (ρ v).val).all DV.one) with
    | false => rw [hc] at h; cases h
    | true =>
      rw [hc] at h
      simp only [cond_true] at h
      simp only [Bool.and_eq_true, beq_iff] at hc
      split at h
      · rename_i b o hp
        split at h
        · rename_i cs hb
          cases hd : (notIn RD b && leb (o + n) cs.length) with
          | false => rw [hd] at h; cases h
          | true =>
            rw [hd] at h; cases h
            simp only [Bool.and_eq_true, leb, Nat.ble_eq] at hd
            obtain ⟨o1, o2⟩ := all_app ho
            obtain ⟨g1, g2⟩ := relv_cells (V v o2) hc.2
            have vp := V p o1; rw [hp] at vp
            simp only [RelV] at vp
            obtain ⟨b', c, m, hpb, e⟩ := vp
            obtain ⟨b2, c2, n2, as, hp2, hs, hr⟩ := hS.obj _ _ hb
            rw [hpb] at hp2; cases hp2
            refine ⟨F p o1, F v o2, (RelVs_len g1).trans hc.1, g2, ?_⟩
            simp only [e, hs]
            refine ⟨notIn_R hS hH hb hd.1 hpb, by rw [RelVs_len hr]; exact hd.2, hK _ π _ (by simp only [RelV]) (Ext.refl _) (RelS_set hS hb hpb _ ?_) (hH.set _ _)⟩
            exact ⟨b', c, m, _, hpb, upd_same _ _ _, RelVs_spl o hr g1⟩
        · cases h
      · rename_i b k i j hp
        split at h
        · rename_i T t l hb
          cases hd : (notIn RD b && Nat.beq t.w k && leb (j + n) k) with
          | false => rw [hd] at h; cases h
          | true =>
            rw [hd] at h
            simp only [cond_true] at h
            split at h
            · rename_i x hx
              cases h
              simp only [Bool.and_eq_true, leb, Nat.ble_eq, beq_iff] at hd
              obtain ⟨⟨d1, rfl⟩, d3⟩ := hd
              obtain ⟨o1, o2⟩ := all_app ho
              obtain ⟨g1, g2⟩ := relv_cells (V v o2) hc.2
              have vp := V p o1; rw [hp] at vp
              simp only [RelV] at vp
              obtain ⟨b', c, m, hpb, hi, e⟩ := vp
              rcases hS.obj _ _ hb with ⟨q1, _⟩ | ⟨b2, c2, xs, hp2, hcap, hs, hr⟩
              · rw [hpb] at q1; cases q1
              · rw [hpb] at hp2; cases hp2
                have hcr := decAll_CR hx (RelVs_spl j (CR_cells (π := π) (hr.2 i hi)) g1)
                refine ⟨F p o1, F v o2, (RelVs_len g1).trans hc.1, g2, ?_⟩
                simp only [e, hs]
                refine ⟨trivial, notIn_R hS hH hb d1 hpb, by rw [hr.1]; exact hi, d3, hK _ π _ (by simp only [RelV]) (Ext.refl _) (RelS_set hS hb hpb _ ?_) (hH.set _ _)⟩
                exact .inr ⟨b', c, _, by rw [List.length_set]; exact hpb, by rw [List.length_set]; exact hcap, upd_same _ _ _, CRs_set hr hi hcr⟩
            · cases h
        · cases h
      · cases h
  · -- mkm
    rename_i kn T0
    split at h
    · rename_i ag t
      cases h
      intro b' hb hR
      refine hK _ (addP π S.nx (.real b' 0 0)) _ ?_ (hnx _) (RelS_new hS hb _ ?_) (hH.new (hnx _) _)
      · simp only [RelV]; exact ⟨b', 0, 0, addP_same _ _ _, rfl⟩
      · exact ⟨b', 0, 0, [], addP_same _ _ _, rfl, upd_same _ _ _⟩
    · cases h
  · -- mks
    rename_i T k by_ z n
    split at h
    · rename_i ag t ki m hm
      cases hd : (Nat.beq t.w k && isZf t z) with
      | false => rw [hd] at h; cases h
      | true =>
        rw [hd] at h; cases h
        simp only [Bool.and_eq_true, beq_iff] at hd
        obtain ⟨rfl, hz⟩ := hd
        obtain ⟨o1, o2⟩ := all_app ho
        simp only [List.all_cons, List.all_nil, id, Bool.and_true, Bool.and_eq_true, decide_eq_true_eq] at o2
        have e := ival_inv hm (V n o1)
        have hz' : CR t t.zero z := by
          unfold isZf at hz
          split at hz
          · rename_i hzz; obtain ⟨c, rfl, g⟩ := isZs_CR hzz; simpa using g
          · cases hz
        refine ⟨F n o1, ?_⟩
        simp only [e]
        refine ⟨o2.1, o2.2, fun b' hb hR => ?_⟩
        refine hK _ (addP π S.nx (.real b' m.toNat m.toNat)) _ ?_ (hnx _) (RelS_new hS hb _ ?_) (hH.new (hnx _) _)
        · simp only [RelV]; exact .inl ⟨b', _, _, addP_same _ _ _, rfl⟩
        · exact .inr ⟨b', m.toNat, _, by simp only [repl, List.length_replicate]; exact addP_same _ _ _, by simp only [repl, List.length_replicate]; exact Nat.le_refl _, upd_same _ _ _, CRs_repl hz' _⟩
    · cases h
  · -- bsr
    rename_i T k xs
    split at h
    · rename_i ag t
      split at h
      · rename_i l hl
        cases hd : Nat.beq t.w k with
        | false => rw [hd] at h; cases h
        | true =>
          rw [hd] at h; cases h
          obtain rfl := beq_iff.1 hd
          obtain ⟨g1, g2⟩ := dvals_rel hρ ho
          obtain ⟨k1, k2, k3⟩ := drow_sound hl g1
          have hlen : xs.length = l.length := by rw [← k3]; simp [vals]
          refine ⟨g2, k2, fun b' hb hR => ?_⟩
          refine hK _ (addP π S.nx (.real b' l.length l.length)) _ ?_ (hnx _) (RelS_new hS hb _ ?_) (hH.new (hnx _) _)
          · simp only [RelV]; exact .inl ⟨b', _, _, addP_same _ _ _, by rw [hlen]⟩
          · exact .inr ⟨b', l.length, _, addP_same _ _ _, Nat.le_refl _, by rw [upd_same, hlen], k1⟩
      · cases h
    · cases h
  · -- app
    rename_i T k by_ x y
    split at h
    · rename_i ag t
      cases hd : Nat.beq t.w k with
      | false => rw [hd] at h; cases h
      | true =>
        rw [hd] at h
        obtain rfl := beq_iff.1 hd
        simp only [cond_true] at h
        split at h
        · rename_i ys hys
          have emp : ∀ S0, RelS π Fr S0 s' → HR π S0 RD R → S0.nx = S.nx → (ρ' x).val = .emp → (ρ' x).df → (ρ' y).df → (∀ xs, CRs t ys xs → (∀ K : List (List AV) → Prop, K xs → elems t.w s' (ρ' y).val K) → by_ * ys.length ≤ 140737488355328 →
              (∀ a π1 s1, RelV π1 (.slc S.nx) a → Ext π π1 → RelS π1 Fr (S0.new (.row T t ys)) s1 → HR π1 (S0.new (.row T t ys)) RD R → K a s1) → eff P R (.app T t.w by_ x y) ρ' s' K) := by
            intro S0 hS0 hH0 hn ex fx fy xs hx he hby hk
            refine ⟨fx, fy, he _ ?_⟩
            simp only [ex]
            refine ⟨by rw [hx.1]; exact hby, fun h0 => ?_, fun h0 b' c hb hR hc => ?_⟩
            · have e0 : ys = [] := List.eq_nil_of_length_eq_zero (by rw [← hx.1]; exact h0)
              subst e0
              refine hk _ (addP π S.nx .virt) _ ?_ (hnx _) ?_ ?_
              · simp only [RelV]; exact .inr ⟨addP_same _ _ _, trivial⟩
              · rw [← hn]; exact RelS_virt hS0 T t
              · exact hH0.new (hnx _) _
            · refine hk _ (addP π S.nx (.real b' c ys.length)) _ ?_ (hnx _) ?_ (hH0.new (hnx _) _)
              · simp only [RelV]; exact .inl ⟨b', _, _, addP_same _ _ _, by rw [hx.1]⟩
              · rw [← hn]
                exact RelS_new hS0 hb _ (.inr ⟨b', c, _, addP_same _ _ _, by rw [← hx.1]; exact hc, upd_same _ _ _, hx⟩)
          split at h
          · rename_i hx
            cases h
            obtain ⟨o1, o2⟩ := all_app ho
            obtain ⟨o2, o3⟩ := all_app o2
            simp only [capOk, List.all_cons, List.all_nil, id, Bool.and_true, decide_eq_true_eq] at o3
            have vx := V x o1; rw [hx] at vx
            simp only [RelV] at vx
            obtain ⟨xs, g1, g2⟩ := delems_sound hS hys (V y o2)
            exact emp S hS hH rfl vx (F x o1) (F y o2) xs g1 g2 o3 hK
          · rename_i b hx
            split at h
            · rename_i T' t' l hb
              split at h
              · rename_i ht
                subst ht
                cases hd2 : (Nat.beq T' T && notIn RD b) with
                | false => rw [hd2] at h; cases h
                | true =>
                  rw [hd2] at h; cases h
                  simp only [Bool.and_eq_true, beq_iff] at hd2
                  obtain ⟨rfl, hnb⟩ := hd2
                  obtain ⟨o1, o23⟩ := all_app ho
                  obtain ⟨o2, o3⟩ := all_app o23
                  simp only [capOk, List.all_cons, List.all_nil, id, Bool.and_true, decide_eq_true_eq] at o3
                  have vx := V x o1; rw [hx] at vx
                  simp only [RelV] at vx
                  obtain ⟨xs, g1, g2⟩ := delems_sound hS hys (V y o2)
                  rcases hS.obj _ _ hb with ⟨q1, rfl⟩ | ⟨b2, c2, zs, hp2, hcap, hs, hr⟩
                  · rcases vx with ⟨b', c, m, hp, e⟩ | ⟨hp, e⟩
                    · rw [q1] at hp; cases hp
                    · exact emp (S.del b) (RelS_del hS b) (hH.del hnb) rfl e (F x o1) (F y o2) xs g1 g2 (by simpa using o3) hK
                  · rcases vx with ⟨b', c, m, hp, e⟩ | ⟨hp, _⟩
                    · rw [hp2] at hp; cases hp
                      refine ⟨F x o1, F y o2, g2 _ ?_⟩
                      simp only [e, hs]
                      refine ⟨trivial, trivial, trivial, hr.1.symm, notIn_R hS hH hb hnb hp2, by rw [g1.1]; exact o3, fun b3 c3 hb3 hR3 hc3 => ?_⟩
                      have hS' := RelS_del' hS hb hp2
                      have hlen : l.length + xs.length = (l ++ ys).length := by rw [List.length_append, g1.1]
                      refine hK _ (addP π S.nx (.real b3 c3 (l ++ ys).length)) _ ?_ (hnx _) ?_ ((hH.del hnb).new (hnx _) _)
                      · simp only [RelV]; exact .inl ⟨b3, _, _, addP_same _ _ _, by rw [hlen]⟩
                      · exact RelS_new hS' hb3 _ (.inr ⟨b3, c3, _, addP_same _ _ _, by rw [← hlen]; exact hc3, upd_same _ _ _, CRs_app hr g1⟩)
                    · rw [hp2] at hp; cases hp
              · cases h
            · cases h
          · cases h
        · cases h
    · cases h
  · -- mup
    rename_i kn m key v
    split at h
    · rename_i b hm
      split at h
      · rename_i kn' ag t es hb
        split at h
        · rename_i k x hk hx
          cases hd : (Nat.beq kn' kn && notIn RD b) with
          | false => rw [hd] at h; cases h
          | true =>
            rw [hd] at h; cases h
            simp only [Bool.and_eq_true, beq_iff] at hd
            obtain ⟨rfl, hnb⟩ := hd
            obtain ⟨o1, o2⟩ := all_app ho
            obtain ⟨o2, o3⟩ := all_app o2
            have vm := V m o1; rw [hm] at vm
            simp only [RelV] at vm; obtain ⟨b', c, n, hp, e⟩ := vm
            obtain ⟨b2, c2, n2, es', hp2, he, hs⟩ := hS.obj _ _ hb
            rw [hp] at hp2; cases hp2
            have hs : s' b' = some (.imap kn' es' none) := hs
            refine ⟨F m o1, F key o2, F v o3, ?_⟩
            simp only [e, hs]
            refine ⟨trivial, notIn_R hS hH hb hnb hp, dkey_inv hk (V key o2) _ (hK _ π _ (by simp only [RelV]) (Ext.refl _) (RelS_set hS hb hp _ ?_) (hH.set _ _))⟩
            exact ⟨b', c, n, _, hp, ERs_put k he (mvR_MR hx (V v o3)), upd_same _ _ _⟩
        · cases h
      · cases h
    · cases h
  · -- men
    rename_i kn z m key
    split at h
    · rename_i b hm
      split at h
      · rename_i kn' ag t es hb
        split at h
        · rename_i k hk
          cases hd : (Nat.beq kn' kn && notIn RD b && isZ ag t z) with
          | false => rw [hd] at h; cases h
          | true =>
            rw [hd] at h; cases h
            simp only [Bool.and_eq_true, beq_iff] at hd
            obtain ⟨⟨rfl, hnb⟩, hz⟩ := hd
            obtain ⟨o1, o2⟩ := all_app ho
            have vm := V m o1; rw [hm] at vm
            simp only [RelV] at vm; obtain ⟨b', c, n, hp, e⟩ := vm
            obtain ⟨b2, c2, n2, es', hp2, he, hs⟩ := hS.obj _ _ hb
            rw [hp] at hp2; cases hp2
            have hs : s' b' = some (.imap kn' es' none) := hs
            have hg : MR ag t ((kget es k).getD t.zero) ((mget es' k).getD z) := by
              rcases ERs_get k he with ⟨g1, g2⟩ | ⟨x, a, g1, g2, g3⟩
              · rw [g1, g2]; exact isZ_MR hz
              · rw [g1, g2]; exact g3
            refine ⟨F m o1, F key o2, ?_⟩
            simp only [e, hs]
            refine ⟨trivial, notIn_R hS hH hb hnb hp, dkey_inv hk (V key o2) _ fun st => ?_⟩
            have h1 := hS.tick' st
            have hb1 : S.tick.get b = some (.imap kn' ag t es none) := hb
            have hp1 := hnx (.tok st) _ _ hp
            refine hK _ (addP π S.nx (.tok st)) _ ?_ (hnx _) (RelS_set (S := S.tick) h1 hb1 hp1 _ (o := .imap kn' ag t es (some (S.nx, k, (kget es k).getD t.zero))) ?_) ?_
            · simp only [RelV]
              refine ⟨_, rfl, RelVs_cons (MR_mvD hg) (RelVs_one ?_)⟩
              simp only [RelV]; exact ⟨st, addP_same _ _ _, rfl⟩
            · exact ⟨b', c, n, es', hp1, he, st, _, addP_same _ _ _, hg, upd_same _ _ _⟩
            · exact (hH.set b (.imap kn' ag t es (some (S.nx, k, (kget es k).getD t.zero)))).mono (hnx _) fun b3 hb3 => by
                obtain ⟨o3, ho3, _⟩ := (hH.set b (.imap kn' ag t es (some (S.nx, k, (kget es k).getD t.zero)))).live b3 hb3
                exact ⟨o3, ho3⟩
        · cases h
      · cases h
    · cases h
  · -- ens
    rename_i m st v
    split at h
    · rename_i b tk hm hst
      split at h
      · rename_i kn ag t es tk' k v0 hb
        split at h
        · rename_i x hx
          cases hd : (Nat.beq tk tk' && notIn RD b) with
          | false => rw [hd] at h; cases h
          | true =>
            rw [hd] at h; cases h
            simp only [Bool.and_eq_true, beq_iff] at hd
            obtain ⟨rfl, hnb⟩ := hd
            obtain ⟨o1, o2⟩ := all_app ho
            obtain ⟨o2, o3⟩ := all_app o2
            have vm := V m o1; rw [hm] at vm
            simp only [RelV] at vm; obtain ⟨b', c, n, hp, e⟩ := vm
            have vs := V st o2; rw [hst] at vs
            simp only [RelV] at vs; obtain ⟨y, hy, e2⟩ := vs
            obtain ⟨b2, c2, n2, es', hp2, he, y2, v0', hy2, hmr, hs⟩ := hS.obj _ _ hb
            rw [hp] at hp2; cases hp2
            rw [hy] at hy2; cases hy2
            refine ⟨F m o1, F st o2, F v o3, ?_⟩
            simp only [e, e2, hs]
            refine ⟨trivial, notIn_R hS hH hb hnb hp, hK _ π _ (by simp only [RelV]) (Ext.refl _) (RelS_set hS hb hp _ ?_) (hH.set _ _)⟩
            refine ⟨b', c, n, mput es' k (ρ' v).val, hp, ERs_put k he (mvR_MR hx (V v o3)), ?_⟩
            show upd s' b' _ b' = _
            rw [upd_same, mput_set]
        · cases h
      · cases h
    · cases h
  · cases h
end
end Go.Proofs.Ytjoncejabdjekaa.D
