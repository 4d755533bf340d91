/- Abstract code as a function over typed values, part 9: rows that are not written any more; code; functions. -/
import Derived.Test.YtjoncejabdjekaaD8
set_option linter.unusedVariables false
set_option linter.unusedSimpArgs false
namespace Go.Proofs.Ytjoncejabdjekaa.D
open Go Go.Proofs.Ytjoncejabdjekaa.L

section
variable {π : Pi} {Fr : Store} {S : DSt} {s' : Store}
theorem fnd_mapV {α β : Type} (f : α → β) : ∀ (l : List (Nat × α)) (k : Nat), fnd (mapV f l) k = (fnd l k).map f
  | [], k => rfl
  | (c, x) :: l, k => by
    simp only [mapV, fnd, fnd_mapV f l k]
    cases Nat.beq c k <;> rfl
theorem fv_frz {b : Nat} {x : AObj} {D : List AV} {a : AV} (h : a.frz = true) : fv b x D a = a := by
  cases a <;> simp [AV.frz] at h <;> rfl
theorem CR_fv {b : Nat} {x : AObj} {D : List AV} {t : Ty} {y : t.den} {cs : List AV} (h : CR t y cs) : cs.map (fv b x D) = cs := by
  have : ∀ (l : List AV), (∀ a ∈ l, a.frz = true) → l.map (fv b x D) = l := fun l hl => by
    induction l with
    | nil => rfl
    | cons a l ih => rw [List.map_cons, fv_frz (hl a (by simp)), ih fun a ha => hl a (by simp [ha])]
  exact this cs (CR_frz h)
theorem MR_fv {b : Nat} {x : AObj} {D : List AV} {ag : Bool} {t : Ty} {y : t.den} {a : AV} (h : MR ag t y a) : fv b x D a = a := by
  cases ag with
  | true => obtain ⟨cs, rfl, _⟩ := h; rfl
  | false => exact fv_frz (CR_frz h a (by simp))
theorem ERs_fv {b : Nat} {x : AObj} {D : List AV} {ag : Bool} {t : Ty} : ∀ {es : List (List Int × t.den)} {es' : List (List Int × AV)}, ERs ag t es es' → ∀ p ∈ es', fv b x D p.2 = p.2
  | [], _, h, p, hp => by simp only [ERs] at h; subst h; cases hp
  | (k, y) :: l, _, h, p, hp => by
    simp only [ERs] at h
    obtain ⟨a, l', rfl, h1, h⟩ := h
    rcases List.mem_cons.1 hp with rfl | hp
    · exact MR_fv h1
    · exact ERs_fv h p hp
theorem mput_mem : ∀ {es : List (List Int × AV)} {k : List Int} {v : AV} {p : List Int × AV}, p ∈ mput es k v → p ∈ es ∨ p.2 = v
  | [], k, v, p, h => by simp [mput] at h; subst h; exact .inr rfl
  | (k', u) :: l, k, v, p, h => by
    simp only [mput] at h
    split at h
    · rcases List.mem_cons.1 h with rfl | h
      · exact .inr rfl
      · exact .inl (by simp [h])
    · rcases List.mem_cons.1 h with rfl | h
      · exact .inl (by simp)
      · rcases mput_mem h with h | h
        · exact .inl (by simp [h])
        · exact .inr h
theorem map_fv_id {b : Nat} {x : AObj} {D : List AV} {es : List (List Int × AV)} (h : ∀ p ∈ es, fv b x D p.2 = p.2) : (es.map fun p => (p.1, fv b x D p.2)) = es := by
  induction es with
  | nil => rfl
  | cons p es ih => rw [List.map_cons, h p (by simp), ih fun p hp => h p (by simp [hp])]

/-- A row is not written any more. -/
theorem dfz_sound (hS : RelS π Fr S s') {e : DEnv} {e' : Env} (hE : RelE π e e') {b : Nat} {e1 : DEnv} {S1 : DSt} (h : dfz e S b = some (e1, S1)) : ∃ e1' s1, Wk s' e' s1 e1' ∧ RelE π e1 e1' ∧ RelS π Fr S1 s1 := by
  unfold dfz at h
  split at h
  · rename_i T t l hb
    cases h
    have get : ∀ c, (⟨S.nx, mapV (fzO S b t l) (rmv S.m b)⟩ : DSt).get c = (if c = b then none else S.get c).map (fzO S b t l) := fun c => by
      show fnd (mapV _ _) c = _
      rw [fnd_mapV, fnd_rmv]; rfl
    have live : ∀ c o, (⟨S.nx, mapV (fzO S b t l) (rmv S.m b)⟩ : DSt).get c = some o → c ≠ b ∧ ∃ o0, S.get c = some o0 ∧ o = fzO S b t l o0 := fun c o hc => by
      rw [get] at hc
      split at hc
      · cases hc
      · rename_i hne
        cases hg : S.get c with
        | none => rw [hg] at hc; cases hc
        | some o0 => rw [hg] at hc; cases hc; exact ⟨hne, o0, rfl, rfl⟩
    rcases hS.obj _ _ hb with ⟨hv, rfl⟩ | ⟨b', c, xs, hp, hcap, hs, hr⟩
    · -- nothing there yet
      have v1 : ∀ d a, RelV π d a → RelV π (fz1 S b t [] d) a := fun d a hd => by
        cases d with
        | slc b2 =>
          simp only [fz1]
          cases hc : Nat.beq b2 b with
          | true =>
            obtain rfl := beq_iff.1 hc
            simp only [RelV] at hd
            rcases hd with ⟨_, _, _, hp, _⟩ | ⟨_, rfl⟩
            · rw [hv] at hp; cases hp
            · simp only [cond_true, mkL, RelV]; exact .inl ⟨rfl, rfl⟩
          | false =>
            simp only [cond_false]
            split
            · exact hd
            · simp only [RelV]
        | ptr b2 o =>
          simp only [fz1]
          cases hc : Nat.beq b2 b with
          | true => simp only [cond_true, RelV]
          | false =>
            simp only [cond_false]
            split
            · exact hd
            · simp only [RelV]
        | _ => exact hd
      have vs1 : ∀ ds as, RelVs π ds as → RelVs π (ds.map (fz1 S b t [])) as := fun ds => by
        induction ds with
        | nil => intro as h; exact h
        | cons d ds ih =>
          intro as h
          simp only [RelVs] at h
          obtain ⟨a, as', rfl, h1, h2⟩ := h
          exact RelVs_cons (v1 d a h1) (ih as' h2)
      refine ⟨e', s', Wk.refl _ _, fun u d hu => ?_, ⟨fun c o hc => ?_, fun b1 b2 o1 o2 b' c1 n1 c2 n2 h1 h2 p1 p2 => ?_, hS.frm, fun c o b' c1 n1 hc hp => ?_, hS.nx⟩⟩
      · rw [fnd_mapV] at hu
        cases hg : fnd e u with
        | none => rw [hg] at hu; cases hu
        | some d0 =>
          rw [hg] at hu
          cases hu
          have hd := hE u d0 hg
          cases d0 with
          | agg cs =>
            simp only [fz2]
            simp only [RelV] at hd ⊢
            obtain ⟨as, e1, hd⟩ := hd
            exact ⟨as, e1, vs1 _ _ hd⟩
          | tup cs =>
            simp only [fz2]
            simp only [RelV] at hd ⊢
            obtain ⟨as, e1, hd⟩ := hd
            exact ⟨as, e1, vs1 _ _ hd⟩
          | _ => exact v1 _ _ hd
      · obtain ⟨hne, o0, h0, rfl⟩ := live c o hc
        have hO := hS.obj _ _ h0
        cases o0 with
        | box cs =>
          obtain ⟨b', c, n, as, g1, g2, g3⟩ := hO
          exact ⟨b', c, n, as, g1, g2, vs1 _ _ g3⟩
        | _ => exact hO
      · obtain ⟨_, q1, g1, _⟩ := live _ _ h1
        obtain ⟨_, q2, g2, _⟩ := live _ _ h2
        exact hS.inj _ _ _ _ _ _ _ _ _ g1 g2 p1 p2
      · obtain ⟨_, q1, g1, _⟩ := live _ _ hc
        exact hS.out _ _ _ _ _ g1 hp
    · have v1 : ∀ d a, RelV π d a → RelV π (fz1 S b t l d) (fv b' (.row T t.w c xs) [] a) := fun d a hd => by
        have nm : ∀ b2 o2 b2' c2 n2, S.get b2 = some o2 → Nat.beq b2 b = false → π b2 = some (.real b2' c2 n2) → b2' ≠ b' := fun b2 o2 b2' c2 n2 h1 h2 h3 e => by
          subst e
          have := hS.inj _ _ _ _ _ _ _ _ _ h1 hb h3 hp
          subst this
          simp at h2
        cases d with
        | slc b2 =>
          simp only [fz1]
          cases hc : Nat.beq b2 b with
          | true =>
            obtain rfl := beq_iff.1 hc
            simp only [RelV] at hd
            rcases hd with ⟨b3, c3, n3, hp3, rfl⟩ | ⟨hp3, rfl⟩
            · rw [hp] at hp3; cases hp3
              simp only [cond_true, fv, if_true]
              rw [if_pos ⟨by rw [hr.1]; exact Nat.le_refl _, hcap⟩]
              simp only [mkL, RelV]
              exact .inr ⟨_, rfl, hr.2⟩
            · rw [hp] at hp3; cases hp3
          | false =>
            simp only [cond_false]
            split
            · rename_i o2 ho2
              have hd0 := hd
              simp only [RelV] at hd
              rcases hd with ⟨b3, c3, n3, hp3, rfl⟩ | ⟨hp3, rfl⟩
              · simp only [fv]; rw [if_neg (nm _ _ _ _ _ ho2 hc hp3)]; exact hd0
              · exact hd0
            · simp only [RelV]
        | ptr b2 o =>
          simp only [fz1]
          cases hc : Nat.beq b2 b with
          | true => simp only [cond_true, RelV]
          | false =>
            simp only [cond_false]
            split
            · rename_i o2 ho2
              have hd0 := hd
              simp only [RelV] at hd
              obtain ⟨b3, c3, n3, hp3, rfl⟩ := hd
              simp only [fv]; rw [if_neg (nm _ _ _ _ _ ho2 hc hp3)]; exact hd0
            · simp only [RelV]
        | v x =>
          have : a.frz = true := CR_frz (by simpa only [RelV] using hd) a (by simp)
          rw [fv_frz this]; exact hd
        | undef => simp only [fz1, RelV]
        | emp => simp only [RelV] at hd; subst hd; simp only [fz1, fv, RelV]
        | nilp => simp only [RelV] at hd; subst hd; simp only [fz1, fv, RelV]
        | nilm => simp only [RelV] at hd; subst hd; simp only [fz1, fv, RelV]
        | agg ds => have hd0 := hd; simp only [RelV] at hd; obtain ⟨as, rfl, _⟩ := hd; exact hd0
        | tup ds => have hd0 := hd; simp only [RelV] at hd; obtain ⟨as, rfl, _⟩ := hd; exact hd0
        | elm ds => have hd0 := hd; simp only [RelV] at hd; obtain ⟨as, rfl, _⟩ := hd; exact hd0
        | fn f ds => have hd0 := hd; simp only [RelV] at hd; obtain ⟨as, rfl, _⟩ := hd; exact hd0
        | rptr b k i j => have hd0 := hd; simp only [RelV] at hd; obtain ⟨_, _, _, _, _, rfl⟩ := hd; exact hd0
        | mp b => have hd0 := hd; simp only [RelV] at hd; obtain ⟨_, _, _, _, rfl⟩ := hd; exact hd0
        | stk b => have hd0 := hd; simp only [RelV] at hd; obtain ⟨_, _, rfl⟩ := hd; exact hd0
        | whn g d => have hd0 := hd; simp only [RelV] at hd; obtain ⟨_, rfl, _⟩ := hd; exact hd0
      have vs1 : ∀ ds as, RelVs π ds as → RelVs π (ds.map (fz1 S b t l)) (as.map (fv b' (.row T t.w c xs) [])) := fun ds => by
        induction ds with
        | nil => intro as h; simp only [RelVs] at h; subst h; exact RelVs_nil
        | cons d ds ih =>
          intro as h
          simp only [RelVs] at h
          obtain ⟨a, as', rfl, h1, h2⟩ := h
          exact RelVs_cons (v1 d a h1) (ih as' h2)
      let x : AObj := .row T t.w c xs
      let s1 : Store := fun c' => if c' = b' then none else match Fr c' with
        | none => (s' c').map (fvo b' x [])
        | some _ => s' c'
      have s1v : ∀ c' y, c' ≠ b' → Fr c' = none → s' c' = some y → s1 c' = some (fvo b' x [] y) := fun c' y h1 h2 h3 => by
        show (if c' = b' then none else _) = _
        rw [if_neg h1]
        simp only [h2, h3, Option.map_some]
      have hfrz : frzO x := fun l2 hl a ha => by
        obtain ⟨i, hi, rfl⟩ := List.getElem_of_mem hl
        have := hr.2 i (by rw [← hr.1]; exact hi)
        rw [List.getD_eq_getElem?_getD, List.getElem?_eq_getElem hi] at this
        exact CR_frz this a ha
      refine ⟨fun u => fva b' x [] (e' u), s1, ?_, fun u d hu => ?_, ⟨fun c2 o hc => ?_, fun b1 b2 o1 o2 b3 c1 n1 c2 n2 h1 h2 p1 p2 => ?_, fun b3 y h => ?_, fun c2 o b3 c1 n1 hc hp => ?_, hS.nx⟩⟩
      · refine Wk.frz [] hs hfrz ?_ (fun c' => ?_) (fun u => .inr (.inr rfl))
        · show (if b' = b' then none else _) = none
          rw [if_pos rfl]
        · by_cases hcb : c' = b'
          · left; show (if c' = b' then none else _) = none; rw [if_pos hcb]
          · cases hf : Fr c' with
            | none => right; right; show (if c' = b' then none else _) = _; rw [if_neg hcb]; simp only [hf]; rfl
            | some y => right; left; show (if c' = b' then none else _) = _; rw [if_neg hcb]; simp only [hf]
      · rw [fnd_mapV] at hu
        cases hg : fnd e u with
        | none => rw [hg] at hu; cases hu
        | some d0 =>
          rw [hg] at hu
          cases hu
          have hd := hE u d0 hg
          show RelV π _ (fva b' x [] (e' u))
          cases d0 with
          | agg cs =>
            simp only [fz2]
            simp only [RelV] at hd ⊢
            obtain ⟨as, e1, hd⟩ := hd
            rw [e1]
            exact ⟨_, rfl, vs1 _ _ hd⟩
          | tup cs =>
            simp only [fz2]
            simp only [RelV] at hd ⊢
            obtain ⟨as, e1, hd⟩ := hd
            rw [e1]
            exact ⟨_, rfl, vs1 _ _ hd⟩
          | undef => simp only [fz2, fz1, RelV]
          | v y =>
            have : (e' u).frz = true := CR_frz (by simpa only [RelV] using hd) _ (by simp)
            have e2 : fva b' x [] (e' u) = e' u := by
              revert this; cases e' u <;> intro this <;> simp [AV.frz] at this <;> rfl
            rw [e2]; exact hd
          | slc b2 =>
            have e2 : fva b' x [] (e' u) = fv b' x [] (e' u) := by
              simp only [RelV] at hd
              rcases hd with ⟨_, _, _, _, e3⟩ | ⟨_, e3⟩ <;> rw [e3] <;> rfl
            rw [e2]; exact v1 _ _ hd
          | ptr b2 o =>
            have e2 : fva b' x [] (e' u) = fv b' x [] (e' u) := by
              simp only [RelV] at hd
              obtain ⟨_, _, _, _, e3⟩ := hd; rw [e3]; rfl
            rw [e2]; exact v1 _ _ hd
          | emp => simp only [RelV] at hd; rw [hd]; simp only [fz2, fz1, fva, fv, RelV]
          | nilp => simp only [RelV] at hd; rw [hd]; simp only [fz2, fz1, fva, fv, RelV]
          | nilm => simp only [RelV] at hd; rw [hd]; simp only [fz2, fz1, fva, fv, RelV]
          | elm ds => have hd0 := hd; simp only [RelV] at hd; obtain ⟨as, e3, _⟩ := hd; rw [e3] at hd0 ⊢; exact hd0
          | fn f ds => have hd0 := hd; simp only [RelV] at hd; obtain ⟨as, e3, _⟩ := hd; rw [e3] at hd0 ⊢; exact hd0
          | rptr b k i j => have hd0 := hd; simp only [RelV] at hd; obtain ⟨_, _, _, _, _, e3⟩ := hd; rw [e3] at hd0 ⊢; exact hd0
          | mp b => have hd0 := hd; simp only [RelV] at hd; obtain ⟨_, _, _, _, e3⟩ := hd; rw [e3] at hd0 ⊢; exact hd0
          | stk b => have hd0 := hd; simp only [RelV] at hd; obtain ⟨_, _, e3⟩ := hd; rw [e3] at hd0 ⊢; exact hd0
          | whn g d => have hd0 := hd; simp only [RelV] at hd; obtain ⟨_, e3, _⟩ := hd; rw [e3] at hd0 ⊢; exact hd0
      · obtain ⟨hne, o0, h0, rfl⟩ := live c2 o hc
        have hO := hS.obj _ _ h0
        have ne : ∀ b3 c3 n3, π c2 = some (.real b3 c3 n3) → b3 ≠ b' := fun b3 c3 n3 hp3 e => by
          subst e; exact hne (hS.inj _ _ _ _ _ _ _ _ _ h0 hb hp3 hp)
        cases o0 with
        | box cs =>
          obtain ⟨b3, c3, n3, as, g1, g2, g3⟩ := hO
          exact ⟨b3, c3, n3, _, g1, s1v _ _ (ne _ _ _ g1) (hS.out _ _ _ _ _ h0 g1) g2, vs1 _ _ g3⟩
        | row T2 t2 l2 =>
          rcases hO with ⟨g1, g2⟩ | ⟨b3, c3, ys, g1, g2, g3, g4⟩
          · exact .inl ⟨g1, g2⟩
          · refine .inr ⟨b3, c3, _, g1, g2, s1v _ _ (ne _ _ _ g1) (hS.out _ _ _ _ _ h0 g1) g3, by simp [g4.1], fun i hi => ?_⟩
            have hi' : i < ys.length := by rw [g4.1]; exact hi
            have := g4.2 i hi
            have e3 : (ys.map fun l => l.map (fv b' x [])).getD i [] = (ys.getD i []).map (fv b' x []) := by
              simp [List.getD_eq_getElem?_getD, List.getElem?_map, hi']
            rw [e3, CR_fv this]; exact this
        | imap kn ag t2 es pd =>
          obtain ⟨b3, c3, n3, es', g1, g2, g3⟩ := hO
          refine ⟨b3, c3, n3, es', g1, g2, ?_⟩
          cases pd with
          | none =>
            have := s1v _ _ (ne _ _ _ g1) (hS.out _ _ _ _ _ h0 g1) g3
            rw [show s1 b3 = some (.imap kn es' none) by rw [this]; simp only [fvo]; rw [map_fv_id (ERs_fv g2)]]
          | some p =>
            obtain ⟨tk, key, v0⟩ := p
            obtain ⟨y, v0', q1, q2, q3⟩ := g3
            refine ⟨y, v0', q1, q2, ?_⟩
            rw [s1v _ _ (ne _ _ _ g1) (hS.out _ _ _ _ _ h0 g1) q3]
            simp only [fvo]
            rw [map_fv_id fun p hp => by
              rcases mput_mem hp with hp | hp
              · exact ERs_fv g2 p hp
              · rw [hp]; exact MR_fv q2]
      · obtain ⟨_, q1, g1, _⟩ := live _ _ h1
        obtain ⟨_, q2, g2, _⟩ := live _ _ h2
        exact hS.inj _ _ _ _ _ _ _ _ _ g1 g2 p1 p2
      · have hne : b3 ≠ b' := fun e => by rw [e, hS.out _ _ _ _ _ hb hp] at h; cases h
        show (if b3 = b' then none else _) = _
        rw [if_neg hne]
        simp only [h]
        exact hS.frm _ _ h
      · obtain ⟨_, q1, g1, _⟩ := live _ _ hc
        exact hS.out _ _ _ _ _ g1 hp
  · cases h
end
end Go.Proofs.Ytjoncejabdjekaa.D
