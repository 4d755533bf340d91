/- Abstract code as a function over typed values, part 10: code; functions. -/
import Derived.Test.YtjoncejabdjekaaD9
set_option linter.unusedVariables false
set_option linter.unusedSimpArgs false
namespace Go.Proofs.Ytjoncejabdjekaa.D
open Go Go.Proofs.Ytjoncejabdjekaa.L

section
variable {π : Pi} {Fr : Store} {S : DSt} {s' : Store}
theorem HR_nil (π : Pi) (S : DSt) : HR π S [] (fun _ => False) := ⟨fun b hb => by simp at hb, fun b _ _ _ hb => by simp at hb, fun _ h => h.elim⟩

theorem dxr_sound {P : Program} {T : List FEnt} (hT : DTblOK P T) {α : Type} {k : DEnv → DSt → Option α} {r : α} {K : Env → Store → Prop} : ∀ (l : List DOper) {π : Pi} {S : DSt} {s' : Store} {e : DEnv} {e' : Env}, dxr T l k e S = some r → RelE π e e' → RelS π Fr S s' →
    (∀ e1 S1 π1 e1' s1, k e1 S1 = some r → Ext π π1 → RelE π1 e1 e1' → RelS π1 Fr S1 s1 → K e1' s1) → xrw P [] (eraseO l) K e' s'
  | [], π, S, s', e, e', h, hE, hS, hK => ⟨e', s', Wk.refl _ _, hK _ _ π _ _ h (Ext.refl _) hE hS⟩
  | .op o a :: l, π, S, s', e, e', h, hE, hS, hK => by
    simp only [dxr] at h
    exact ⟨e', s', Wk.refl _ _, dxo_sound hT h hE hS (HR_nil π S) fun e1 S1 π1 e1' s1 g1 g2 g3 g4 g5 =>
      dxr_sound hT l g1 g3 g4 fun e2 S2 π2 e2' s2 q1 q2 q3 q4 => hK _ _ π2 _ _ q1 (g2.trans q2) q3 q4⟩
  | .fz u p :: l, π, S, s', e, e', h, hE, hS, hK => by
    simp only [dxr] at h
    split at h
    · split at h
      · rename_i b hb e1 S1 hz
        obtain ⟨e1', s1, w, g1, g2⟩ := dfz_sound hS hE hz
        exact xrw_wk w _ (dxr_sound hT l h g1 g2 hK)
      · cases h
    · exact dxr_sound hT l h hE hS hK

theorem dxrD_sound {P : Program} {T : List FEnt} (hT : DTblOK P T) {RD : List Nat} {R : Nat → Prop} {α : Type} {k : DEnv → DSt → Option α} {r : α} {K : Env → Store → Prop} : ∀ (l : List (AOper × Ann)) {π : Pi} {S : DSt} {s' : Store} {e : DEnv} {e' : Env}, dxrD RD T l k e S = some r → RelE π e e' → RelS π Fr S s' → HR π S RD R →
    (∀ e1 S1 π1 e1' s1, k e1 S1 = some r → Ext π π1 → RelE π1 e1 e1' → RelS π1 Fr S1 s1 → K e1' s1) → xr P [] R (l.map (·.1)) K e' s'
  | [], π, S, s', e, e', h, hE, hS, hH, hK => hK _ _ π _ _ h (Ext.refl _) hE hS
  | (o, a) :: l, π, S, s', e, e', h, hE, hS, hH, hK => by
    simp only [dxrD] at h
    exact dxo_sound hT h hE hS hH fun e1 S1 π1 e1' s1 g1 g2 g3 g4 g5 =>
      dxrD_sound hT l g1 g3 g4 g5 fun e2 S2 π2 e2' s2 q1 q2 q3 q4 => hK _ _ π2 _ _ q1 (g2.trans q2) q3 q4

theorem rsOk_sound {e : DEnv} {e' : Env} (hE : RelE π e e') (hS : RelS π Fr S s') : ∀ {rs RD : List Nat}, rsOk e S rs = some RD → HR π S RD (rOf e' rs) ∧ ∀ b, rOf e' rs b → own s' b
  | [], RD, h => by
    cases h
    exact ⟨⟨fun b hb => by simp at hb, fun b _ _ _ hb => by simp at hb, fun _ h => h.elim⟩, fun b h => h.elim⟩
  | t :: l, RD, h => by
    simp only [rsOk] at h
    split at h
    · rename_i bs hbs
      obtain ⟨h1, h2⟩ := rsOk_sound hE hS hbs
      have hr : RelV π (e.get t) (e' t) := opd_rel hE (.t t)
      have name : ∀ b o, S.get b = some o → RD = b :: bs → (∀ b' c n, π b = some (.real b' c n) → nameOf (e' t).val = some b') → (∀ b', nameOf (e' t).val = some b' → ∃ c n, π b = some (.real b' c n)) → HR π S RD (rOf e' (t :: l)) ∧ ∀ b, rOf e' (t :: l) b → own s' b := by
        intro b o hb e1 n1 n2
        subst e1
        refine ⟨⟨fun c hc => ?_, fun c b' m n hc hp => ?_, fun b' hR => ?_⟩, fun b' hR => ?_⟩
        · rcases List.mem_cons.1 (any_mem.1 hc) with rfl | hc
          · exact ⟨o, hb, (hS.obj _ _ hb).loc⟩
          · exact h1.live c (any_mem.2 hc)
        · rcases List.mem_cons.1 (any_mem.1 hc) with rfl | hc
          · exact .inl (n1 _ _ _ hp)
          · exact .inr (h1.to c b' m n (any_mem.2 hc) hp)
        · rcases hR with hR | hR
          · obtain ⟨c, n, hp⟩ := n2 _ hR; exact ⟨b, c, n, any_mem.2 (by simp), hp⟩
          · obtain ⟨c, m, n, q1, q2⟩ := h1.of b' hR; exact ⟨c, m, n, any_mem.2 (by simp [any_mem.1 q1]), q2⟩
        · rcases hR with hR | hR
          · obtain ⟨c, n, hp⟩ := n2 _ hR; exact (hS.obj _ _ hb).some' hp
          · exact h2 b' hR
      have none' : RD = bs → nameOf (e' t).val = none → HR π S RD (rOf e' (t :: l)) ∧ ∀ b, rOf e' (t :: l) b → own s' b := by
        intro e1 hn
        subst e1
        have iff : ∀ b, rOf e' (t :: l) b ↔ rOf e' l b := fun b => ⟨fun h => h.elim (fun h => by rw [hn] at h; cases h) id, .inr⟩
        exact ⟨⟨h1.live, fun c b' m n hc hp => (iff _).2 (h1.to c b' m n hc hp), fun b' hR => h1.of b' ((iff _).1 hR)⟩, fun b' hR => h2 b' ((iff _).1 hR)⟩
      split at h
      · rename_i b o hg
        rw [hg] at hr
        simp only [RelV] at hr
        obtain ⟨b', c, n, hp, e1⟩ := hr
        split at h
        · rename_i o2 hb
          cases h
          exact name b o2 hb rfl (fun b2 c2 n2 hp2 => by rw [hp] at hp2; cases hp2; rw [e1]; rfl) (fun b2 hn => by rw [e1] at hn; cases hn; exact ⟨c, n, hp⟩)
        · cases h
      · rename_i b k i j hg
        rw [hg] at hr
        simp only [RelV] at hr
        obtain ⟨b', c, n, hp, _, e1⟩ := hr
        split at h
        · rename_i o2 hb
          cases h
          exact name b o2 hb rfl (fun b2 c2 n2 hp2 => by rw [hp] at hp2; cases hp2; rw [e1]; rfl) (fun b2 hn => by rw [e1] at hn; cases hn; exact ⟨c, n, hp⟩)
        · cases h
      · rename_i b hg
        rw [hg] at hr
        simp only [RelV] at hr
        split at h
        · rename_i o2 hb
          cases h
          rcases hr with ⟨b', c, n, hp, e1⟩ | ⟨hp, e1⟩
          · exact name b o2 hb rfl (fun b2 c2 n2 hp2 => by rw [hp] at hp2; cases hp2; rw [e1]; rfl) (fun b2 hn => by rw [e1] at hn; cases hn; exact ⟨c, n, hp⟩)
          · exact name b o2 hb rfl (fun b2 c2 n2 hp2 => by rw [hp] at hp2; cases hp2) (fun b2 hn => by rw [e1] at hn; cases hn)
        · cases h
      · rename_i b hg
        rw [hg] at hr
        simp only [RelV] at hr
        obtain ⟨b', c, n, hp, e1⟩ := hr
        split at h
        · rename_i o2 hb
          cases h
          exact name b o2 hb rfl (fun b2 c2 n2 hp2 => by rw [hp] at hp2; cases hp2; rw [e1]; rfl) (fun b2 hn => by rw [e1] at hn; cases hn; exact ⟨c, n, hp⟩)
        · cases h
      · rename_i x hg
        rw [hg] at hr
        have hfrz : (e' t).frz = true := CR_frz (by simpa only [RelV] using hr) _ (by simp)
        cases ho : oneT x.t with
        | false => rw [ho] at h; cases h
        | true =>
          rw [ho] at h; cases h
          refine none' rfl ?_
          revert hfrz; cases e' t <;> intro hfrz <;> simp [AV.frz] at hfrz <;> rfl
      · rename_i cs hg
        rw [hg] at hr
        simp only [RelV] at hr
        obtain ⟨as, e1, _⟩ := hr
        cases h
        exact none' rfl (by rw [e1]; rfl)
      · cases h
    · cases h

/-! ### Loops -/
theorem exEq_eq {a b : Exit} (h : exEq a b = true) : a = b := by
  cases a <;> cases b <;> simp only [exEq] at h <;> first
    | rfl
    | cases h
    | (rw [beq_iff.1 h])
theorem injX_elim {β : Type} {f : XSh → List Leaf → Option β} {r : β} {ex : Exit} {e : DEnv} {S : DSt} : ∀ {xs : List XSh} {y : XD xs}, injX xs ex e S = some y → elimX xs y f = some r → ∃ a z, a.ex = ex ∧ rdX a e S = some z ∧ f a (ofDens a.o.ts z) = some r
  | [], y, h, _ => by simp [injX] at h
  | [a], y, h, h2 => by
    simp only [injX] at h
    cases he : exEq a.ex ex with
    | false => rw [he] at h; cases h
    | true => rw [he] at h; exact ⟨a, y, exEq_eq he, h, h2⟩
  | a :: b :: l, y, h, h2 => by
    simp only [injX] at h
    split at h
    · rename_i z hz
      cases h
      cases he : exEq a.ex ex with
      | false => rw [he] at hz; cases hz
      | true => rw [he] at hz; exact ⟨a, z, exEq_eq he, hz, h2⟩
    · split at h
      · rename_i z hz
        cases h
        exact injX_elim (xs := b :: l) hz h2
      · cases h
theorem regs_rel {e : DEnv} {e' : Env} (hE : RelE π e e') : ∀ (rs : List Nat), RelVs π (regsD e rs) (rs.map e')
  | [] => RelVs_nil
  | t :: l => RelVs_cons (opd_rel hE (.t t)) (regs_rel hE l)
theorem envL_rel {e' : Env} : ∀ {rs : List Nat} {ds : List DV}, RelVs π ds (rs.map e') → RelE π (envL rs ds) e'
  | [], ds, h => by intro t d ht; cases ds <;> simp [envL, fnd] at ht
  | r :: rs, ds, h => by
    cases ds with
    | nil => intro t d ht; simp [envL, fnd] at ht
    | cons d0 ds =>
      simp only [List.map_cons, RelVs] at h
      obtain ⟨a, as', e1, h1, h2⟩ := h
      cases e1
      intro t d ht
      simp only [envL, fnd] at ht
      by_cases e2 : r = t
      · subst e2; simp at ht; subst ht; exact h1
      · simp only [beq_ne e2, cond_false] at ht; exact envL_rel h2 t d ht
theorem idNm_fnd {ids : List Nat} {k : Nat} (h : ids.any (Nat.beq k) = true) : fnd (idNm ids) k = some (some k) := by
  induction ids with
  | nil => simp at h
  | cons c ids ih =>
    by_cases e : c = k
    · subst e; simp [idNm, fnd]
    · have h' : ids.any (Nat.beq k) = true := by
        rcases List.mem_cons.1 (any_mem.1 h) with h | h
        · exact absurd h.symm e
        · exact any_mem.2 h
      have := ih h'
      simp only [idNm, List.map_cons, fnd, beq_ne e, cond_false] at this ⊢
      exact this
theorem subN_any {l m : List Nat} (h : subN l m = true) {k : Nat} (hk : l.any (Nat.beq k) = true) : m.any (Nat.beq k) = true := List.all_eq_true.1 h k (any_mem.1 hk)

/-- Objects of a told state. -/
theorem fill_obj {sh : StSh} {l : List Leaf} {ds : List DV} {os : List (Nat × DObj)} (h : fillSt (fun k => k) sh l = some (ds, os)) {k : Nat} (hk : (sh.objs.map (·.1)).any (Nat.beq k) = true) : ∃ o, fnd os k = some o := by
  unfold fillSt at h
  split at h
  · split at h
    · rename_i ho
      cases h
      have := fillOs_keys ho
      have hm : k ∈ os.map (·.1) := by rw [this]; exact any_mem.1 hk
      obtain ⟨⟨k2, o⟩, h1, rfl⟩ := List.mem_map.1 hm
      exact mem_fnd h1
    · cases h
  · cases h

/-- Code. -/
theorem dxc_sound {P : Program} {T : List FEnt} (hT : DTblOK P T) : ∀ (c : DCode) {α : Type} {K : Exit → DEnv → DSt → Option α} {e : DEnv} {S : DSt} {r : α}, dxc T c K e S = some r → ∀ {π : Pi} {Fr : Store} {e' : Env} {s' : Store}, RelE π e e' → RelS π Fr S s' →
    ∀ {C : Exit → Env → Store → Prop}, (∀ x e1 S1 π1 e1' s1, K x e1 S1 = some r → Ext π π1 → RelE π1 e1 e1' → RelS π1 Fr S1 s1 → C x e1' s1) → xc P [] (erase c) C e' s'
  | .skip, α, K, e, S, r, h, π, Fr, e', s', hE, hS, C, hK => hK _ _ _ π _ _ h (Ext.refl _) hE hS
  | .ret, α, K, e, S, r, h, π, Fr, e', s', hE, hS, C, hK => hK _ _ _ π _ _ h (Ext.refl _) hE hS
  | .exit i, α, K, e, S, r, h, π, Fr, e', s', hE, hS, C, hK => hK _ _ _ π _ _ h (Ext.refl _) hE hS
  | .reg l, α, K, e, S, r, h, π, Fr, e', s', hE, hS, C, hK => dxr_sound hT l h hE hS fun e1 S1 π1 e1' s1 g1 g2 g3 g4 => hK _ _ _ π1 _ _ g1 g2 g3 g4
  | .drw rs l, α, K, e, S, r, h, π, Fr, e', s', hE, hS, C, hK => by
    simp only [dxc] at h
    split at h
    · rename_i RD hrd
      obtain ⟨h1, h2⟩ := rsOk_sound hE hS hrd
      exact ⟨h2, dxrD_sound hT l h hE hS h1 fun e1 S1 π1 e1' s1 g1 g2 g3 g4 => hK _ _ _ π1 _ _ g1 g2 g3 g4⟩
    · cases h
  | .seq a b, α, K, e, S, r, h, π, Fr, e', s', hE, hS, C, hK => by
    simp only [dxc] at h
    refine dxc_sound hT a h hE hS fun x e1 S1 π1 e1' s1 g1 g2 g3 g4 => ?_
    cases x with
    | normal => exact dxc_sound hT b g1 g3 g4 fun x e2 S2 π2 e2' s2 q1 q2 q3 q4 => hK _ _ _ π2 _ _ q1 (g2.trans q2) q3 q4
    | exit i => exact hK _ _ _ π1 _ _ g1 g2 g3 g4
    | goto i => exact hK _ _ _ π1 _ _ g1 g2 g3 g4
    | ret => exact hK _ _ _ π1 _ _ g1 g2 g3 g4
    | panic i => exact hK _ _ _ π1 _ _ g1 g2 g3 g4
    | outgrown => exact hK _ _ _ π1 _ _ g1 g2 g3 g4
  | .cond c a b, α, K, e, S, r, h, π, Fr, e', s', hE, hS, C, hK => by
    simp only [dxc] at h
    split at h
    · rename_i g hg
      obtain ⟨h1, h2⟩ := chks_inv h
      have hr := opd_rel hE c
      have e1 := bval_inv hg (relv_val hr h1)
      refine ⟨relv_df hr h1, ?_⟩
      rw [e1]
      cases g with
      | true => exact ⟨fun _ => dxc_sound hT a h2 hE hS hK, fun h => (by cases h)⟩
      | false => exact ⟨fun h => (by cases h), fun _ => dxc_sound hT b h2 hE hS hK⟩
    · cases h
  | .blk i c, α, K, e, S, r, h, π, Fr, e', s', hE, hS, C, hK => by
    simp only [dxc] at h
    refine dxc_sound hT c h hE hS fun x e1 S1 π1 e1' s1 g1 g2 g3 g4 => ?_
    cases x with
    | exit j =>
      simp only [blkD] at g1
      simp only [blkK]
      by_cases hj : j = i
      · subst hj
        rw [if_pos rfl]
        simp only [Nat.beq_refl, cond_true] at g1
        exact hK _ _ _ π1 _ _ g1 g2 g3 g4
      · rw [if_neg hj]
        simp only [beq_ne hj, cond_false] at g1
        exact hK _ _ _ π1 _ _ g1 g2 g3 g4
    | normal => exact hK _ _ _ π1 _ _ g1 g2 g3 g4
    | goto i => exact hK _ _ _ π1 _ _ g1 g2 g3 g4
    | ret => exact hK _ _ _ π1 _ _ g1 g2 g3 g4
    | panic i => exact hK _ _ _ π1 _ _ g1 g2 g3 g4
    | outgrown => exact hK _ _ _ π1 _ _ g1 g2 g3 g4
  | .loop hd xs c, α, K, e, S, r, h, π, Fr, e', s', hE, hS, C, hK => by
    simp only [dxc] at h
    cases hids : subN hd.ids (hd.st.objs.map (·.1)) with
    | false => rw [hids] at h; cases h
    | true =>
      rw [hids] at h
      simp only [cond_true] at h
      split at h
      · rename_i x nm hrd
        cases hw : whileF (dstep (xs := xs) hd (dxc T c)) x with
        | none => rw [hw] at h; cases h
        | some y =>
          rw [hw] at h
          simp only [Option.bind_some] at h
          unfold rdL at hrd
          split at hrd
          · rename_i l nm1 hr1
            split at hrd
            · rename_i x1 htd
              cases hrd
              have hl := toDens_ofDens htd
              obtain ⟨q1, q2, q3, live, ds0, os0, q4, q5, q6⟩ := canon hS hr1 (regs_rel hE hd.regs) (Fr1 := frOf π nm s') (fun b' x h => frOf_le h) (fun k b b' c n h1 h2 => frOf_none h1 h2)
              let I : Nat → Env → Store → Prop := fun m e1' s1 => ∃ x1 π1 ds os, goF (dstep (xs := xs) hd (dxc T c)) m x1 = some y ∧ fillSt (fun k => k) hd.st (ofDens hd.ts x1) = some (ds, os) ∧ RelVs π1 ds (hd.regs.map e1') ∧ RelS π1 (frOf π nm s') ⟨hd.m, os⟩ s1 ∧
                ∀ k, hd.ids.any (Nat.beq k) = true → π1 k = piOf π nm k
              refine ⟨I, 18446744073709551616, e', s', Wk.refl _ _, ⟨x, piOf π nm, ds0, os0, hw, by rw [hl]; exact q4, q5, q6, fun _ _ => rfl⟩, ?_⟩
              rintro m e1' s1 ⟨x1, π1, ds, os, hgo, hfl, hrv, hrs, hid⟩
              cases m with
              | zero => cases hgo
              | succ m =>
                simp only [goF] at hgo
                have idsome : ∀ k, hd.ids.any (Nat.beq k) = true → ∃ lc, π1 k = some lc := fun k hk => by
                  obtain ⟨o, ho⟩ := fill_obj hfl (subN_any hids hk)
                  exact (hrs.obj k o ho).loc
                cases hst : dstep (xs := xs) hd (dxc T c) x1 with
                | none => rw [hst] at hgo; cases hgo
                | some z =>
                  rw [hst] at hgo
                  unfold dstep at hst
                  rw [hfl] at hst
                  simp only at hst
                  refine dxc_sound hT c hst (envL_rel hrv) hrs fun ex e2 S2 π2 e2' s2 g1 g2 g3 g4 => ?_
                  have idk : ∀ k, hd.ids.any (Nat.beq k) = true → π2 k = piOf π nm k := fun k hk => by
                    obtain ⟨lc, hlc⟩ := idsome k hk
                    rw [← hid k hk, hlc]; exact g2 _ _ hlc
                  have exit : ∀ yy, injX xs ex e2 S2 = some yy → z = .inr yy → C ex e2' s2 := fun yy hin hz => by
                    subst hz
                    simp only at hgo
                    cases hgo
                    obtain ⟨a, w, ha, hrx, hk⟩ := injX_elim hin h
                    cases hsub : subN a.o.ids hd.ids with
                    | false => rw [hsub] at hk; cases hk
                    | true =>
                      rw [hsub] at hk
                      simp only [cond_true] at hk
                      unfold rdX at hrx
                      split at hrx
                      · rename_i l2 nm2 hr2
                        have hl2 := toDens_ofDens hrx
                        obtain ⟨p1, p2, p3, p4, ds2, os2, p5, p6, p7⟩ := canon g4 hr2 (regs_rel g3 a.regs) (Fr1 := frOf π nm s') g4.frm (fun k b b' c n h1 h2 => by
                          obtain ⟨o, ho⟩ := (canon g4 hr2 (regs_rel g3 a.regs) (Fr1 := es0) (fun _ _ h => by cases h) (fun _ _ _ _ _ _ _ => rfl)).2.2.2.1 k b h1
                          exact g4.out b o b' c n ho h2)
                        rw [hl2] at hk
                        obtain ⟨ds3, S3, π3, a1, a2, a3, a4, a5, a6⟩ := after_sound hS live p5 p3 p6 p7 (fun k hk b hb => by
                          have hf := p1 _ _ (idNm_fnd hk)
                          have e3 : piOf π2 nm2 k = π2 k := by simp only [piOf, hf, locOf]
                          rw [e3, idk k (subN_any hsub hk)]
                          simp only [piOf, hb, locOf])
                        rw [a1] at hk
                        rw [← ha]
                        exact hK _ _ _ π3 _ _ hk a2 (envL_rel a3) a4
                      · cases hrx
                  have other : (match injX xs ex e2 S2 with | some y => some (.inr y) | none => none) = some z → C ex e2' s2 := fun hg => by
                    split at hg
                    · rename_i yy hyy; cases hg; exact exit yy hyy rfl
                    · cases hg
                  cases ex with
                  | normal =>
                    simp only [lpKD] at g1
                    split at g1
                    · rename_i x2 nm2 hr2
                      cases g1
                      unfold rdL at hr2
                      split at hr2
                      · rename_i l2 nm3 hr3
                        split at hr2
                        · rename_i x3 htd3
                          cases hr2
                          have hl3 := toDens_ofDens htd3
                          obtain ⟨p1, p2, p3, p4, ds2, os2, p5, p6, p7⟩ := canon g4 hr3 (regs_rel g3 hd.regs) (Fr1 := frOf π nm s') g4.frm (fun k b b' c n h1 h2 => by
                            obtain ⟨o, ho⟩ := (canon g4 hr3 (regs_rel g3 hd.regs) (Fr1 := es0) (fun _ _ h => by cases h) (fun _ _ _ _ _ _ _ => rfl)).2.2.2.1 k b h1
                            exact g4.out b o b' c n ho h2)
                          refine ⟨m, e2', s2, Wk.refl _ _, Nat.lt_succ_self m, x2, piOf π2 nm2, ds2, os2, hgo, by rw [hl3]; exact p5, p6, p7, fun k hk => ?_⟩
                          have hf := p1 _ _ (idNm_fnd hk)
                          have e3 : piOf π2 nm2 k = π2 k := by simp only [piOf, hf, locOf]
                          rw [e3, idk k hk]
                        · cases hr2
                      · cases hr2
                    · cases g1
                  | exit i => exact other g1
                  | ret => exact other g1
                  | goto i => exact other g1
                  | panic i => exact other g1
                  | outgrown => exact other g1
            · cases hrd
          · cases hrd
      · cases h
  | .once hd xs c, α, K, e, S, r, h, π, Fr, e', s', hE, hS, C, hK => by
    simp only [dxc] at h
    cases hids : subN hd.ids (hd.st.objs.map (·.1)) with
    | false => rw [hids] at h; cases h
    | true =>
      rw [hids] at h
      simp only [cond_true] at h
      split at h
      · rename_i x nm hrd
        cases hw : onceF (xs := xs) hd (dxc T c) x with
        | none => rw [hw] at h; cases h
        | some y =>
          rw [hw] at h
          simp only [Option.bind_some] at h
          unfold rdL at hrd
          split at hrd
          · rename_i l nm1 hr1
            split at hrd
            · rename_i x1 htd
              cases hrd
              have hl := toDens_ofDens htd
              obtain ⟨q1, q2, q3, live, ds0, os0, q4, q5, q6⟩ := canon hS hr1 (regs_rel hE hd.regs) (Fr1 := frOf π nm s') (fun b' x h => frOf_le h) (fun k b b' c n h1 h2 => frOf_none h1 h2)
              rw [← hl] at q4
              unfold onceF at hw
              rw [q4] at hw
              simp only at hw
              have idsome : ∀ k, hd.ids.any (Nat.beq k) = true → ∃ lc, piOf π nm k = some lc := fun k hk => by
                obtain ⟨o, ho⟩ := fill_obj q4 (subN_any hids hk)
                exact (q6.obj k o ho).loc
              refine dxc_sound hT c hw (envL_rel q5) q6 fun ex e2 S2 π2 e2' s2 g1 g2 g3 g4 => ?_
              have idk : ∀ k, hd.ids.any (Nat.beq k) = true → π2 k = piOf π nm k := fun k hk => by
                obtain ⟨lc, hlc⟩ := idsome k hk
                rw [hlc]; exact g2 _ _ hlc
              obtain ⟨a, w, ha, hrx, hk⟩ := injX_elim g1 h
              cases hsub : subN a.o.ids hd.ids with
              | false => rw [hsub] at hk; cases hk
              | true =>
                rw [hsub] at hk
                simp only [cond_true] at hk
                unfold rdX at hrx
                split at hrx
                · rename_i l2 nm2 hr2
                  have hl2 := toDens_ofDens hrx
                  obtain ⟨p1, p2, p3, p4, ds2, os2, p5, p6, p7⟩ := canon g4 hr2 (regs_rel g3 a.regs) (Fr1 := frOf π nm s') g4.frm (fun k b b' c n h1 h2 => by
                    obtain ⟨o, ho⟩ := (canon g4 hr2 (regs_rel g3 a.regs) (Fr1 := es0) (fun _ _ h => by cases h) (fun _ _ _ _ _ _ _ => rfl)).2.2.2.1 k b h1
                    exact g4.out b o b' c n ho h2)
                  rw [hl2] at hk
                  obtain ⟨ds3, S3, π3, a1, a2, a3, a4, a5, a6⟩ := after_sound hS live p5 p3 p6 p7 (fun k hk b hb => by
                    have hf := p1 _ _ (idNm_fnd hk)
                    have e3 : piOf π2 nm2 k = π2 k := by simp only [piOf, hf, locOf]
                    rw [e3, idk k (subN_any hsub hk)]
                    simp only [piOf, hb, locOf])
                  rw [a1] at hk
                  rw [← ha]
                  exact hK _ _ _ π3 _ _ hk a2 (envL_rel a3) a4
                · cases hrx
            · cases hrd
          · cases hrd
      · cases h

/-! ### Functions -/
theorem argE_rel {as : List AV} : ∀ {ds : List DV} {bs : List AV} (i : Nat), RelVs π ds bs → (∀ j, at_ as (i + j) = at_ bs j) → RelE π (argE i ds) (envOf as)
  | [], bs, i, h, hb => by intro t d ht; simp [argE, fnd] at ht
  | d0 :: ds, bs, i, h, hb => by
    simp only [RelVs] at h
    obtain ⟨a, as', rfl, h1, h2⟩ := h
    intro t d ht
    simp only [argE, fnd] at ht
    by_cases e1 : i = t
    · subst e1
      simp at ht
      subst ht
      show RelV π d0 (at_ as i)
      rw [show i = i + 0 from rfl, hb 0]; exact h1
    · simp only [beq_ne e1, cond_false] at ht
      refine argE_rel (i + 1) h2 (fun j => ?_) t d ht
      rw [show i + 1 + j = i + (j + 1) by omega, hb (j + 1)]; rfl
theorem resD1_rel {e : DEnv} {e' : Env} (hE : RelE π e e') (hS : RelS π Fr S s') {r : Res} {d : DV} (h : resD1 e S r = some d) : ∃ a, resOne e' s' r = some a ∧ RelV π d a := by
  cases r with
  | t n => cases h; exact ⟨_, rfl, opd_rel hE (.t n)⟩
  | cell a ag k =>
    simp only [resD1] at h
    split at h
    · rename_i b hg
      have hr := opd_rel hE (.t a)
      simp only [opdD, hg, RelV, opd] at hr
      obtain ⟨b', c, n, hp, e1⟩ := hr
      split at h
      · rename_i cs hb
        obtain ⟨b2, c2, n2, as, hp2, hs, hv⟩ := hS.obj _ _ hb
        rw [hp] at hp2; cases hp2
        cases hc : Nat.beq cs.length k with
        | false => rw [hc] at h; cases h
        | true =>
          rw [hc] at h
          simp only [cond_true] at h
          have hlen : as.length = k := by rw [RelVs_len hv]; exact beq_iff.1 hc
          simp only [resOne, e1, hs]
          cases ag with
          | true =>
            cases h
            exact ⟨.agg as, by simp [hlen], by simp only [RelV]; exact ⟨as, rfl, hv⟩⟩
          | false =>
            simp only at h
            split at h
            · cases h
              simp only [RelVs] at hv
              obtain ⟨a, as', rfl, h1, h2⟩ := hv
              exact ⟨a, by simp only [List.length_cons] at hlen; simp only [List.length_cons, hlen, if_true, Bool.false_eq_true, if_false]; rfl, h1⟩
            · cases h
      · cases h
    · cases h
theorem resDs_rel {e : DEnv} {e' : Env} (hE : RelE π e e') (hS : RelS π Fr S s') : ∀ {rs : List Res} {ds : List DV}, resDs e S rs = some ds → ∃ as, resAll e' s' rs = some as ∧ RelVs π ds as
  | [], ds, h => by cases h; exact ⟨[], rfl, RelVs_nil⟩
  | r :: rs, ds, h => by
    simp only [resDs] at h
    split at h
    · rename_i d ds' h1 h2
      cases h
      obtain ⟨a, g1, g2⟩ := resD1_rel hE hS h1
      obtain ⟨as, g3, g4⟩ := resDs_rel hE hS h2
      exact ⟨a :: as, by simp only [resAll, g1, g3], RelVs_cons g2 g4⟩
    · cases h
theorem resD_rel {e : DEnv} {e' : Env} (hE : RelE π e e') (hS : RelS π Fr S s') {rs : List Res} {d : DV} (h : resD e S rs = some d) : ∃ a, resOf e' s' rs = some a ∧ RelV π d a := by
  unfold resD at h
  split at h
  · rename_i d1 hd
    cases h
    obtain ⟨as, g1, g2⟩ := resDs_rel hE hS hd
    simp only [RelVs] at g2
    obtain ⟨a, as', rfl, g2, rfl⟩ := g2
    exact ⟨a, by simp only [resOf, g1], g2⟩
  · rename_i ds hne hd
    cases h
    obtain ⟨as, g1, g2⟩ := resDs_rel hE hS hd
    refine ⟨.tup as, ?_, by simp only [RelV]; exact ⟨as, rfl, g2⟩⟩
    unfold resOf
    rw [g1]
    split
    · rename_i v hv
      cases hv
      have := RelVs_len g2
      match ds, this, hne with
      | [x], _, hne => exact absurd rfl (hne x)
    · rename_i vs _ hv; cases hv; rfl
    · rename_i hv; cases hv
  · cases h

/-- A function's contract out of its text. -/
theorem dxf_sound {P : Program} {T : List FEnt} (hT : DTblOK P T) {f : FuncId} {n : Nat} {rs : List Res} {c : DCode} (hF : L.Fn P f n rs (erase c)) {sh : FSh} (hn : Nat.ble sh.ins.vals.length n = true) : DC P f sh (dxf T sh rs c) := by
  refine ⟨hF.callR, fun x r h π Fr as s' hin => ?_⟩
  obtain ⟨ds, os, h1, h2, h3⟩ := hin
  unfold dxf at h
  rw [h1] at h
  simp only at h
  have hids : subN sh.out.ids (sh.ins.objs.map (·.1)) = true := by
    cases hc : subN sh.out.ids (sh.ins.objs.map (·.1)) with
    | true => rfl
    | false => rw [hc] at h; cases h
  rw [hids, cond_true] at h
  have hlen : as.length ≤ n := by
    rw [RelVs_len h2]
    have : ds.length = sh.ins.vals.length := by
      unfold fillSt at h1
      split at h1
      · rename_i ds1 l1 hv
        split at h1
        · cases h1
          clear h h2
          revert hv
          generalize ofDens sh.ts x = l
          generalize sh.ins.vals = rs
          intro hv
          induction rs generalizing ds l with
          | nil => simp only [fillVs] at hv; cases hv; rfl
          | cons r rs ih =>
            simp only [fillVs] at hv
            split at hv
            · split at hv
              · rename_i h2; cases hv; simp [ih _ _ h2]
              · cases hv
            · cases hv
        · cases h1
      · cases h1
    rw [this]
    simpa [Nat.ble_eq] using hn
  refine AC_of_body (TblOK_nil _) hF hlen (dxc_sound hT c h (argE_rel 0 h2 fun j => by rw [Nat.zero_add]) h3 fun ex e1 S1 π1 e1' s1 g1 g2 g3 g4 => ?_)
  have fin : (match resD e1 S1 rs with
      | some d => match rdSt none S1 sh.out.st sh.out.q [d] (idNm sh.out.ids) with
        | some (l, _) => toDens sh.out.ts l
        | none => none
      | none => none) = some r → ∃ r0, resOf e1' s1 rs = some r0 ∧ ∃ r' s'', Wk1 s1 r0 s'' r' ∧ ∃ π1, Out π π1 Fr sh.out r r' s'' := fun hg => by
    split at hg
    · rename_i d hd
      split at hg
      · rename_i l nm hr
        obtain ⟨a, q1, q2⟩ := resD_rel g3 g4 hd
        refine ⟨a, q1, a, s1, Wk1.refl _ _, piOf π1 nm, ?_⟩
        obtain ⟨p1, p2, p3, p4, ds2, os2, p5, p6, p7⟩ := canon g4 hr (RelVs_one q2) (Fr1 := Fr) g4.frm (fun k b b' c n h1 h2 => by
          obtain ⟨o, ho⟩ := (canon g4 hr (RelVs_one q2) (Fr1 := es0) (fun _ _ h => by cases h) (fun _ _ _ _ _ _ _ => rfl)).2.2.2.1 k b h1
          exact g4.out b o b' c n ho h2)
        have hl : ofDens sh.out.ts r = l := toDens_ofDens hg
        cases ds2 with
        | nil => simp only [RelVs] at p6; cases p6
        | cons d2 ds2 =>
          simp only [RelVs] at p6
          obtain ⟨a', as', e1, p6, p8⟩ := p6
          cases e1
          cases ds2 with
          | cons d3 ds3 => simp only [RelVs] at p8; obtain ⟨_, _, e1, _⟩ := p8; cases e1
          | nil =>
            refine ⟨d2, os2, by rw [hl]; exact p5, p3, p6, p7, fun k hk => ?_⟩
            have hf := p1 _ _ (idNm_fnd hk)
            simp only [piOf, hf, locOf]
            obtain ⟨o, ho⟩ := fill_obj h1 (subN_any hids hk)
            obtain ⟨lc, hlc⟩ := (h3.obj k o ho).loc
            rw [hlc]; exact g2 _ _ hlc
      · cases hg
    · cases hg
  cases ex with
  | normal => exact fin g1
  | ret => exact fin g1
  | _ => cases g1
end
end Go.Proofs.Ytjoncejabdjekaa.D
