/- Abstract code as a function over typed values, part 8: calls; operations one by one. -/
import Derived.Test.YtjoncejabdjekaaD7v
set_option linter.unusedVariables false
set_option linter.unusedSimpArgs false
namespace Go.Proofs.Ytjoncejabdjekaa.D
open Go Go.Proofs.Ytjoncejabdjekaa.L

section
variable {π : Pi} {Fr : Store} {S : DSt} {s' : Store} {RD : List Nat} {R : Nat → Prop}
theorem notInL_mem {RD L : List Nat} (h : notInL RD L = true) : ∀ b ∈ L, RD.any (Nat.beq b) = false := by
  induction L with
  | nil => intro b hb; cases hb
  | cons c L ih =>
    simp only [notInL, Bool.and_eq_true, notIn, Bool.not_eq_true'] at h
    intro b hb
    rcases List.mem_cons.1 hb with rfl | hb
    · exact h.1
    · exact ih h.2 b hb

/-- A call that only looks. -/
theorem view_call {P : Program} (hS : RelS π Fr S s') {f : FuncId} {sh : FSh} {F : dens sh.ts → Option (dens sh.out.ts)} (hdc : DC P f sh F) (hv : vokB sh = true) {ds : List DV} {as : List AV} (hr : RelVs π ds as) {l : List Leaf} {nm : Nm}
    (hrd : rdSt (some S) S sh.ins sh.m ds [] = some (l, nm)) {x : dens sh.ts} (htd : toDens sh.ts l = some x) {y : dens sh.out.ts} (hF : F x = some y) :
    nm = [] ∧ AC P f as s' fun v s1 => ∃ ds2 S2 π2, afterD S [] sh.out (ofDens sh.out.ts y) = some (ds2, S2) ∧ Ext π π2 ∧ RelVs π2 ds2 [v] ∧ RelS π2 Fr S2 s1 ∧
      (∀ b o, S.get b = some o → ∃ o', S2.get b = some o') ∧ (∀ b o b' c n, S.get b = some o → π b = some (.real b' c n) → s1 b' = s' b') := by
  simp only [vokB, Bool.and_eq_true, List.isEmpty_iff] at hv
  obtain ⟨⟨⟨v1, v2⟩, v3⟩, v4⟩ := hv
  unfold rdSt at hrd
  split at hrd
  · rename_i l1 nm1 h1
    rw [v1] at hrd
    simp only [rdOs] at hrd
    cases hc : (noDup (nmNames nm1) && (noDup (nm1.map (·.1)) && (keysIn [] nm1 && (boundB sh.m [] && noDup (([] : List (Nat × OSh)).map (·.1)))))) with
    | false => rw [hc] at hrd; cases hrd
    | true =>
      rw [hc] at hrd
      cases hrd
      simp only [Bool.and_eq_true] at hc
      have hnm : nm = [] := by
        cases nm with
        | nil => rfl
        | cons p q => have := hc.2.2.1; simp [keysIn] at this
      subst hnm
      refine ⟨rfl, ?_⟩
      obtain ⟨_, avs, g2, g3⟩ := rdVs_view (π0 := fun _ => none) hS sh.ins.vals h1 hr
      obtain ⟨ds0, k1, k2⟩ := g3 []
      have hl := toDens_ofDens htd
      have hin : In (fun _ => none) es0 sh x avs es0 := by
        refine ⟨ds0, [], ?_, k2, ⟨fun b o h => by simp [DSt.get, fnd] at h, fun b1 b2 o1 o2 b' c1 n1 c2 n2 h => by simp [DSt.get, fnd] at h, fun _ _ h => h, fun b o b' c n h => by simp [DSt.get, fnd] at h, fun _ _ => rfl⟩⟩
        rw [hl]
        simp only [List.append_nil] at k1
        simp only [fillSt, v1, List.append_nil, k1, fillOs]
      let Q : AV → Store → Prop := fun v s2 => ∃ π1 d os, fillSt (fun k => k) sh.out.st (ofDens sh.out.ts y) = some ([d], os) ∧ noDup (sh.out.st.objs.map (·.1)) = true ∧ RelV π1 d v ∧ RelS π1 es0 ⟨sh.out.q, os⟩ s2 ∧
        ∀ b z, s2 b = some z → ∃ k o c n, fnd os k = some o ∧ π1 k = some (.real b c n)
      have hQ : AC P f avs es0 Q := AC_sub (hdc.2 x y hF _ _ _ _ hin) fun v s1 ⟨π1, d, os, p1, p2, p3, p4, p5⟩ => by
        classical
        let s2 : Store := fun b => if ∃ k o c n, fnd os k = some o ∧ π1 k = some (.real b c n) then s1 b else none
        have yes : ∀ b, (∃ k o c n, fnd os k = some o ∧ π1 k = some (.real b c n)) → s2 b = s1 b := fun b hk => by show (if _ then _ else _) = _; rw [if_pos hk]
        have no : ∀ b, ¬ (∃ k o c n, fnd os k = some o ∧ π1 k = some (.real b c n)) → s2 b = none := fun b hk => by show (if _ then _ else _) = _; rw [if_neg hk]
        refine ⟨s2, fun b => ?_, π1, d, os, p1, p2, p3, ⟨fun b o hb => ?_, p4.inj, fun b' x h => (by cases h), fun b o b' c n hb hp => rfl, p4.nx⟩, fun b z hb => ?_⟩
        · by_cases hk : ∃ k o c n, fnd os k = some o ∧ π1 k = some (.real b c n)
          · exact .inr (yes b hk)
          · exact .inl (no b hk)
        · exact (p4.obj b o hb).mono (Ext.refl _) fun b' c n hp => yes b' ⟨b, o, c, n, hb, hp⟩
        · by_cases hk : ∃ k o c n, fnd os k = some o ∧ π1 k = some (.real b c n)
          · exact hk
          · rw [no b hk] at hb; cases hb
      refine AC_mono ?_ (AC_view hQ (fun w vs hs ha => ⟨by rw [ha.1, SVs_len g2], fun j hj => ?_⟩) ?_ ?_)
      · rintro v s1 ⟨s2, ⟨π1, d, os, p1, p2, p3, p4, p5⟩, rfl, hnew⟩
        have live : ∀ k b, fnd ([] : Nm) k = some (some b) → ∃ o, S.get b = some o := fun k b h => by simp [fnd] at h
        have hfr : frOf π ([] : Nm) s' = s' := by
          funext b
          unfold frOf
          rw [if_neg]
          rintro ⟨k, b2, c, n, h, _⟩
          simp [fnd] at h
        have join : ∀ b, s2 b ≠ none → joinS s' s2 b = s2 b := fun b hb => by
          unfold joinS
          cases hc : s2 b with
          | none => exact absurd hc hb
          | some z => rfl
        have h1 : RelS π1 (frOf π ([] : Nm) s') ⟨sh.out.q, os⟩ (joinS s' s2) := by
          rw [hfr]
          refine ⟨fun b o hb => (p4.obj b o hb).mono (Ext.refl _) fun b' c n hp => join b' ((p4.obj b o hb).some' hp), p4.inj, fun b' z h => ?_, fun b o b' c n hb hp => ?_, p4.nx⟩
          · unfold joinS
            cases hc : s2 b' with
            | none => exact h
            | some u => rw [hnew b' u hc] at h; cases h
          · cases hc : s2 b' with
            | none => exact absurd hc ((p4.obj b o hb).some' hp)
            | some u => exact hnew b' u hc
        obtain ⟨ds2, S2, π2, a1, a2, a3, a4, a5, a6⟩ := after_sound hS live p1 p2 (RelVs_one p3) h1 (fun k hk => by rw [v2] at hk; simp at hk)
        exact ⟨ds2, S2, π2, a1, a2, a3, a4, fun b o hb => a5 b o hb (by simp [nmNames]), fun b o b' c n hb hp => a6 b o b' c n hb (by simp [nmNames]) hp⟩
      · exact SVs_at g2 (by rw [← SVs_len g2]; exact hj) w _ hs (ha.2 j (by rw [← SVs_len g2]; exact hj))
      · rintro v s2 ⟨π1, d, os, p1, p2, p3, p4, p5⟩
        unfold fillSt at p1
        split at p1
        · rename_i ds1 l1 hvs
          split at p1
          · cases p1
            exact gndRs_same _ v3 hvs (RelVs_one p3) v (by simp)
          · cases p1
        · cases p1
      · rintro v s2 ⟨π1, d, os, p1, p2, p3, p4, p5⟩ b z hb o o' w hO
        obtain ⟨k, ob, c, n, q1, q2⟩ := p5 b z hb
        unfold fillSt at p1
        split at p1
        · rename_i ds1 l1 hvs
          split at p1
          · rename_i os1 hos
            cases p1
            obtain ⟨T, t, yy, rfl, hg⟩ := gndO_row v4 hos k ob (fnd_mem q1)
            rcases p4.obj k _ q1 with ⟨q3, _⟩ | ⟨b2, c2, xs, q3, q4, q5, q6⟩
            · rw [q2] at q3; cases q3
            · rw [q2] at q3; cases q3
              rw [hb] at q5
              cases q5
              obtain ⟨vs, e1, e2, e3, e4, e5, e6⟩ := hO
              refine ⟨vs, e1, e2, e3, e4, e5, fun i j hi hj => ⟨?_, (e6 i j hi hj).2⟩⟩
              have hi' : i < yy.length := by rw [← q6.1]; exact hi
              have hcr := q6.2 i hi'
              exact same_gnd hg hcr _ (at_mem (by rw [CR_len hcr]; exact hj)) _ _ _ _ (e6 i j hi hj).1
          · cases p1
        · cases p1
  · cases hrd

/-- A table of functions. -/
def DTblOK (P : Program) (T : List FEnt) : Prop := ∀ ent ∈ T, DC P ent.f ent.sh ent.F ∧ (ent.sh.bw = true → vokB ent.sh = true)
theorem DTbl_nil {P : Program} : DTblOK P [] := fun e h => by cases h
theorem DTbl_cons {P : Program} {ent : FEnt} {T : List FEnt} (h : DC P ent.f ent.sh ent.F) (hv : (!ent.sh.bw || vokB ent.sh) = true) (hT : DTblOK P T) : DTblOK P (ent :: T) := fun e he => by
  rcases List.mem_cons.1 he with rfl | he
  · exact ⟨h, fun hb => by rw [hb] at hv; simpa using hv⟩
  · exact hT e he

theorem dcall_sound {P : Program} (hS : RelS π Fr S s') (hH : HR π S RD R) {f : FuncId} {ds : List DV} {as : List AV} (hr : RelVs π ds as) {α : Type} {k : DV → DSt → Option α} {r : α} : ∀ {T : List FEnt} (hT : DTblOK P T) (h : dcall RD T f ds S k = some r)
    {K : AV → Store → Prop} (hK : ∀ d S1 a π1 s1, k d S1 = some r → RelV π1 d a → Ext π π1 → RelS π1 Fr S1 s1 → HR π1 S1 RD R → K a s1), AC P f as s' fun v s1 => (∀ b, R b → s1 b = s' b) ∧ K v s1
  | [], hT, h, K, hK => by simp [dcall] at h
  | ent :: T, hT, h, K, hK => by
    simp only [dcall] at h
    have rest := fun h => dcall_sound hS hH (f := f) hr (T := T) (fun e he => hT e (by simp [he])) h hK
    cases hf : Nat.beq ent.f f with
    | false => rw [hf] at h; exact rest h
    | true =>
      rw [hf] at h
      simp only [cond_true] at h
      obtain rfl := beq_iff.1 hf
      split at h
      · rename_i x nm hin
        cases hn : notInL RD (nmNames nm) with
        | false => rw [hn] at h; cases h
        | true =>
          rw [hn] at h
          simp only [cond_true] at h
          cases hF : ent.F x with
          | none => rw [hF] at h; cases h
          | some y =>
            rw [hF] at h
            simp only [Option.bind_some] at h
            obtain ⟨hdc, hbw⟩ := hT ent (by simp)
            unfold rdIn at hin
            cases hbwc : ent.sh.bw with
            | true =>
              rw [hbwc] at hin
              simp only [bwOf] at hin
              split at hin
              · rename_i l nm1 hrd
                split at hin
                · rename_i x1 htd
                  cases hin
                  obtain ⟨rfl, hac⟩ := view_call hS hdc (hbw hbwc) hr hrd htd hF
                  refine AC_mono ?_ hac
                  rintro v s1 ⟨ds2, S2, π2, a1, a2, a3, a4, a5, a6⟩
                  rw [a1] at h
                  split at h
                  · rename_i d2 S2' he
                    cases he
                    simp only [RelVs] at a3
                    obtain ⟨a, as', e, a3, e2⟩ := a3
                    cases e
                    refine ⟨fun b' hR => ?_, hK d2 S2 v π2 s1 h a3 a2 a4 ?_⟩
                    · obtain ⟨b, c, n, h1, h2⟩ := hH.of b' hR
                      obtain ⟨o, ho, _⟩ := hH.live b h1
                      exact a6 b o b' c n ho h2
                    · refine hH.mono a2 fun b hb => ?_
                      obtain ⟨o, ho, _⟩ := hH.live b hb
                      exact a5 b o ho
                  · cases h
                · cases hin
              · cases hin
            | false =>
            rw [hbwc] at hin
            simp only [bwOf] at hin
            split at hin
            · rename_i l nm1 hrd
              split at hin
              · rename_i x1 htd
                cases hin
                have hl := toDens_ofDens htd
                obtain ⟨q1, q2, q3, live, ds0, os0, q4, q5, q6⟩ := canon hS hrd hr (Fr1 := frOf π nm s') (fun b' x h => frOf_le h) (fun k b b' c n h1 h2 => frOf_none h1 h2)
                refine AC_mono ?_ (hdc.2 x y hF (piOf π nm) (frOf π nm s') as s' ⟨ds0, os0, by rw [hl]; exact q4, q5, q6⟩)
                rintro v s1 ⟨π1, d, os, p1, p2, p3, p4, p5⟩
                obtain ⟨ds2, S2, π2, a1, a2, a3, a4, a5, a6⟩ := after_sound hS live p1 p2 (RelVs_one p3) p4 (fun k hk b hb => by rw [p5 k hk]; simp only [piOf, hb, locOf])
                rw [a1] at h
                split at h
                · rename_i d2 S2' he
                  cases he
                  simp only [RelVs] at a3
                  obtain ⟨a, as', e, a3, e2⟩ := a3
                  cases e
                  refine ⟨fun b' hR => ?_, hK d2 S2 v π2 s1 h a3 a2 a4 ?_⟩
                  · obtain ⟨b, c, n, h1, h2⟩ := hH.of b' hR
                    obtain ⟨o, ho, _⟩ := hH.live b h1
                    exact a6 b o b' c n ho (fun hb => by rw [notInL_mem hn b hb] at h1; cases h1) h2
                  · refine hH.mono a2 fun b hb => ?_
                    obtain ⟨o, ho, _⟩ := hH.live b hb
                    exact a5 b o ho (fun hb2 => by rw [notInL_mem hn b hb2] at hb; cases hb)
                · cases h
              · cases hin
            · cases hin
      · exact rest h

/-! ### Operations one by one -/
theorem chks_inv {α : Type} : ∀ {ob : List Bool} {k : Option α} {r : α}, chks ob k = some r → ob.all id = true ∧ k = some r
  | [], k, r, h => ⟨rfl, h⟩
  | b :: l, k, r, h => by
    simp only [chks, chk] at h
    cases b with
    | false => cases h
    | true => obtain ⟨h1, h2⟩ := chks_inv (ob := l) h; exact ⟨by simpa using h1, h2⟩
theorem RelE.put {e : DEnv} {e' : Env} (hE : RelE π e e') {d : DV} {a : AV} (hr : RelV π d a) (t : Option Nat) : RelE π (e.put t d) (Env.put e' t a) := by
  cases t with
  | none => exact hE
  | some t =>
    intro u x hu
    simp only [DEnv.put, fnd_rep] at hu
    simp only [Env.put, Env.set]
    split at hu
    · rename_i e1; rw [if_pos e1]; cases hu; exact hr
    · rename_i e1; rw [if_neg e1]; exact hE u x hu
theorem RelE.ext {π1 : Pi} {e : DEnv} {e' : Env} (hE : RelE π e e') (hx : Ext π π1) : RelE π1 e e' := fun t d h => (hE t d h).ext hx

theorem RelE.put1 {e : DEnv} {e' : Env} (hE : RelE π e e') {t : Nat} {d : DV} (hr : RelV π d (e' t)) : RelE π (e.put (some t) d) e' := by
  intro u x hu
  simp only [DEnv.put, fnd_rep] at hu
  split at hu
  · rename_i e1; subst e1; cases hu; exact hr
  · exact hE u x hu

/-- What an operation does where it is done. -/
def Done (P : Program) (R : Nat → Prop) (o : AOper) (gd : Bool) (K : Env → Store → Prop) (e' : Env) (s' : Store) : Prop := match isEff o.op with
  | true => eff P R o.op (opd e') s' fun v s1 => K (Env.put e' o.dst v) s1
  | false => nop [] R o.op (opd e') s' fun v ob => ob ∧ K (Env.put e' o.dst (match gd with | true => .whn true v | false => v)) s'
theorem wv_rel {gd : Bool} {d : DV} {a : AV} (h : RelV π d a) : RelV π (wv gd d) (match gd with | true => .whn true a | false => a) := by
  cases gd with
  | true => simp only [wv, RelV]; exact ⟨a, rfl, fun _ => h⟩
  | false => exact h
theorem dxo1_sound {P : Program} {T : List FEnt} (hT : DTblOK P T) {o : AOper} {ann : Ann} {gd : Bool} {α : Type} {k : DEnv → DSt → Option α} {r : α} {e : DEnv} {e' : Env} (h : dxo1 RD T S e o ann gd k = some r) (hE : RelE π e e') (hS : RelS π Fr S s') (hH : HR π S RD R)
    {K : Env → Store → Prop} (hK : ∀ e1 S1 π1 e1' s1, k e1 S1 = some r → Ext π π1 → RelE π1 e1 e1' → RelS π1 Fr S1 s1 → HR π1 S1 RD R → K e1' s1) : Done P R o gd K e' s' := by
  have hρ : ∀ x, RelV π (opdD e x) (opd e' x) := opd_rel hE
  have call : ∀ (f : FuncId) (ds : List DV) (as : List AV), RelVs π ds as → dcall RD T f ds S (fun d S' => k (e.put o.dst d) S') = some r → AC P f as s' fun v s1 => (∀ b, R b → s1 b = s' b) ∧ K (Env.put e' o.dst v) s1 := by
    intro f ds as hr h2
    exact dcall_sound hS hH hr hT h2 (K := fun v s1 => K (Env.put e' o.dst v) s1) fun d S1 a π1 s1 g1 g2 g3 g4 g5 => hK _ _ π1 _ _ g1 g3 ((hE.ext g3).put g2 _) g4 g5
  unfold dxo1 at h
  unfold Done
  split at h
  · rename_i f xs ho
    obtain ⟨h1, h2⟩ := chks_inv h
    obtain ⟨d1, d2⟩ := dvals_rel hρ h1
    rw [ho]
    exact ⟨d2, call f _ _ d1 h2⟩
  · rename_i g xs ho
    split at h
    · rename_i f caps hg
      obtain ⟨h1, h2⟩ := chks_inv h
      obtain ⟨o1, o2⟩ := all_app h1
      have v := relv_val (hρ g) o1
      rw [hg] at v
      simp only [RelV] at v
      obtain ⟨as, e1, v⟩ := v
      obtain ⟨d1, d2⟩ := dvals_rel hρ o2
      rw [ho]
      refine ⟨relv_df (hρ g) o1, d2, ?_⟩
      rw [e1]
      exact call f _ _ (RelVs_app d1 v) h2
    · cases h
  · rename_i c x y ho
    split at h
    · rename_i g hg
      obtain ⟨h1, h2⟩ := chks_inv h
      have e1 := bval_inv hg (relv_val (hρ c) h1)
      have fc := relv_df (hρ c) h1
      rw [ho]
      simp only [isEff, nop, e1]
      cases g with
      | true =>
        simp only [cond_true] at h2 ⊢
        obtain ⟨h3, h4⟩ := chks_inv h2
        exact ⟨⟨fc, fun _ => relv_df (hρ x) h3, fun h => (by cases h)⟩, hK _ _ π _ _ h4 (Ext.refl _) (hE.put (wv_rel (relv_val (hρ x) h3)) _) hS hH⟩
      | false =>
        simp only [cond_false] at h2 ⊢
        obtain ⟨h3, h4⟩ := chks_inv h2
        exact ⟨⟨fc, fun h => (by cases h), fun _ => relv_df (hρ y) h3⟩, hK _ _ π _ _ h4 (Ext.refl _) (hE.put (wv_rel (relv_val (hρ y) h3)) _) hS hH⟩
    · cases h
  · rename_i ne x ho
    split at h
    · rename_i b hb
      obtain ⟨h1, h2⟩ := chks_inv h
      have hv := relv_val (hρ x) h1
      rw [ho]
      refine ⟨relv_df (hρ x) h1, ?_⟩
      have val : ∀ b, RelV π (isnV ne b) (.bool (if ne then !b else b)) := fun b => by cases ne <;> exact relv_bool _
      have go : ∀ b, k (e.put o.dst (isnV ne b)) S = some r → K (Env.put e' o.dst (.bool (if ne then !b else b))) s' := fun b hk => hK _ _ π _ _ hk (Ext.refl _) (hE.put (val b) _) hS hH
      have both : b = true → ∀ b, k (e.put o.dst (isnV ne b)) S = some r := fun e1 b' => by
        subst e1
        simp only [bisn] at h2
        split at h2
        · rename_i he; cases b' with
          | true => rw [he]; exact h2
          | false => exact h2
        · cases h2
      have kf : k (e.put o.dst (isnV ne false)) S = some r := by
        cases b with
        | true => exact both rfl false
        | false => exact h2
      unfold isnL at hb
      split at hb
      · rename_i t l hx
        cases hb
        rw [hx] at hv
        simp only [RelV, CR] at hv
        rcases hv with ⟨e1, rfl⟩ | ⟨get, e1, hv⟩
        · simp only [List.cons.injEq, and_true] at e1
          rw [e1]
          exact fun b => go b (both (by simp) b)
        · simp only [List.cons.injEq, and_true] at e1
          rw [e1]
          intro b' hb'
          cases b' with
          | false => exact go false kf
          | true => exact go true (both (by simpa using hb' rfl) true)
      · rename_i b0 hx
        split at hb
        · rename_i T0 t0 l hg
          cases hb
          rw [hx] at hv
          simp only [RelV] at hv
          rcases hv with ⟨b', c, n, hp, e1⟩ | ⟨hp, e1⟩
          · rw [e1]; exact go false kf
          · rw [e1]
            rcases hS.obj _ _ hg with ⟨q1, rfl⟩ | ⟨b2, c2, xs, hp2, _⟩
            · exact fun b => go b (both (by simp) b)
            · rw [hp] at hp2; cases hp2
        · cases hb
      · rename_i hx
        cases hb
        rw [hx] at hv
        simp only [RelV] at hv
        rw [hv]
        exact fun b => go b (both rfl b)
      · cases hb
    · cases h
  · unfold dop at h
    cases he : isEff o.op with
    | true =>
      rw [he] at h
      simp only at h ⊢
      split at h
      · rename_i d S' ob hd
        obtain ⟨h1, h2⟩ := chks_inv h
        exact deo_sound hS hH hρ hd h1 fun a π1 s1 g1 g2 g3 g4 => hK _ _ π1 _ _ h2 g2 ((hE.ext g2).put g1 _) g3 g4
      · cases h
    | false =>
      rw [he] at h
      simp only at h ⊢
      split at h
      · rename_i d ob hd
        obtain ⟨h1, h2⟩ := chks_inv h
        obtain ⟨a, p, g1, g2, g3⟩ := dno_sound hS hH hρ hd h1
        exact g3 _ ⟨g2, hK _ _ π _ _ h2 (Ext.refl _) (hE.put (wv_rel g1) _) hS hH⟩
      · cases h

/-- One operation. -/
theorem dxo_sound {P : Program} {T : List FEnt} (hT : DTblOK P T) {o : AOper} {ann : Ann} {α : Type} {k : DEnv → DSt → Option α} {r : α} {e : DEnv} {e' : Env} (h : dxo RD T o ann k e S = some r) (hE : RelE π e e') (hS : RelS π Fr S s') (hH : HR π S RD R)
    {K : Env → Store → Prop} (hK : ∀ e1 S1 π1 e1' s1, k e1 S1 = some r → Ext π π1 → RelE π1 e1 e1' → RelS π1 Fr S1 s1 → HR π1 S1 RD R → K e1' s1) : xo P [] R o K e' s' := by
  -- where a guard does not hold
  have skip : ∀ (e0 : DEnv), RelE π e0 e' → k (e0.put o.dst (skipD o)) S = some r → (match isEff o.op with
      | true => K (Env.put e' o.dst .undef) s'
      | false => K (Env.put e' o.dst (.whn false .undef)) s') := fun e0 h0 hk => by
    unfold skipD at hk
    cases he : isEff o.op with
    | true => rw [he] at hk; exact hK _ _ π _ _ hk (Ext.refl _) (h0.put (by simp only [RelV]) _) hS hH
    | false => rw [he] at hk; exact hK _ _ π _ _ hk (Ext.refl _) (h0.put (by simp only [RelV]; exact ⟨_, rfl, fun hc => by cases hc⟩) _) hS hH
  have no : ∀ (g : Nat) (want : Bool), o.grd = some (g, want) → grdOf want (e' g) = some false → (match isEff o.op with
      | true => K (Env.put e' o.dst .undef) s'
      | false => K (Env.put e' o.dst (.whn false .undef)) s') → xo P [] R o K e' s' := fun g want hg hq hk => by
    unfold xo
    rw [hg]
    simp only [hq]
    cases he : isEff o.op with
    | true => rw [he] at hk; exact ⟨fun h => (by cases h), fun _ => hk⟩
    | false => rw [he] at hk; exact hk
  have yes : ∀ (g : Nat) (want : Bool), o.grd = some (g, want) → grdOf want (e' g) = some true → Done P R o true K e' s' → xo P [] R o K e' s' := fun g want hg hq hk => by
    unfold xo
    rw [hg]
    simp only [hq]
    unfold Done at hk
    cases he : isEff o.op with
    | true => rw [he] at hk; exact ⟨fun _ => hk, fun h => (by cases h)⟩
    | false => rw [he] at hk; exact hk
  have br : ∀ (g : Nat) (want b : Bool) (e0 : DEnv), o.grd = some (g, want) → grdOf want (e' g) = some (gb want b) → RelE π e0 e' → gbr RD T o ann k e0 S want b = some r → xo P [] R o K e' s' := fun g want b e0 hg hq h0 hk => by
    unfold gbr at hk
    cases hb : gb want b with
    | true => rw [hb] at hk hq; exact yes g want hg hq (dxo1_sound hT hk h0 hS hH hK)
    | false => rw [hb] at hk hq; exact no g want hg hq (skip e0 h0 hk)
  unfold dxo at h
  split at h
  · rename_i hg
    have := dxo1_sound hT h hE hS hH hK
    unfold Done at this
    unfold xo
    rw [hg]
    simp only
    cases he : isEff o.op with
    | true => rw [he] at this; exact this
    | false => rw [he] at this; exact this
  · rename_i g want hg
    have hr : RelV π (e.get g) (e' g) := opd_rel hE (.t g)
    split at h
    · rename_i c hc
      rw [hc] at hr
      have e1 := bval_inv (d := .v ⟨.bool, c⟩) rfl hr
      cases c with
      | true => exact br g want true _ hg (by rw [e1]; rfl) (hE.put1 (by rw [e1]; exact relv_bool _)) h
      | false => exact br g want false _ hg (by rw [e1]; rfl) (hE.put1 (by rw [e1]; exact relv_bool _)) h
    · rename_i c hc
      rw [hc] at hr
      simp only [RelV] at hr
      obtain ⟨a', e1, hr⟩ := hr
      have e2 := hr trivial
      simp only [CR, List.cons.injEq, and_true] at e2
      rw [e2] at e1
      cases c with
      | true => exact br g want true _ hg (by rw [e1]; rfl) (hE.put1 (by rw [e1]; simp only [RelV]; exact ⟨_, rfl, fun _ => relv_bool _⟩)) h
      | false => exact br g want false _ hg (by rw [e1]; rfl) (hE.put1 (by rw [e1]; simp only [RelV]; exact ⟨_, rfl, fun _ => relv_bool _⟩)) h
    · rename_i d hc
      rw [hc] at hr
      simp only [RelV] at hr
      obtain ⟨a', e1, hr⟩ := hr
      exact no g want hg (by rw [e1]; rfl) (skip e hE h)
    · cases h
end
end Go.Proofs.Ytjoncejabdjekaa.D
