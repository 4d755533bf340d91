/- Abstract code as a function over typed values, part 7v: calls that only look. -/
import Derived.Test.YtjoncejabdjekaaD7
set_option linter.unusedVariables false
set_option linter.unusedSimpArgs false
namespace Go.Proofs.Ytjoncejabdjekaa.D
open Go Go.Proofs.Ytjoncejabdjekaa.L

/-- What a function is handed. -/
def In (π : Pi) (Fr : Store) (sh : FSh) (x : dens sh.ts) (as : List AV) (s' : Store) : Prop :=
  ∃ ds os, fillSt (fun k => k) sh.ins (ofDens sh.ts x) = some (ds, os) ∧ RelVs π ds as ∧ RelS π Fr ⟨sh.m, os⟩ s'
/-- What it hands back. -/
def Out (π π1 : Pi) (Fr : Store) (o : OutSh) (r : dens o.ts) (v : AV) (s1 : Store) : Prop :=
  ∃ d os, fillSt (fun k => k) o.st (ofDens o.ts r) = some ([d], os) ∧ noDup (o.st.objs.map (·.1)) = true ∧ RelV π1 d v ∧ RelS π1 Fr ⟨o.q, os⟩ s1 ∧ ∀ k, o.ids.any (Nat.beq k) = true → π1 k = π k
/-- A function's contract. -/
def DC (P : Program) (f : FuncId) (sh : FSh) (F : dens sh.ts → Option (dens sh.out.ts)) : Prop :=
  CallR P f ∧ ∀ x r, F x = some r → ∀ π Fr as s', In π Fr sh x as s' → AC P f as s' (fun v s1 => ∃ π1, Out π π1 Fr sh.out r v s1)

/-! ### Calls that only look -/
def es0 : Store := fun _ => none
def joinS (s s2 : Store) : Store := fun b => match s2 b with
  | some x => some x
  | none => s b
theorem own_es0 : own es0 = fun _ => False := by funext b; simp [own, es0]
/-- A call for which nothing is owned. -/
theorem AC_view {P : Program} {f : FuncId} {as asv : List AV} {s : Store} {Q : AV → Store → Prop} (h : AC P f asv es0 Q) (hv : ∀ w vs, St s w → RVs (own s) w as vs → RVs (fun _ => False) w asv vs)
    (g1 : ∀ r s2, Q r s2 → ∀ o o' w v, RV o w r v → RV o' w r v) (g2 : ∀ r s2, Q r s2 → ∀ b x, s2 b = some x → ∀ o o' w, ObjR o w b x → ObjR o' w b x) : AC P f as s (fun r s1 => ∃ s2, Q r s2 ∧ s1 = joinS s s2 ∧ ∀ b x, s2 b = some x → s b = none) := by
  refine ⟨h.1, fun vs w hs ha => ?_⟩
  refine (h.2 vs w (fun b x hb => by cases hb) (by rw [own_es0]; exact hv w vs hs ha)).mono ?_
  rintro en w' ⟨v, r, s2, rfl, hQ, hs2, hr, hm⟩
  have hno : ∀ b, ¬ own es0 b := fun b hb => hb rfl
  have grow : ∀ b, own (joinS s s2) b → own s b ∨ w.heap.size ≤ b := fun b hb => by
    cases hc : s2 b with
    | some x =>
      rcases hm.grow b (by unfold own; rw [hc]; simp) with h | h
      · exact absurd h (hno b)
      · exact .inr h
    | none => left; unfold own joinS at hb; rw [hc] at hb; exact hb
  have hmv : Mv (own s) (own (joinS s s2)) w w' := ⟨hm.os, hm.tape, hm.output, hm.size, fun b hb _ => hm.block b hb (hno b), grow⟩
  have hnew : ∀ b x, s2 b = some x → s b = none := fun b x hb => by
    cases hc : s b with
    | none => rfl
    | some y =>
      have h1 := (hs b y hc).lt
      rcases hm.grow b (by unfold own; rw [hb]; simp) with h | h
      · exact absurd h (hno b)
      · omega
  refine ⟨v, r, joinS s s2, rfl, ⟨s2, hQ, rfl, hnew⟩, fun b x hb => ?_, g1 r s2 hQ _ _ _ _ hr, hmv⟩
  unfold joinS at hb
  cases hc : s2 b with
  | some y => rw [hc] at hb; cases hb; exact g2 r s2 hQ b _ hc _ _ _ (hs2 b _ hc)
  | none =>
    rw [hc] at hb
    exact (hs b x hb).mv hmv (hm.block b (hs b x hb).lt (hno b))


/-- A call's results, some objects less. -/
theorem AC_sub {P : Program} {f : FuncId} {as : List AV} {s : Store} {Q Q' : AV → Store → Prop} (h : AC P f as s Q) (hq : ∀ r s1, Q r s1 → ∃ s2, Sub s2 s1 ∧ Q' r s2) : AC P f as s Q' := by
  refine ⟨h.1, fun vs w hs hv => (h.2 vs w hs hv).mono ?_⟩
  rintro en w' ⟨v, r, s1, h1, h2, h3, h4, h5⟩
  obtain ⟨s2, g1, g2⟩ := hq r s1 h2
  have hm := Mv.less (fun b (hb : own s2 b) => g1.own hb) w'
  exact ⟨v, r, s2, h1, g2, g1.st h3, h4.mv hm, h5.trans hm⟩

section
variable {π : Pi} {Fr : Store} {S : DSt} {s' : Store}
/-- What a value looks like where nothing is owned. -/
def SV (s' : Store) (a av : AV) : Prop := ∀ w v, St s' w → RV (own s') w a v → RV (fun _ => False) w av v
def SVs (s' : Store) : List AV → List AV → Prop
  | [], [] => True
  | a :: l, b :: m => SV s' a b ∧ SVs s' l m
  | _, _ => False
theorem RV_no {o : Nat → Prop} {w : World} {a : AV} {v : Value} (h : RV o w a v) : RV (fun _ => False) w a v := h.mv (Mv.less (fun _ h => h.elim) w)
theorem SV_same (a : AV) : SV s' a a := fun w v _ h => RV_no h
theorem SVs_len : ∀ {l m : List AV}, SVs s' l m → m.length = l.length
  | [], [], _ => rfl
  | a :: l, b :: m, h => by simp [SVs_len h.2]
  | [], _ :: _, h => h.elim
  | _ :: _, [], h => h.elim
theorem SVs_at : ∀ {l m : List AV} {j : Nat}, SVs s' l m → j < l.length → SV s' (at_ l j) (at_ m j)
  | a :: l, b :: m, 0, h, _ => h.1
  | a :: l, b :: m, j + 1, h, hj => by
    have := SVs_at (j := j) h.2 (by simpa using hj)
    simpa [at_] using this
  | [], _, j, _, hj => by simp at hj
  | _ :: _, [], _, h, _ => h.elim
theorem SVs_app : ∀ {l m l' m' : List AV}, SVs s' l m → SVs s' l' m' → SVs s' (l ++ l') (m ++ m')
  | [], [], _, _, _, h => h
  | a :: l, b :: m, _, _, h, k => ⟨h.1, SVs_app h.2 k⟩
  | [], _ :: _, _, _, h, _ => h.elim
  | _ :: _, [], _, _, h, _ => h.elim
theorem SV_agg {l m : List AV} (h : SVs s' l m) : SV s' (.agg l) (.agg m) := fun w v hs hv => by
  obtain ⟨vs, rfl, h1, h2⟩ := inv_agg hv
  exact .agg _ vs (by rw [SVs_len h]; exact h1) fun j hj => SVs_at h (by rw [← SVs_len h]; exact hj) w _ hs (h2 j (by rw [← SVs_len h]; exact hj))
theorem SV_tup {l m : List AV} (h : SVs s' l m) : SV s' (.tup l) (.tup m) := fun w v hs hv => by
  obtain ⟨vs, rfl, h1, h2⟩ := inv_tup hv
  exact .tup _ vs (by rw [SVs_len h]; exact h1) fun j hj => SVs_at h (by rw [← SVs_len h]; exact hj) w _ hs (h2 j (by rw [← SVs_len h]; exact hj))
theorem SV_fn {f : FuncId} {l m : List AV} (h : SVs s' l m) : SV s' (.fn f l) (.fn f m) := fun w v hs hv => by
  obtain ⟨vs, rfl, h1, h2⟩ := inv_fn hv
  exact .fn _ _ vs (by rw [SVs_len h]; exact h1) fun j hj => SVs_at h (by rw [← SVs_len h]; exact hj) w _ hs (h2 j (by rw [← SVs_len h]; exact hj))

theorem dec1_view (hS : RelS π Fr S s') {t : Ty} {d : DV} {x : t.den} {a : AV} (h : dec1 (some S) t d = some x) (k : RelV π d a) : ∃ av, CR t x [av] ∧ SV s' a av := by
  unfold dec1 at h
  split at h
  · rename_i t' y
    split at h
    · rename_i he; subst he; cases h; exact ⟨a, by simpa only [RelV] using k, SV_same a⟩
    · cases h
  · split at h
    · cases h; simp only [RelV] at k; subst k; exact ⟨.emp, .inl ⟨rfl, rfl⟩, SV_same _⟩
    · cases h
  · rename_i b
    cases t with
    | sl t0 =>
      simp only at h
      split at h
      · rename_i T t' l hb
        split at h
        · rename_i he; subst he; cases h
          simp only [RelV] at k
          rcases hS.obj _ _ hb with ⟨g1, rfl⟩ | ⟨b2, c2, xs, hp2, hcap, hs, hr⟩
          · rcases k with ⟨b', c, m, hp, rfl⟩ | ⟨hp, rfl⟩
            · rw [g1] at hp; cases hp
            · exact ⟨.emp, .inl ⟨rfl, rfl⟩, SV_same _⟩
          · rcases k with ⟨b', c, m, hp, rfl⟩ | ⟨hp, _⟩
            · rw [hp2] at hp; cases hp
              refine ⟨.lst t'.w l.length (fun i => xs.getD i []), .inr ⟨_, rfl, hr.2⟩, fun w v hw hv => ?_⟩
              have hfrz : frzO (.row T t'.w c2 xs) := fun l2 hl a ha => by
                obtain ⟨i, hi, rfl⟩ := List.getElem_of_mem hl
                have := hr.2 i (by rw [← hr.1]; exact hi)
                rw [List.getD_eq_getElem?_getD, List.getElem?_eq_getElem hi] at this
                exact CR_frz this a ha
              have := fv_RV (D := []) hs hfrz hw hv
              simp only [fv, if_true] at this
              rw [if_pos ⟨by rw [hr.1]; exact Nat.le_refl _, hcap⟩] at this
              exact RV_no this
            · rw [hp2] at hp; cases hp
        · cases h
      · cases h
    | _ => simp at h
  · cases h
theorem dec_view (hS : RelS π Fr S s') : ∀ {t : Ty} {ds : List DV} {x : t.den} {rest : List DV} {as : List AV}, dec (some S) t ds = some (x, rest) → RelVs π ds as → ∃ c as' cv, as = c ++ as' ∧ CR t x cv ∧ SVs s' c cv ∧ RelVs π rest as'
  | .pair a b, ds, x, rest, as, h, k => by
    simp only [dec] at h
    split at h
    · rename_i y ds1 h1
      split at h
      · rename_i z ds2 h2
        cases h
        obtain ⟨c1, as1, v1, rfl, g1, s1, k1⟩ := dec_view hS h1 k
        obtain ⟨c2, as2, v2, rfl, g2, s2, k2⟩ := dec_view hS h2 k1
        exact ⟨c1 ++ c2, as2, v1 ++ v2, by simp, ⟨v1, v2, rfl, g1, g2⟩, SVs_app s1 s2, k2⟩
      · cases h
    · cases h
  | .es _, ds, x, rest, as, h, k => by simp [dec] at h
  | .int _, [], x, rest, as, h, k | .bool, [], x, rest, as, h, k | .str, [], x, rest, as, h, k | .sl _, [], x, rest, as, h, k => by simp [dec] at h
  | .int _, d :: ds, x, rest, as, h, k | .bool, d :: ds, x, rest, as, h, k | .str, d :: ds, x, rest, as, h, k | .sl _, d :: ds, x, rest, as, h, k => by
    simp only [dec] at h
    split at h
    · rename_i y hy
      cases h
      simp only [RelVs] at k
      obtain ⟨a, as', rfl, k1, k2⟩ := k
      obtain ⟨av, q1, q2⟩ := dec1_view hS hy k1
      exact ⟨[a], as', [av], rfl, q1, ⟨q2, trivial⟩, k2⟩
    · cases h
theorem decAll_view (hS : RelS π Fr S s') {t : Ty} {ds : List DV} {x : t.den} {as : List AV} (h : decAll (some S) t ds = some x) (k : RelVs π ds as) : ∃ cv, CR t x cv ∧ SVs s' as cv := by
  unfold decAll at h
  split at h
  · rename_i y hy
    cases h
    obtain ⟨c, as', cv, rfl, g, g2, k'⟩ := dec_view hS hy k
    simp only [RelVs] at k'
    subst k'
    exact ⟨cv, g, by simpa using g2⟩
  · cases h

variable {π0 : Pi}
mutual
theorem rdV_view (hS : RelS π Fr S s') : ∀ (r : RSh) {d : DV} {nm : Nm} {l : List Leaf} {a : AV}, rdV (some S) r d nm = some (l, []) → RelV π d a →
    nm = [] ∧ ∃ av, SV s' a av ∧ ∀ rest, ∃ d2, fillV (fun k => k) r (l ++ rest) = some (d2, rest) ∧ RelV π0 d2 av
  | .v t, d, nm, l, a, h, hr => by
    simp only [rdV] at h
    split at h
    · rename_i x hx
      cases h
      obtain ⟨av, q1, q2⟩ := dec1_view hS hx hr
      exact ⟨rfl, av, q2, fun rest => ⟨.v ⟨t, x⟩, by simp [fillV], by simp only [RelV]; exact q1⟩⟩
    · cases h
  | .st t, d, nm, l, a, h, hr => by
    cases d with
    | agg ds =>
      simp only [rdV] at h
      split at h
      · rename_i x hx
        cases h
        simp only [RelV] at hr
        obtain ⟨as, rfl, hr⟩ := hr
        obtain ⟨cv, q1, q2⟩ := decAll_view hS hx hr
        exact ⟨rfl, .agg cv, SV_agg q2, fun rest => ⟨.agg (cellsD t x), by simp [fillV], by simp only [RelV]; exact ⟨cv, rfl, CR_cells q1⟩⟩⟩
      · cases h
    | _ => simp [rdV] at h
  | .elm t, d, nm, l, a, h, hr => by
    cases d with
    | elm ds =>
      simp only [rdV] at h
      split at h
      · rename_i x hx
        cases h
        simp only [RelV] at hr
        obtain ⟨as, rfl, hr⟩ := hr
        exact ⟨rfl, .elm as, SV_same _, fun rest => ⟨.elm (cellsD t x), by simp [fillV], by simp only [RelV]; exact ⟨as, rfl, CR_cells (decAll_CR hx hr)⟩⟩⟩
      · cases h
    | ptr b o =>
      cases o with
      | succ o => simp [rdV] at h
      | zero =>
        simp only [rdV] at h
        split at h
        · rename_i cs hb
          split at h
          · rename_i x hx
            cases h
            simp only [RelV] at hr
            obtain ⟨b', c, n, hp, rfl⟩ := hr
            obtain ⟨b2, c2, n2, as, hp2, hs, hv⟩ := hS.obj _ _ hb
            rw [hp] at hp2; cases hp2
            obtain ⟨cv, q1, q2⟩ := decAll_view hS hx hv
            refine ⟨rfl, .elm cv, fun w v hw hrv => ?_, fun rest => ⟨.elm (cellsD t x), by simp [fillV], by simp only [RelV]; exact ⟨cv, rfl, CR_cells q1⟩⟩⟩
            rw [inv_ptr hrv]
            have hlen := SVs_len q2
            refine .fz _ _ (.elm cv _ (fun j => (w.cell? ⟨b', 0 + j, none⟩).getD Go.undef) rfl (fun h => h) (hw b' _ hs).lt (fun j hj => ?_) (fun j hj => ?_))
            · obtain ⟨u, h1, h2⟩ := box_cell (hw _ _ hs) (j := 0 + j) (by omega)
              rw [add_at, h1]; rfl
            · obtain ⟨u, h1, h2⟩ := box_cell (hw _ _ hs) (j := 0 + j) (by omega)
              rw [h1]
              rw [Nat.zero_add] at h2
              exact FV.of_frz (SVs_at q2 (by omega) w u hw h2) (CR_frz q1 _ (at_mem hj))
          · cases h
        · cases h
    | _ => simp [rdV] at h
  | .ptr k o, d, nm, l, a, h, hr => by
    cases d with
    | ptr b o' =>
      simp only [rdV] at h
      cases hc : Nat.beq o o' with
      | false => rw [hc] at h; cases h
      | true =>
        rw [hc] at h
        simp only [cond_true] at h
        split at h
        · rename_i nm1 hb
          cases h
          have := (bindN_inv hb).2
          cases this
        · cases h
    | _ => simp [rdV] at h
  | .slc k, d, nm, l, a, h, hr => by
    cases d with
    | slc b =>
      simp only [rdV] at h
      split at h
      · rename_i nm1 hb
        cases h
        have := (bindN_inv hb).2
        cases this
      · cases h
    | emp =>
      simp only [rdV] at h
      split at h
      · rename_i nm1 hb
        cases h
        have := (bindV_inv hb).2
        cases this
      · cases h
    | _ => simp [rdV] at h
  | .mp k, d, nm, l, a, h, hr => by
    cases d with
    | mp b =>
      simp only [rdV] at h
      split at h
      · rename_i nm1 hb
        cases h
        have := (bindN_inv hb).2
        cases this
      · cases h
    | _ => simp [rdV] at h
  | .nilp, d, nm, l, a, h, hr => by
    cases d with
    | nilp => simp only [rdV] at h; cases h; exact ⟨rfl, a, SV_same _, fun rest => ⟨.nilp, by simp [fillV], by simp only [RelV] at hr ⊢; exact hr⟩⟩
    | _ => simp [rdV] at h
  | .nilm, d, nm, l, a, h, hr => by
    cases d with
    | nilm => simp only [rdV] at h; cases h; exact ⟨rfl, a, SV_same _, fun rest => ⟨.nilm, by simp [fillV], by simp only [RelV] at hr ⊢; exact hr⟩⟩
    | _ => simp [rdV] at h
  | .emp, d, nm, l, a, h, hr => by
    cases d with
    | emp => simp only [rdV] at h; cases h; exact ⟨rfl, a, SV_same _, fun rest => ⟨.emp, by simp [fillV], by simp only [RelV] at hr ⊢; exact hr⟩⟩
    | _ => simp [rdV] at h
  | .any, d, nm, l, a, h, hr => by
    have h' : some (([] : List Leaf), nm) = some (l, []) := by cases d <;> simpa only [rdV] using h
    cases h'
    exact ⟨rfl, a, SV_same _, fun rest => ⟨.undef, by simp [fillV], by simp only [RelV]⟩⟩
  | .agg rs, d, nm, l, a, h, hr => by
    cases d with
    | agg ds =>
      simp only [rdV] at h
      simp only [RelV] at hr
      obtain ⟨as, rfl, hr⟩ := hr
      obtain ⟨g1, avs, g2, g3⟩ := rdVs_view hS rs h hr
      refine ⟨g1, .agg avs, SV_agg g2, fun rest => ?_⟩
      obtain ⟨ds2, k1, k2⟩ := g3 rest
      exact ⟨.agg ds2, by simp [fillV, k1], by simp only [RelV]; exact ⟨avs, rfl, k2⟩⟩
    | _ => simp [rdV] at h
  | .tup rs, d, nm, l, a, h, hr => by
    cases d with
    | tup ds =>
      simp only [rdV] at h
      simp only [RelV] at hr
      obtain ⟨as, rfl, hr⟩ := hr
      obtain ⟨g1, avs, g2, g3⟩ := rdVs_view hS rs h hr
      refine ⟨g1, .tup avs, SV_tup g2, fun rest => ?_⟩
      obtain ⟨ds2, k1, k2⟩ := g3 rest
      exact ⟨.tup ds2, by simp [fillV, k1], by simp only [RelV]; exact ⟨avs, rfl, k2⟩⟩
    | _ => simp [rdV] at h
  | .fn f rs, d, nm, l, a, h, hr => by
    cases d with
    | fn f' ds =>
      simp only [rdV] at h
      cases hc : Nat.beq f f' with
      | false => rw [hc] at h; cases h
      | true =>
        rw [hc] at h
        obtain rfl := beq_iff.1 hc
        simp only [cond_true] at h
        simp only [RelV] at hr
        obtain ⟨as, rfl, hr⟩ := hr
        obtain ⟨g1, avs, g2, g3⟩ := rdVs_view hS rs h hr
        refine ⟨g1, .fn f avs, SV_fn g2, fun rest => ?_⟩
        obtain ⟨ds2, k1, k2⟩ := g3 rest
        exact ⟨.fn f ds2, by simp [fillV, k1], by simp only [RelV]; exact ⟨avs, rfl, k2⟩⟩
    | _ => simp [rdV] at h
theorem rdVs_view (hS : RelS π Fr S s') : ∀ (rs : List RSh) {ds : List DV} {nm : Nm} {l : List Leaf} {as : List AV}, rdVs (some S) rs ds nm = some (l, []) → RelVs π ds as →
    nm = [] ∧ ∃ avs, SVs s' as avs ∧ ∀ rest, ∃ ds2, fillVs (fun k => k) rs (l ++ rest) = some (ds2, rest) ∧ RelVs π0 ds2 avs
  | [], ds, nm, l, as, h, hr => by
    cases ds with
    | nil =>
      simp only [rdVs] at h
      cases h
      simp only [RelVs] at hr; subst hr
      exact ⟨rfl, [], trivial, fun rest => ⟨[], by simp [fillVs], RelVs_nil⟩⟩
    | cons d ds => simp [rdVs] at h
  | r :: rs, ds, nm, l, as, h, hr => by
    cases ds with
    | nil => simp [rdVs] at h
    | cons d ds =>
      simp only [rdVs] at h
      simp only [RelVs] at hr
      obtain ⟨a, as', rfl, hr1, hr2⟩ := hr
      split at h
      · rename_i l1 nm1 h1
        split at h
        · rename_i l2 nm2 h2
          cases h
          obtain ⟨g1, avs, g2, g3⟩ := rdVs_view hS rs h2 hr2
          subst g1
          obtain ⟨g4, av, g5, g6⟩ := rdV_view hS r h1 hr1
          refine ⟨g4, av :: avs, ⟨g5, g2⟩, fun rest => ?_⟩
          obtain ⟨d2, k1, k2⟩ := g6 (l2 ++ rest)
          obtain ⟨ds2, k3, k4⟩ := g3 rest
          exact ⟨d2 :: ds2, by simp only [fillVs, List.append_assoc, k1, k3], RelVs_cons k2 k4⟩
        · cases h
      · cases h
end
end

/-! ### Results that hold no reference to what was handed in -/
def gndT : Ty → Bool
  | .int _ | .bool | .str => true
  | .pair a b => gndT a && gndT b
  | _ => false
mutual
def gndR : RSh → Bool
  | .v t | .st t => gndT t
  | .slc _ | .emp | .nilp => true
  | .agg rs | .tup rs => gndRs rs
  | _ => false
def gndRs : List RSh → Bool
  | [] => true
  | r :: rs => gndR r && gndRs rs
end
def gndO : List (Nat × OSh) → Bool
  | [] => true
  | (_, .row _ t) :: l => gndT t && gndO l
  | _ => false
def vokB (sh : FSh) : Bool := sh.ins.objs.isEmpty && sh.out.ids.isEmpty && gndRs sh.out.st.vals && gndO sh.out.st.objs
/-- A value that is the same whoever owns what. -/
def Same (a : AV) : Prop := ∀ o o' w v, RV o w a v → RV o' w a v
theorem same_gnd : ∀ {t : Ty} {x : t.den} {cs : List AV}, gndT t = true → CR t x cs → ∀ a ∈ cs, Same a
  | .int _, _, _, _, h, a, ha => by cases h; simp at ha; subst ha; intro o o' w v hv; rw [inv_int hv]; exact .fz _ _ (.int _ _)
  | .bool, _, _, _, h, a, ha => by cases h; simp at ha; subst ha; intro o o' w v hv; rw [inv_bool hv]; exact .fz _ _ (.bool _)
  | .str, _, _, _, h, a, ha => by cases h; simp at ha; subst ha; intro o o' w v hv; rw [inv_str hv]; exact .fz _ _ (.str _)
  | .pair a b, x, _, hg, ⟨c1, c2, h, h1, h2⟩, c, hc => by
    subst h
    simp only [gndT, Bool.and_eq_true] at hg
    rcases List.mem_append.1 hc with hc | hc
    · exact same_gnd hg.1 h1 c hc
    · exact same_gnd hg.2 h2 c hc
  | .sl _, _, _, hg, _, _, _ => by cases hg
  | .es _, _, _, hg, _, _, _ => by cases hg
theorem Same_agg {l : List AV} (h : ∀ a ∈ l, Same a) : Same (.agg l) := fun o o' w v hv => by
  obtain ⟨vs, rfl, h1, h2⟩ := inv_agg hv
  exact .agg _ vs h1 fun j hj => h _ (at_mem hj) _ _ _ _ (h2 j hj)
theorem Same_tup {l : List AV} (h : ∀ a ∈ l, Same a) : Same (.tup l) := fun o o' w v hv => by
  obtain ⟨vs, rfl, h1, h2⟩ := inv_tup hv
  exact .tup _ vs h1 fun j hj => h _ (at_mem hj) _ _ _ _ (h2 j hj)
theorem Same_emp : Same .emp := fun o o' w v hv => by obtain ⟨a, rfl⟩ := inv_emp hv; exact .fz _ _ (.emp _)
theorem Same_nilp : Same .nilp := fun o o' w v hv => by rw [inv_nilp hv]; exact .fz _ _ .nilp
theorem Same_slc (b n c : Nat) : Same (.slc b n c) := fun o o' w v hv => by rw [inv_slc hv]; exact .slc _ _ _
section
variable {π : Pi} {ρ : Nat → Nat}
theorem cellsD_CR : ∀ {t : Ty} {x : t.den} {as : List AV}, gndT t = true → RelVs π (cellsD t x) as → CR t x as
  | .pair a b, x, as, hg, h => by
    simp only [gndT, Bool.and_eq_true] at hg
    simp only [cellsD] at h
    obtain ⟨as1, as2, rfl, h1, h2⟩ := RelVs_split h
    exact ⟨as1, as2, rfl, cellsD_CR hg.1 h1, cellsD_CR hg.2 h2⟩
  | .es _, x, as, hg, h => by cases hg
  | .sl _, x, as, hg, h => by cases hg
  | .int _, x, as, hg, h | .bool, x, as, hg, h | .str, x, as, hg, h => by
    simp only [cellsD, RelVs] at h
    obtain ⟨a, as', rfl, g, rfl⟩ := h
    simpa only [RelV] using g
mutual
theorem gndR_same : ∀ (r : RSh) {l l' : List Leaf} {d : DV} {a : AV}, gndR r = true → fillV ρ r l = some (d, l') → RelV π d a → Same a
  | .v t, l, l', d, a, hg, h, hr => by
    cases l with
    | nil => simp [fillV] at h
    | cons x l =>
      obtain ⟨t', x⟩ := x
      simp only [fillV] at h
      cases hc : decide (t' = t) with
      | false => rw [hc] at h; cases h
      | true =>
        rw [hc] at h; cases h
        have := of_decide_eq_true hc; subst this
        simp only [RelV] at hr
        exact same_gnd hg hr a (by simp)
  | .st t, l, l', d, a, hg, h, hr => by
    cases l with
    | nil => simp [fillV] at h
    | cons x l =>
      obtain ⟨t', x⟩ := x
      simp only [fillV] at h
      cases hc : decide (t' = t) with
      | false => rw [hc] at h; cases h
      | true =>
        rw [hc] at h; cases h
        have := of_decide_eq_true hc; subst this
        simp only [RelV] at hr
        obtain ⟨as, rfl, hr⟩ := hr
        exact Same_agg fun a ha => same_gnd hg (cellsD_CR hg hr) a ha
  | .slc k, l, l', d, a, hg, h, hr => by
    simp only [fillV] at h
    cases h
    simp only [RelV] at hr
    rcases hr with ⟨b', c, n, hp, rfl⟩ | ⟨hp, rfl⟩
    · exact Same_slc _ _ _
    · exact Same_emp
  | .emp, l, l', d, a, hg, h, hr => by
    simp only [fillV] at h
    cases h
    simp only [RelV] at hr; subst hr; exact Same_emp
  | .nilp, l, l', d, a, hg, h, hr => by
    simp only [fillV] at h
    cases h
    simp only [RelV] at hr; subst hr; exact Same_nilp
  | .agg rs, l, l', d, a, hg, h, hr => by
    simp only [fillV] at h
    split at h
    · rename_i ds l1 h1
      cases h
      simp only [RelV] at hr
      obtain ⟨as, rfl, hr⟩ := hr
      exact Same_agg (gndRs_same rs hg h1 hr)
    · cases h
  | .tup rs, l, l', d, a, hg, h, hr => by
    simp only [fillV] at h
    split at h
    · rename_i ds l1 h1
      cases h
      simp only [RelV] at hr
      obtain ⟨as, rfl, hr⟩ := hr
      exact Same_tup (gndRs_same rs hg h1 hr)
    · cases h
  | .elm _, _, _, _, _, hg, _, _ => by simp [gndR] at hg
  | .ptr .., _, _, _, _, hg, _, _ => by simp [gndR] at hg
  | .mp _, _, _, _, _, hg, _, _ => by simp [gndR] at hg
  | .nilm, _, _, _, _, hg, _, _ => by simp [gndR] at hg
  | .any, _, _, _, _, hg, _, _ => by simp [gndR] at hg
  | .fn .., _, _, _, _, hg, _, _ => by simp [gndR] at hg
theorem gndRs_same : ∀ (rs : List RSh) {l l' : List Leaf} {ds : List DV} {as : List AV}, gndRs rs = true → fillVs ρ rs l = some (ds, l') → RelVs π ds as → ∀ a ∈ as, Same a
  | [], l, l', ds, as, hg, h, hr => by
    simp only [fillVs] at h
    cases h
    simp only [RelVs] at hr; subst hr
    intro a ha; cases ha
  | r :: rs, l, l', ds, as, hg, h, hr => by
    simp only [gndRs, Bool.and_eq_true] at hg
    simp only [fillVs] at h
    split at h
    · rename_i d l1 h1
      split at h
      · rename_i ds1 l2 h2
        cases h
        simp only [RelVs] at hr
        obtain ⟨a, as', rfl, hr1, hr2⟩ := hr
        intro c hc
        rcases List.mem_cons.1 hc with rfl | hc
        · exact gndR_same r hg.1 h1 hr1
        · exact gndRs_same rs hg.2 h2 hr2 c hc
      · cases h
    · cases h
end
theorem gndO_row : ∀ {os : List (Nat × OSh)} {l l' : List Leaf} {xs : List (Nat × DObj)}, gndO os = true → fillOs ρ os l = some (xs, l') → ∀ b o, (b, o) ∈ xs → ∃ T t y, o = .row T t y ∧ gndT t = true
  | [], l, l', xs, hg, h, b, o, hb => by cases h; cases hb
  | (k, o0) :: os, l, l', xs, hg, h, b, o, hb => by
    cases o0 with
    | row T t =>
      simp only [gndO, Bool.and_eq_true] at hg
      simp only [fillOs] at h
      split at h
      · rename_i x l1 h1
        split at h
        · rename_i xs1 l2 h2
          cases h
          rcases List.mem_cons.1 hb with e | hb
          · cases e
            unfold fillO at h1
            split at h1
            · rename_i he; cases he
            · rename_i he; cases he
            · rename_i t0 t' y l3 he
              cases he
              cases hc : decide (t' = t) with
              | false => rw [hc] at h1; cases h1
              | true =>
                rw [hc] at h1; cases h1
                have := of_decide_eq_true hc; subst this
                exact ⟨_, _, _, rfl, hg.1⟩
            · rename_i he; cases he
            · cases h1
          · exact gndO_row hg.2 h2 b o hb
        · cases h
      · cases h
    | _ => simp [gndO] at hg
end
end Go.Proofs.Ytjoncejabdjekaa.D
