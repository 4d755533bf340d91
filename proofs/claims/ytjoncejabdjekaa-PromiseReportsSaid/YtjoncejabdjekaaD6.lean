/- Abstract code as a function over typed values, part 6: states are read and told anew. -/
import Derived.Test.YtjoncejabdjekaaD5
set_option linter.unusedVariables false
set_option linter.unusedSimpArgs false
namespace Go.Proofs.Ytjoncejabdjekaa.D
open Go Go.Proofs.Ytjoncejabdjekaa.L

theorem castL_eq {t : Ty} {l : Leaf} {x : t.den} (h : castL t l.t l.x = some x) : l = ⟨t, x⟩ := by
  obtain ⟨t', y⟩ := l
  unfold castL at h
  split at h
  · rename_i he; have he : t' = t := he; subst he; cases h; rfl
  · cases h
theorem toDens_ofDens : ∀ {ts : List Ty} {l : List Leaf} {x : dens ts}, toDens ts l = some x → ofDens ts x = l
  | [], [], x, h => rfl
  | [], _ :: _, x, h => by simp [toDens] at h
  | [t], [], x, h => by simp [toDens] at h
  | [t], [l], x, h => by
    have h : castL t l.t l.x = some x := h
    rw [castL_eq h]; rfl
  | [t], _ :: _ :: _, x, h => by simp [toDens] at h
  | t :: u :: ts, [], x, h => by simp [toDens] at h
  | t :: u :: ts, l :: ls, x, h => by
    simp only [toDens] at h
    split at h
    · rename_i y hy
      split at h
      · rename_i r hr
        cases h
        rw [castL_eq hy]
        simp only [ofDens]
        rw [toDens_ofDens hr]
      · cases h
    · cases h

def locOf (π : Pi) : Option Nat → Option Loc
  | some b => π b
  | none => some .virt
/-- Names that are told anew. -/
def Mt (π : Pi) (nm : Nm) (π2 : Pi) (ρ : Nat → Nat) : Prop := ∀ k x, fnd nm k = some x → ∀ l, locOf π x = some l → π2 (ρ k) = some l
def NmLe (nm nm' : Nm) : Prop := ∀ k x, fnd nm k = some x → fnd nm' k = some x
theorem NmLe.refl (nm : Nm) : NmLe nm nm := fun _ _ h => h
theorem NmLe.trans {a b c : Nm} (h : NmLe a b) (k : NmLe b c) : NmLe a c := fun x y hx => k x y (h x y hx)
theorem Mt.le {π π2 : Pi} {nm nm' : Nm} {ρ : Nat → Nat} (h : Mt π nm' π2 ρ) (k : NmLe nm nm') : Mt π nm π2 ρ := fun a x hx => h a x (k a x hx)

section
variable {π π2 : Pi} {ρ : Nat → Nat}
theorem bindN_inv {nm nm' : Nm} {k b : Nat} (h : bindN nm k b = some nm') : NmLe nm nm' ∧ fnd nm' k = some (some b) := by
  unfold bindN at h
  split at h
  · rename_i hn
    cases h
    refine ⟨fun a x hx => ?_, by simp [fnd]⟩
    by_cases e : k = a
    · subst e; rw [hn] at hx; cases hx
    · simp [fnd, beq_ne e, hx]
  · rename_i b' hb
    cases hc : Nat.beq b' b with
    | false => rw [hc] at h; cases h
    | true => rw [hc] at h; cases h; exact ⟨NmLe.refl _, by rw [hb, beq_iff.1 hc]⟩
  · cases h
theorem bindV_inv {nm nm' : Nm} {k : Nat} (h : bindV nm k = some nm') : NmLe nm nm' ∧ fnd nm' k = some none := by
  unfold bindV at h
  split at h
  · rename_i hn
    cases h
    refine ⟨fun a x hx => ?_, by simp [fnd]⟩
    by_cases e : k = a
    · subst e; rw [hn] at hx; cases hx
    · simp [fnd, beq_ne e, hx]
  · rename_i hb; cases h; exact ⟨NmLe.refl _, hb⟩
  · cases h

mutual
theorem rdV_fill : ∀ (r : RSh) {d : DV} {nm nm' : Nm} {l : List Leaf} {a : AV}, rdV none r d nm = some (l, nm') → RelV π d a →
    NmLe nm nm' ∧ ∀ rest, Mt π nm' π2 ρ → ∃ d2, fillV ρ r (l ++ rest) = some (d2, rest) ∧ RelV π2 d2 a
  | .v t, d, nm, nm', l, a, h, hr => by
    simp only [rdV] at h
    split at h
    · rename_i x hx
      cases h
      exact ⟨NmLe.refl _, fun rest hm => ⟨.v ⟨t, x⟩, by simp [fillV], by simp only [RelV]; exact dec1_CR hx hr⟩⟩
    · cases h
  | .st t, d, nm, nm', l, a, h, hr => by
    cases d with
    | agg ds =>
      simp only [rdV] at h
      split at h
      · rename_i x hx
        cases h
        simp only [RelV] at hr
        obtain ⟨as, rfl, hr⟩ := hr
        exact ⟨NmLe.refl _, fun rest hm => ⟨.agg (cellsD t x), by simp [fillV], by simp only [RelV]; exact ⟨as, rfl, CR_cells (decAll_CR hx hr)⟩⟩⟩
      · cases h
    | _ => simp [rdV] at h
  | .elm t, d, nm, nm', l, a, h, hr => by
    cases d with
    | elm ds =>
      simp only [rdV] at h
      split at h
      · rename_i x hx
        cases h
        simp only [RelV] at hr
        obtain ⟨as, rfl, hr⟩ := hr
        exact ⟨NmLe.refl _, fun rest hm => ⟨.elm (cellsD t x), by simp [fillV], by simp only [RelV]; exact ⟨as, rfl, CR_cells (decAll_CR hx hr)⟩⟩⟩
      · cases h
    | ptr b o => cases o <;> simp [rdV] at h
    | _ => simp [rdV] at h
  | .ptr k o, d, nm, nm', l, a, h, hr => by
    cases d with
    | ptr b o' =>
      simp only [rdV] at h
      cases hc : Nat.beq o o' with
      | false => rw [hc] at h; cases h
      | true =>
        rw [hc] at h
        obtain rfl := beq_iff.1 hc
        simp only [cond_true] at h
        split at h
        · rename_i nm1 hb
          cases h
          obtain ⟨g1, g2⟩ := bindN_inv hb
          simp only [RelV] at hr
          obtain ⟨b', c, n, hp, rfl⟩ := hr
          exact ⟨g1, fun rest hm => ⟨.ptr (ρ k) o, by simp [fillV], by simp only [RelV]; exact ⟨b', c, n, hm _ _ g2 _ hp, rfl⟩⟩⟩
        · cases h
    | _ => simp [rdV] at h
  | .slc k, d, nm, nm', l, a, h, hr => by
    cases d with
    | slc b =>
      simp only [rdV] at h
      split at h
      · rename_i nm1 hb
        cases h
        obtain ⟨g1, g2⟩ := bindN_inv hb
        refine ⟨g1, fun rest hm => ⟨.slc (ρ k), by simp [fillV], ?_⟩⟩
        simp only [RelV] at hr ⊢
        rcases hr with ⟨b', c, n, hp, rfl⟩ | ⟨hp, rfl⟩
        · exact .inl ⟨b', c, n, hm _ _ g2 _ hp, rfl⟩
        · exact .inr ⟨hm _ _ g2 _ hp, rfl⟩
      · cases h
    | emp =>
      simp only [rdV] at h
      split at h
      · rename_i nm1 hb
        cases h
        obtain ⟨g1, g2⟩ := bindV_inv hb
        refine ⟨g1, fun rest hm => ⟨.slc (ρ k), by simp [fillV], ?_⟩⟩
        simp only [RelV] at hr ⊢
        exact .inr ⟨hm _ _ g2 _ rfl, hr⟩
      · cases h
    | _ => simp [rdV] at h
  | .mp k, d, nm, nm', l, a, h, hr => by
    cases d with
    | mp b =>
      simp only [rdV] at h
      split at h
      · rename_i nm1 hb
        cases h
        obtain ⟨g1, g2⟩ := bindN_inv hb
        simp only [RelV] at hr
        obtain ⟨b', c, n, hp, rfl⟩ := hr
        exact ⟨g1, fun rest hm => ⟨.mp (ρ k), by simp [fillV], by simp only [RelV]; exact ⟨b', c, n, hm _ _ g2 _ hp, rfl⟩⟩⟩
      · cases h
    | _ => simp [rdV] at h
  | .nilp, d, nm, nm', l, a, h, hr => by
    cases d with
    | nilp =>
      simp only [rdV] at h
      cases h
      exact ⟨NmLe.refl _, fun rest hm => ⟨.nilp, by simp [fillV], by simp only [RelV] at hr ⊢; exact hr⟩⟩
    | _ => simp [rdV] at h
  | .nilm, d, nm, nm', l, a, h, hr => by
    cases d with
    | nilm =>
      simp only [rdV] at h
      cases h
      exact ⟨NmLe.refl _, fun rest hm => ⟨.nilm, by simp [fillV], by simp only [RelV] at hr ⊢; exact hr⟩⟩
    | _ => simp [rdV] at h
  | .emp, d, nm, nm', l, a, h, hr => by
    cases d with
    | emp =>
      simp only [rdV] at h
      cases h
      exact ⟨NmLe.refl _, fun rest hm => ⟨.emp, by simp [fillV], by simp only [RelV] at hr ⊢; exact hr⟩⟩
    | _ => simp [rdV] at h
  | .any, d, nm, nm', l, a, h, hr => by
    have h' : some (([] : List Leaf), nm) = some (l, nm') := by cases d <;> simpa only [rdV] using h
    cases h'
    exact ⟨NmLe.refl _, fun rest hm => ⟨.undef, by simp [fillV], by simp only [RelV]⟩⟩
  | .agg rs, d, nm, nm', l, a, h, hr => by
    cases d with
    | agg ds =>
      simp only [rdV] at h
      simp only [RelV] at hr
      obtain ⟨as, rfl, hr⟩ := hr
      obtain ⟨g1, g2⟩ := rdVs_fill rs h hr
      refine ⟨g1, fun rest hm => ?_⟩
      obtain ⟨ds2, k1, k2⟩ := g2 rest hm
      exact ⟨.agg ds2, by simp [fillV, k1], by simp only [RelV]; exact ⟨as, rfl, k2⟩⟩
    | _ => simp [rdV] at h
  | .tup rs, d, nm, nm', l, a, h, hr => by
    cases d with
    | tup ds =>
      simp only [rdV] at h
      simp only [RelV] at hr
      obtain ⟨as, rfl, hr⟩ := hr
      obtain ⟨g1, g2⟩ := rdVs_fill rs h hr
      refine ⟨g1, fun rest hm => ?_⟩
      obtain ⟨ds2, k1, k2⟩ := g2 rest hm
      exact ⟨.tup ds2, by simp [fillV, k1], by simp only [RelV]; exact ⟨as, rfl, k2⟩⟩
    | _ => simp [rdV] at h
  | .fn f rs, d, nm, nm', l, a, h, hr => by
    cases d with
    | fn f' ds =>
      simp only [rdV] at h
      cases hc : Nat.beq f f' with
      | false => rw [hc] at h; cases h
      | true =>
        rw [hc] at h
        obtain rfl := beq_iff.1 hc
        simp only [cond_true] at h
        simp only [RelV] at hr
        obtain ⟨as, rfl, hr⟩ := hr
        obtain ⟨g1, g2⟩ := rdVs_fill rs h hr
        refine ⟨g1, fun rest hm => ?_⟩
        obtain ⟨ds2, k1, k2⟩ := g2 rest hm
        exact ⟨.fn f ds2, by simp [fillV, k1], by simp only [RelV]; exact ⟨as, rfl, k2⟩⟩
    | _ => simp [rdV] at h
theorem rdVs_fill : ∀ (rs : List RSh) {ds : List DV} {nm nm' : Nm} {l : List Leaf} {as : List AV}, rdVs none rs ds nm = some (l, nm') → RelVs π ds as →
    NmLe nm nm' ∧ ∀ rest, Mt π nm' π2 ρ → ∃ ds2, fillVs ρ rs (l ++ rest) = some (ds2, rest) ∧ RelVs π2 ds2 as
  | [], ds, nm, nm', l, as, h, hr => by
    cases ds with
    | nil =>
      simp only [rdVs] at h
      cases h
      simp only [RelVs] at hr; subst hr
      exact ⟨NmLe.refl _, fun rest hm => ⟨[], by simp [fillVs], RelVs_nil⟩⟩
    | cons d ds => simp [rdVs] at h
  | r :: rs, ds, nm, nm', l, as, h, hr => by
    cases ds with
    | nil => simp [rdVs] at h
    | cons d ds =>
      simp only [rdVs] at h
      simp only [RelVs] at hr
      obtain ⟨a, as', rfl, hr1, hr2⟩ := hr
      split at h
      · rename_i l1 nm1 h1
        split at h
        · rename_i l2 nm2 h2
          cases h
          obtain ⟨g1, g2⟩ := rdV_fill r h1 hr1
          obtain ⟨g3, g4⟩ := rdVs_fill rs h2 hr2
          refine ⟨g1.trans g3, fun rest hm => ?_⟩
          obtain ⟨d2, k1, k2⟩ := g2 (l2 ++ rest) (hm.le g3)
          obtain ⟨ds2, k3, k4⟩ := g4 rest hm
          exact ⟨d2 :: ds2, by simp only [fillVs, List.append_assoc, k1, k3], RelVs_cons k2 k4⟩
        · cases h
      · cases h
end

/-- One object. -/
theorem rdO_fill {Fr : Store} {S : DSt} {s' : Store} (hS : RelS π Fr S s') {o : OSh} {x : Option Nat} {nm nm' : Nm} {l : List Leaf} (h : rdO S o x nm = some (l, nm')) :
    NmLe nm nm' ∧ (∀ b, x = some b → ∃ o, S.get b = some o) ∧ ∀ k rest, Mt π nm' π2 ρ → (∀ lc, locOf π x = some lc → π2 (ρ k) = some lc) → ∃ o2, fillO ρ o (l ++ rest) = some (o2, rest) ∧ ObR π2 s' (ρ k) o2 := by
  cases x with
  | none =>
    unfold rdO at h
    split at h
    · rename_i T t _
      cases h
      exact ⟨NmLe.refl _, fun b hb => (by cases hb), fun k rest hm hl => ⟨.row T t [], by simp [fillO], .inl ⟨hl _ rfl, rfl⟩⟩⟩
    · rename_i he; cases he
    · cases h
  | some b =>
    unfold rdO at h
    split at h
    · rename_i he; cases he
    · rename_i o' b' he
      cases he
      split at h
      · -- boxT
        rename_i t cs hb
        split at h
        · rename_i x hx
          cases h
          refine ⟨NmLe.refl _, fun b2 hb2 => by cases hb2; exact ⟨_, hb⟩, fun k rest hm hl => ⟨.box (cellsD t x), by simp [fillO], ?_⟩⟩
          obtain ⟨b', c, n, as, h1, h2, h3⟩ := hS.obj _ _ hb
          exact ⟨b', c, n, as, hl _ h1, h2, CR_cells (decAll_CR hx h3)⟩
        · cases h
      · -- box
        rename_i rs cs hb
        obtain ⟨b', c, n, as, h1, h2, h3⟩ := hS.obj _ _ hb
        obtain ⟨g1, g2⟩ := rdVs_fill (π2 := π2) (ρ := ρ) rs h h3
        refine ⟨g1, fun b2 hb2 => by cases hb2; exact ⟨_, hb⟩, fun k rest hm hl => ?_⟩
        obtain ⟨ds2, k1, k2⟩ := g2 rest hm
        exact ⟨.box ds2, by simp [fillO, k1], b', c, n, as, hl _ h1, h2, k2⟩
      · -- row
        rename_i T t T' t' l' hb
        cases hc : (Nat.beq T T' && decide (t = t')) with
        | false => rw [hc] at h; cases h
        | true =>
          rw [hc] at h; cases h
          simp only [Bool.and_eq_true, beq_iff, decide_eq_true_eq] at hc
          obtain ⟨rfl, rfl⟩ := hc
          refine ⟨NmLe.refl _, fun b2 hb2 => by cases hb2; exact ⟨_, hb⟩, fun k rest hm hl => ⟨.row T t l', by simp [fillO], ?_⟩⟩
          rcases hS.obj _ _ hb with ⟨q1, q2⟩ | ⟨b2, c2, xs, hp2, hcap, hs, hr⟩
          · exact .inl ⟨hl _ q1, q2⟩
          · exact .inr ⟨b2, c2, xs, hl _ hp2, hcap, hs, hr⟩
      · -- imap
        rename_i kn ag t kn' ag' t' es hb
        cases hc : (Nat.beq kn kn' && (decide (ag = ag') && decide (t = t'))) with
        | false => rw [hc] at h; cases h
        | true =>
          rw [hc] at h; cases h
          simp only [Bool.and_eq_true, beq_iff, decide_eq_true_eq] at hc
          obtain ⟨rfl, rfl, rfl⟩ := hc
          refine ⟨NmLe.refl _, fun b2 hb2 => by cases hb2; exact ⟨_, hb⟩, fun k rest hm hl => ⟨.imap kn ag t es none, by simp [fillO], ?_⟩⟩
          obtain ⟨b', c, n, es', h1, h2, h3⟩ := hS.obj _ _ hb
          exact ⟨b', c, n, es', hl _ h1, h2, h3⟩
      · cases h
    · cases h
theorem rdOs_fill {Fr : Store} {S : DSt} {s' : Store} (hS : RelS π Fr S s') : ∀ (os : List (Nat × OSh)) {nm nm' : Nm} {l : List Leaf}, rdOs S os nm = some (l, nm') →
    NmLe nm nm' ∧ (∀ k o, (k, o) ∈ os → ∃ x, fnd nm' k = some x ∧ ∀ b, x = some b → ∃ o, S.get b = some o) ∧
    ∀ rest, Mt π nm' π2 ρ → ∃ xs, fillOs ρ os (l ++ rest) = some (xs, rest) ∧ ∀ b o, (b, o) ∈ xs → ObR π2 s' b o
  | [], nm, nm', l, h => by
    cases h
    exact ⟨NmLe.refl _, fun k o hk => by simp at hk, fun rest hm => ⟨[], by simp [fillOs], fun b o hb => by simp at hb⟩⟩
  | (k, o) :: os, nm, nm', l, h => by
    simp only [rdOs] at h
    split at h
    · rename_i x hx
      split at h
      · rename_i l1 nm1 h1
        split at h
        · rename_i l2 nm2 h2
          cases h
          obtain ⟨g1, g2, g3⟩ := rdO_fill (π2 := π2) (ρ := ρ) hS h1
          obtain ⟨k1, k2, k3⟩ := rdOs_fill hS os h2
          refine ⟨g1.trans k1, fun k' o' hk' => ?_, fun rest hm => ?_⟩
          · rcases List.mem_cons.1 hk' with e | hk'
            · cases e; exact ⟨x, (g1.trans k1) _ _ hx, g2⟩
            · exact k2 k' o' hk'
          · obtain ⟨o2, q1, q2⟩ := g3 k (l2 ++ rest) (hm.le k1) (fun lc hl => hm k x ((g1.trans k1) _ _ hx) lc hl)
            obtain ⟨xs, q3, q4⟩ := k3 rest hm
            refine ⟨(ρ k, o2) :: xs, by simp only [fillOs, List.append_assoc, q1, q3], fun b o' hb => ?_⟩
            rcases List.mem_cons.1 hb with e | hb
            · cases e; exact q2
            · exact q4 b o' hb
        · cases h
      · cases h
    · cases h
end

/-! ### The same values under other names -/
theorem RelVs_split {π : Pi} : ∀ {ds ds' : List DV} {as : List AV}, RelVs π (ds ++ ds') as → ∃ as1 as2, as = as1 ++ as2 ∧ RelVs π ds as1 ∧ RelVs π ds' as2
  | [], ds', as, h => ⟨[], as, rfl, RelVs_nil, h⟩
  | d :: ds, ds', as, h => by
    simp only [List.cons_append, RelVs] at h
    obtain ⟨a, as', rfl, g, h⟩ := h
    obtain ⟨as1, as2, rfl, h1, h2⟩ := RelVs_split h
    exact ⟨a :: as1, as2, rfl, RelVs_cons g h1, h2⟩
section
variable {π1 π2 : Pi} {ρ0 ρ : Nat → Nat}
theorem cellsD_any : ∀ {t : Ty} {x : t.den} {as : List AV}, RelVs π1 (cellsD t x) as → RelVs π2 (cellsD t x) as
  | .pair a b, x, as, h => by
    simp only [cellsD] at h ⊢
    obtain ⟨as1, as2, rfl, h1, h2⟩ := RelVs_split h
    exact RelVs_app (cellsD_any h1) (cellsD_any h2)
  | .es _, x, as, h => by
    simp only [cellsD, RelVs] at h ⊢
    obtain ⟨a, as', rfl, _, rfl⟩ := h
    exact ⟨a, [], rfl, by simp only [RelV], rfl⟩
  | .int _, x, as, h | .bool, x, as, h | .str, x, as, h | .sl _, x, as, h => by
    simp only [cellsD, RelVs] at h ⊢
    obtain ⟨a, as', rfl, g, rfl⟩ := h
    exact ⟨a, [], rfl, by simp only [RelV] at g ⊢; exact g, rfl⟩
mutual
theorem fillV_ren (hx : ∀ k l, π1 (ρ0 k) = some l → π2 (ρ k) = some l) : ∀ (r : RSh) {l l' : List Leaf} {d : DV} {a : AV}, fillV ρ0 r l = some (d, l') → RelV π1 d a → ∃ d2, fillV ρ r l = some (d2, l') ∧ RelV π2 d2 a
  | .v t, l, l', d, a, h, hr => by
    cases l with
    | nil => simp [fillV] at h
    | cons x l =>
      simp only [fillV] at h ⊢
      cases hc : decide (x.t = t) with
      | false => rw [hc] at h; cases h
      | true =>
        rw [hc] at h
        cases h
        refine ⟨_, rfl, ?_⟩
        simp only [RelV] at hr ⊢; exact hr
  | .st t, l, l', d, a, h, hr => by
    cases l with
    | nil => simp [fillV] at h
    | cons x l =>
      simp only [fillV] at h ⊢
      cases hc : decide (x.t = t) with
      | false => rw [hc] at h; cases h
      | true =>
        rw [hc] at h
        cases h
        refine ⟨_, rfl, ?_⟩
        simp only [RelV] at hr ⊢
        obtain ⟨as, rfl, hr⟩ := hr
        exact ⟨as, rfl, cellsD_any hr⟩
  | .elm t, l, l', d, a, h, hr => by
    cases l with
    | nil => simp [fillV] at h
    | cons x l =>
      simp only [fillV] at h ⊢
      cases hc : decide (x.t = t) with
      | false => rw [hc] at h; cases h
      | true =>
        rw [hc] at h
        cases h
        refine ⟨_, rfl, ?_⟩
        simp only [RelV] at hr ⊢
        obtain ⟨as, rfl, hr⟩ := hr
        exact ⟨as, rfl, cellsD_any hr⟩
  | .ptr k o, l, l', d, a, h, hr => by
    simp only [fillV] at h ⊢
    cases h
    simp only [RelV] at hr
    obtain ⟨b', c, n, hp, rfl⟩ := hr
    exact ⟨_, rfl, by simp only [RelV]; exact ⟨b', c, n, hx _ _ hp, rfl⟩⟩
  | .slc k, l, l', d, a, h, hr => by
    simp only [fillV] at h ⊢
    cases h
    refine ⟨_, rfl, ?_⟩
    simp only [RelV] at hr ⊢
    rcases hr with ⟨b', c, n, hp, rfl⟩ | ⟨hp, rfl⟩
    · exact .inl ⟨b', c, n, hx _ _ hp, rfl⟩
    · exact .inr ⟨hx _ _ hp, rfl⟩
  | .mp k, l, l', d, a, h, hr => by
    simp only [fillV] at h ⊢
    cases h
    simp only [RelV] at hr
    obtain ⟨b', c, n, hp, rfl⟩ := hr
    exact ⟨_, rfl, by simp only [RelV]; exact ⟨b', c, n, hx _ _ hp, rfl⟩⟩
  | .nilp, l, l', d, a, h, hr => by
    simp only [fillV] at h ⊢
    cases h
    exact ⟨_, rfl, by simp only [RelV] at hr ⊢; exact hr⟩
  | .nilm, l, l', d, a, h, hr => by
    simp only [fillV] at h ⊢
    cases h
    exact ⟨_, rfl, by simp only [RelV] at hr ⊢; exact hr⟩
  | .emp, l, l', d, a, h, hr => by
    simp only [fillV] at h ⊢
    cases h
    exact ⟨_, rfl, by simp only [RelV] at hr ⊢; exact hr⟩
  | .any, l, l', d, a, h, hr => by
    simp only [fillV] at h ⊢
    cases h
    exact ⟨_, rfl, by simp only [RelV]⟩
  | .agg rs, l, l', d, a, h, hr => by
    simp only [fillV] at h ⊢
    split at h
    · rename_i ds l1 h1
      cases h
      simp only [RelV] at hr
      obtain ⟨as, rfl, hr⟩ := hr
      obtain ⟨ds2, k1, k2⟩ := fillVs_ren hx rs h1 hr
      exact ⟨.agg ds2, by rw [k1], by simp only [RelV]; exact ⟨as, rfl, k2⟩⟩
    · cases h
  | .tup rs, l, l', d, a, h, hr => by
    simp only [fillV] at h ⊢
    split at h
    · rename_i ds l1 h1
      cases h
      simp only [RelV] at hr
      obtain ⟨as, rfl, hr⟩ := hr
      obtain ⟨ds2, k1, k2⟩ := fillVs_ren hx rs h1 hr
      exact ⟨.tup ds2, by rw [k1], by simp only [RelV]; exact ⟨as, rfl, k2⟩⟩
    · cases h
  | .fn f rs, l, l', d, a, h, hr => by
    simp only [fillV] at h ⊢
    split at h
    · rename_i ds l1 h1
      cases h
      simp only [RelV] at hr
      obtain ⟨as, rfl, hr⟩ := hr
      obtain ⟨ds2, k1, k2⟩ := fillVs_ren hx rs h1 hr
      exact ⟨.fn f ds2, by rw [k1], by simp only [RelV]; exact ⟨as, rfl, k2⟩⟩
    · cases h
theorem fillVs_ren (hx : ∀ k l, π1 (ρ0 k) = some l → π2 (ρ k) = some l) : ∀ (rs : List RSh) {l l' : List Leaf} {ds : List DV} {as : List AV}, fillVs ρ0 rs l = some (ds, l') → RelVs π1 ds as → ∃ ds2, fillVs ρ rs l = some (ds2, l') ∧ RelVs π2 ds2 as
  | [], l, l', ds, as, h, hr => by
    simp only [fillVs] at h ⊢
    cases h
    simp only [RelVs] at hr; subst hr
    exact ⟨[], rfl, RelVs_nil⟩
  | r :: rs, l, l', ds, as, h, hr => by
    simp only [fillVs] at h ⊢
    split at h
    · rename_i d l1 h1
      split at h
      · rename_i ds1 l2 h2
        cases h
        simp only [RelVs] at hr
        obtain ⟨a, as', rfl, hr1, hr2⟩ := hr
        obtain ⟨d2, k1, k2⟩ := fillV_ren hx r h1 hr1
        obtain ⟨ds2, k3, k4⟩ := fillVs_ren hx rs h2 hr2
        exact ⟨d2 :: ds2, by simp only [k1, k3], RelVs_cons k2 k4⟩
      · cases h
    · cases h
end
theorem fillO_ren (hx : ∀ k l, π1 (ρ0 k) = some l → π2 (ρ k) = some l) {s' : Store} {o : OSh} {k : Nat} {l l' : List Leaf} {x : DObj} (h : fillO ρ0 o l = some (x, l')) (hr : ObR π1 s' (ρ0 k) x) :
    ∃ x2, fillO ρ o l = some (x2, l') ∧ ObR π2 s' (ρ k) x2 := by
  cases o with
  | boxT t =>
    cases l with
    | nil => simp [fillO] at h
    | cons y l =>
      simp only [fillO] at h ⊢
      cases hc : decide (y.t = t) with
      | false => rw [hc] at h; cases h
      | true =>
        rw [hc] at h
        cases h
        obtain ⟨b', c, n, as, h1, h2, h3⟩ := hr
        exact ⟨_, rfl, b', c, n, as, hx _ _ h1, h2, cellsD_any h3⟩
  | box rs =>
    simp only [fillO] at h ⊢
    split at h
    · rename_i ds l1 h1
      cases h
      obtain ⟨b', c, n, as, g1, g2, g3⟩ := hr
      obtain ⟨ds2, k1, k2⟩ := fillVs_ren hx rs h1 g3
      exact ⟨.box ds2, by rw [k1], b', c, n, as, hx _ _ g1, g2, k2⟩
    · cases h
  | row T t =>
    unfold fillO at h ⊢
    split at h
    · rename_i he; cases he
    · rename_i he; cases he
    · rename_i t' y l1 he
      cases he
      cases hc : decide (t' = t) with
      | false => rw [hc] at h; cases h
      | true =>
        rw [hc] at h
        cases h
        refine ⟨.row T t' y, by simp only [hc, cond_true], ?_⟩
        rcases hr with ⟨q1, q2⟩ | ⟨b2, c2, xs, hp2, hcap, hs, hr⟩
        · exact .inl ⟨hx _ _ q1, q2⟩
        · exact .inr ⟨b2, c2, xs, hx _ _ hp2, hcap, hs, hr⟩
    · rename_i he; cases he
    · cases h
  | imap kn ag t =>
    unfold fillO at h ⊢
    split at h
    · rename_i he; cases he
    · rename_i he; cases he
    · rename_i he; cases he
    · rename_i t' y l1 he
      cases he
      cases hc : decide (t' = t) with
      | false => rw [hc] at h; cases h
      | true =>
        rw [hc] at h
        cases h
        refine ⟨.imap kn ag t' y none, by simp only [hc, cond_true], ?_⟩
        obtain ⟨b', c, n, es', h1, h2, h3⟩ := hr
        exact ⟨b', c, n, es', hx _ _ h1, h2, h3⟩
    · cases h
theorem fillOs_ren (hx : ∀ k l, π1 (ρ0 k) = some l → π2 (ρ k) = some l) {s' : Store} : ∀ (os : List (Nat × OSh)) {l l' : List Leaf} {xs : List (Nat × DObj)}, fillOs ρ0 os l = some (xs, l') → (∀ b o, (b, o) ∈ xs → ObR π1 s' b o) →
    ∃ xs2, fillOs ρ os l = some (xs2, l') ∧ ∀ b2 o2, (b2, o2) ∈ xs2 → ∃ k o, b2 = ρ k ∧ (ρ0 k, o) ∈ xs ∧ ObR π2 s' b2 o2
  | [], l, l', xs, h, hr => by
    simp only [fillOs] at h ⊢
    cases h
    exact ⟨[], rfl, fun b o hb => by simp at hb⟩
  | (k, o) :: os, l, l', xs, h, hr => by
    simp only [fillOs] at h ⊢
    split at h
    · rename_i x l1 h1
      split at h
      · rename_i xs1 l2 h2
        cases h
        obtain ⟨x2, g1, g2⟩ := fillO_ren (k := k) hx h1 (hr _ _ (by simp))
        obtain ⟨xs2, g3, g4⟩ := fillOs_ren hx os h2 (fun b o hb => hr b o (by simp [hb]))
        refine ⟨(ρ k, x2) :: xs2, by simp only [g1, g3], fun b2 o2 hb => ?_⟩
        rcases List.mem_cons.1 hb with e | hb
        · cases e; exact ⟨k, x, rfl, by simp, g2⟩
        · obtain ⟨k', o', q1, q2, q3⟩ := g4 b2 o2 hb
          exact ⟨k', o', q1, by simp [q2], q3⟩
      · cases h
    · cases h
end
end Go.Proofs.Ytjoncejabdjekaa.D
