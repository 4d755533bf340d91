/- An own program logic over the kit's walk, part 14: which operations change places. -/
import Derived.Test.YtjoncejabdjekaaL13
set_option linter.unusedVariables false
set_option linter.unusedSimpArgs false
namespace Go.Proofs.Ytjoncejabdjekaa.L
open Go

def slots : List Opd → List Nat
  | [] => []
  | .t n :: l => n :: slots l
  | .c _ :: l => slots l
def looks (o : AOper) : List Nat := (match o.grd with
  | some (g, _) => [g]
  | none => []) ++ slots (opnds o.op)

theorem mem_slots {n : Nat} : ∀ {l : List Opd}, Opd.t n ∈ l → n ∈ slots l
  | .t m :: l, h => by
    simp only [List.mem_cons, Opd.t.injEq] at h
    rcases h with rfl | h
    · simp [slots]
    · simp [slots, mem_slots h]
  | .c a :: l, h => by
    have h' : Opd.t n ∈ l := by simpa using h
    exact (show n ∈ slots l from mem_slots h')

/-- Slots that an operation looks at hold the same. -/
def Agr (o : AOper) (e e' : Env) : Prop := ∀ t ∈ looks o, e' t = e t
theorem Agr.refl (o : AOper) (e : Env) : Agr o e e := fun _ _ => rfl
theorem Agr.opd {o : AOper} {e e' : Env} (h : Agr o e e') : ∀ x ∈ opnds o.op, opd e' x = opd e x := fun x hx => by
  cases x with
  | t n => exact h n (by unfold looks; exact List.mem_append_right _ (mem_slots hx))
  | c a => rfl
theorem Agr.grd {o : AOper} {e e' : Env} (h : Agr o e e') {g : Nat} {c : Bool} (hg : o.grd = some (g, c)) : e' g = e g := h g (by simp [looks, hg])
theorem Agr.put {o : AOper} {e e' : Env} (h : Agr o e e') {d : Option Nat} {v : AV} (hd : ∀ x, d = some x → x ∉ looks o) : Agr o e (Env.put e' d v) := fun t ht => by
  cases d with
  | none => exact h t ht
  | some d =>
    have : t ≠ d := fun e => hd d rfl (e ▸ ht)
    simp only [Env.put, Env.set, if_neg this]
    exact h t ht

theorem put_comm (e : Env) {d d' : Option Nat} (v v' : AV) (h : ∀ x, d = some x → d' ≠ some x) : Env.put (Env.put e d v) d' v' = Env.put (Env.put e d' v') d v := by
  cases d with
  | none => rfl
  | some d => cases d' with
    | none => rfl
    | some d' =>
      have hne : d ≠ d' := fun e => h d rfl (e ▸ rfl)
      funext t
      simp only [Env.put, Env.set]
      by_cases h1 : t = d
      · subst h1; simp [hne]
      · by_cases h2 : t = d'
        · subst h2; simp [h1]
        · simp [h1, h2]

section
variable {P : Program} {T : Tbl} {R : Nat → Prop}

theorem keyOf_mono {kn : Nat} {v : AV} {K K' : List Int → Prop} (h : ∀ k, K k → K' k) (hk : keyOf kn v K) : keyOf kn v K' := by
  unfold keyOf at hk
  split at hk
  · exact h _ hk
  · split at hk
    · rename_i l hl; simp only [keyOf, hl]; exact ⟨hk.1, h _ hk.2⟩
    · exact hk.elim
  · exact hk.elim
theorem elems_mono {k : Nat} {s : Store} {v : AV} {K K' : List (List AV) → Prop} (h : ∀ l, K l → K' l) (hk : elems k s v K) : elems k s v K' := by
  unfold elems at hk
  split at hk
  · exact h _ hk
  · exact ⟨hk.1, h _ hk.2⟩
  · split at hk
    · rename_i b n c T k' c' xs hb; simp only [elems, hb]; exact ⟨hk.1, hk.2.1, hk.2.2.1, h _ hk.2.2.2⟩
    · exact hk.elim
  · exact hk.elim

/-- A neutral operation's normal form. -/
theorem neutral_form (o : AOper) (he : isEff o.op = false) (e : Env) (s : Store) :
    (∀ K e', Agr o e e' → ¬ xo P T R o K e' s) ∨ ∃ v q, ∀ K e', Agr o e e' → (xo P T R o K e' s ↔ q ∧ K (Env.put e' o.dst v) s) := by
  cases hg : o.grd with
  | none =>
    rcases nop_det T R o.op (opd e) s with hd | ⟨v, p, hd⟩
    · left
      intro K e' ha h
      unfold xo at h
      simp only [hg, he] at h
      rw [nop_ext (ρ' := opd e) o.op ha.opd] at h
      exact hd _ h
    · right
      refine ⟨v, p, fun K e' ha => ?_⟩
      unfold xo
      simp only [hg, he]
      rw [nop_ext (ρ' := opd e) o.op ha.opd]
      exact hd _
  | some x =>
    obtain ⟨g, c⟩ := x
    cases hb : grdOf c (e g) with
    | some cb =>
      cases cb with
      | true =>
        rcases nop_det T R o.op (opd e) s with hd | ⟨v, p, hd⟩
        · left
          intro K e' ha h
          have hb' : e' g = e g := ha.grd hg
          unfold xo at h
          simp only [hg, he, hb', hb] at h
          rw [nop_ext (ρ' := opd e) o.op ha.opd] at h
          exact hd _ h
        · right
          refine ⟨.whn true v, p, fun K e' ha => ?_⟩
          have hb' : e' g = e g := ha.grd hg
          unfold xo
          simp only [hg, he, hb', hb]
          rw [nop_ext (ρ' := opd e) o.op ha.opd]
          exact hd _
      | false =>
        right
        refine ⟨.whn false .undef, True, fun K e' ha => ?_⟩
        have hb' : e' g = e g := ha.grd hg
        unfold xo
        simp only [hg, he, hb', hb, true_and]
    | none =>
      left
      intro K e' ha h
      have hb' : e' g = e g := ha.grd hg
      unfold xo at h
      simp only [hg, he, hb', hb] at h

theorem isnA_mono {v : AV} {K K' : Bool → Prop} (h : ∀ b, K b → K' b) (hk : isnA v K) : isnA v K' := by
  cases v <;> simp only [isnA] at hk ⊢ <;> first
    | exact fun b hb => h b (hk b hb)
    | exact fun b => h b (hk b)
    | exact h _ hk
theorem eff_mono (o : AOp) (ρ : Opd → AV) (s : Store) {Q Q' : AV → Store → Prop} (h : ∀ r s', Q r s' → Q' r s') (he : eff P R o ρ s Q) : eff P R o ρ s Q' := by
  cases o with
  | alc z => exact fun b h1 h2 => h _ _ (he b h1 h2)
  | box x => exact ⟨he.1, he.2.1, fun b h1 h2 => h _ _ (he.2.2 b h1 h2)⟩
  | sto p v n =>
    simp only [eff] at he ⊢
    refine ⟨he.1, he.2.1, he.2.2.1, he.2.2.2.1, ?_⟩
    have he := he.2.2.2.2
    split
    · split
      · simp only [*] at he; exact ⟨he.1, he.2.1, h _ _ he.2.2⟩
      · simp only [*] at he
    · split
      · simp only [*] at he; exact ⟨he.1, he.2.1, he.2.2.1, he.2.2.2.1, h _ _ he.2.2.2.2⟩
      · simp only [*] at he
    · simp only [*] at he
  | mkm kn T0 => exact fun b h1 h2 => h _ _ (he b h1 h2)
  | mks T k b z n =>
    simp only [eff] at he ⊢
    refine ⟨he.1, ?_⟩
    have he := he.2
    split
    · simp only [*] at he; exact ⟨he.1, he.2.1, fun b h1 h2 => h _ _ (he.2.2 b h1 h2)⟩
    · simp only [*] at he
  | bsr T k xs => exact ⟨he.1, he.2.1, fun b h1 h2 => h _ _ (he.2.2 b h1 h2)⟩
  | app T k b x y =>
    simp only [eff] at he ⊢
    refine ⟨he.1, he.2.1, ?_⟩
    have he := he.2.2
    refine elems_mono (fun ys hq => ?_) he
    split
    · simp only [*] at hq; exact ⟨hq.1, fun h0 => h _ _ (hq.2.1 h0), fun h0 b c h1 h2 h3 => h _ _ (hq.2.2 h0 b c h1 h2 h3)⟩
    · split
      · simp only [*] at hq; exact ⟨hq.1, hq.2.1, hq.2.2.1, hq.2.2.2.1, hq.2.2.2.2.1, hq.2.2.2.2.2.1, fun b c h1 h2 h3 => h _ _ (hq.2.2.2.2.2.2 b c h1 h2 h3)⟩
      · simp only [*] at hq
    · simp only [*] at hq
  | mup kn m key v =>
    simp only [eff] at he ⊢
    refine ⟨he.1, he.2.1, he.2.2.1, ?_⟩
    have he := he.2.2.2
    split
    · split
      · simp only [*] at he
        exact ⟨he.1, he.2.1, keyOf_mono (fun k hk => h _ _ hk) he.2.2⟩
      · simp only [*] at he
    · simp only [*] at he
  | men kn z m key =>
    simp only [eff] at he ⊢
    refine ⟨he.1, he.2.1, ?_⟩
    have he := he.2.2
    split
    · split
      · simp only [*] at he
        exact ⟨he.1, he.2.1, keyOf_mono (fun k hk st => h _ _ (hk st)) he.2.2⟩
      · simp only [*] at he
    · simp only [*] at he
  | ens m st v =>
    simp only [eff] at he ⊢
    refine ⟨he.1, he.2.1, he.2.2.1, ?_⟩
    have he := he.2.2.2
    split
    · split
      · simp only [*] at he; exact ⟨he.1, he.2.1, h _ _ he.2.2⟩
      · simp only [*] at he
    · simp only [*] at he
  | isn ne x => exact ⟨he.1, isnA_mono (fun b => h _ _) he.2⟩
  | xcall f xs => exact ⟨he.1, AC_mono (fun r s' hr => ⟨hr.1, h _ _ hr.2⟩) he.2⟩
  | xcallv f xs =>
    simp only [eff] at he ⊢
    refine ⟨he.1, he.2.1, ?_⟩
    have he := he.2.2
    split
    · simp only [*] at he; exact AC_mono (fun r s' hr => ⟨hr.1, h _ _ hr.2⟩) he
    · simp only [*] at he
  | _ => simp only [eff] at he


theorem eff_frame (o : AOp) (ρ : Opd → AV) (s : Store) {Q : AV → Store → Prop} (he : eff P R o ρ s Q) : eff P R o ρ s (fun r s' => Q r s' ∧ ∀ b, R b → s' b = s b) := by
  have u : ∀ {b : Nat} (x : AObj), ¬ R b → ∀ c, R c → upd s b x c = s c := fun x hb c hc => upd_ne _ _ fun e => hb (e ▸ hc)
  have ud : ∀ {b b' : Nat} (x : AObj), ¬ R b → ¬ R b' → ∀ c, R c → upd (del s b) b' x c = s c := fun {b b'} x hb hb' c hc => by
    have h1 : c ≠ b' := fun e => hb' (e ▸ hc)
    have h2 : c ≠ b := fun e => hb (e ▸ hc)
    rw [upd_ne _ _ h1]
    unfold del
    rw [if_neg h2]
  cases o with
  | alc z => exact fun b h1 h2 => ⟨he b h1 h2, u _ h2⟩
  | box x => exact ⟨he.1, he.2.1, fun b h1 h2 => ⟨he.2.2 b h1 h2, u _ h2⟩⟩
  | sto p v n =>
    simp only [eff] at he ⊢
    refine ⟨he.1, he.2.1, he.2.2.1, he.2.2.2.1, ?_⟩
    have he := he.2.2.2.2
    split
    · split
      · simp only [*] at he; exact ⟨he.1, he.2.1, he.2.2, u _ he.1⟩
      · simp only [*] at he
    · split
      · simp only [*] at he; exact ⟨he.1, he.2.1, he.2.2.1, he.2.2.2.1, he.2.2.2.2, u _ he.2.1⟩
      · simp only [*] at he
    · simp only [*] at he
  | mkm kn T0 => exact fun b h1 h2 => ⟨he b h1 h2, u _ h2⟩
  | mks T k b z n =>
    simp only [eff] at he ⊢
    refine ⟨he.1, ?_⟩
    have he := he.2
    split
    · simp only [*] at he; exact ⟨he.1, he.2.1, fun b h1 h2 => ⟨he.2.2 b h1 h2, u _ h2⟩⟩
    · simp only [*] at he
  | bsr T k xs => exact ⟨he.1, he.2.1, fun b h1 h2 => ⟨he.2.2 b h1 h2, u _ h2⟩⟩
  | app T k b x y =>
    simp only [eff] at he ⊢
    refine ⟨he.1, he.2.1, ?_⟩
    have he := he.2.2
    refine elems_mono (fun ys hq => ?_) he
    split
    · simp only [*] at hq; exact ⟨hq.1, fun h0 => ⟨hq.2.1 h0, fun _ _ => trivial⟩, fun h0 b c h1 h2 h3 => ⟨hq.2.2 h0 b c h1 h2 h3, u _ h2⟩⟩
    · split
      · simp only [*] at hq; exact ⟨hq.1, hq.2.1, hq.2.2.1, hq.2.2.2.1, hq.2.2.2.2.1, hq.2.2.2.2.2.1, fun b c h1 h2 h3 => ⟨hq.2.2.2.2.2.2 b c h1 h2 h3, ud _ hq.2.2.2.2.1 h2⟩⟩
      · simp only [*] at hq
    · simp only [*] at hq
  | mup kn m key v =>
    simp only [eff] at he ⊢
    refine ⟨he.1, he.2.1, he.2.2.1, ?_⟩
    have he := he.2.2.2
    split
    · split
      · simp only [*] at he
        exact ⟨he.1, he.2.1, keyOf_mono (fun k hk => ⟨hk, u _ he.2.1⟩) he.2.2⟩
      · simp only [*] at he
    · simp only [*] at he
  | men kn z m key =>
    simp only [eff] at he ⊢
    refine ⟨he.1, he.2.1, ?_⟩
    have he := he.2.2
    split
    · split
      · simp only [*] at he
        exact ⟨he.1, he.2.1, keyOf_mono (fun k hk st => ⟨hk st, u _ he.2.1⟩) he.2.2⟩
      · simp only [*] at he
    · simp only [*] at he
  | ens m st v =>
    simp only [eff] at he ⊢
    refine ⟨he.1, he.2.1, he.2.2.1, ?_⟩
    have he := he.2.2.2
    split
    · split
      · simp only [*] at he; exact ⟨he.1, he.2.1, he.2.2, u _ he.2.1⟩
      · simp only [*] at he
    · simp only [*] at he
  | isn ne x => exact ⟨he.1, isnA_mono (fun b hk => ⟨hk, fun _ _ => rfl⟩) he.2⟩
  | xcall f xs => exact ⟨he.1, AC_mono (fun r s' hr => ⟨hr.1, hr.2, hr.1⟩) he.2⟩
  | xcallv f xs =>
    simp only [eff] at he ⊢
    refine ⟨he.1, he.2.1, ?_⟩
    have he := he.2.2
    split
    · simp only [*] at he; exact AC_mono (fun r s' hr => ⟨hr.1, hr.2, hr.1⟩) he
    · simp only [*] at he
  | _ => simp only [eff] at he

/-- Operations that only make an object. -/
def isNew : AOp → Bool
  | .alc _ | .box _ | .mkm .. | .bsr .. | .mks .. => true
  | _ => false
theorem eff_new (o : AOp) (h : isNew o = true) (ρ : Opd → AV) (s : Store) {Q : AV → Store → Prop} (he : eff P R o ρ s Q) : eff P R o ρ s (fun r s' => Q r s' ∧ ∀ b, s b ≠ none → s' b = s b) := by
  have u : ∀ {b : Nat} (x : AObj), s b = none → ∀ c, s c ≠ none → upd s b x c = s c := fun x hb c hc => upd_ne _ _ fun e => hc (e ▸ hb)
  cases o with
  | alc z => exact fun b h1 h2 => ⟨he b h1 h2, u _ h1⟩
  | box x => exact ⟨he.1, he.2.1, fun b h1 h2 => ⟨he.2.2 b h1 h2, u _ h1⟩⟩
  | mkm kn T0 => exact fun b h1 h2 => ⟨he b h1 h2, u _ h1⟩
  | mks T k b z n =>
    simp only [eff] at he ⊢
    refine ⟨he.1, ?_⟩
    have he := he.2
    split
    · simp only [*] at he; exact ⟨he.1, he.2.1, fun b h1 h2 => ⟨he.2.2 b h1 h2, u _ h1⟩⟩
    · simp only [*] at he
  | bsr T k xs => exact ⟨he.1, he.2.1, fun b h1 h2 => ⟨he.2.2 b h1 h2, u _ h1⟩⟩
  | _ => simp [isNew] at h

/-- A map's entry that is made with its zero value: what a lookup sees stays. -/
def MenR (z : AV) (x y : Option AObj) : Prop := y = x ∨ ∃ kn es pd es' pd', x = some (.imap kn es pd) ∧ y = some (.imap kn es' pd') ∧ ∀ k, (mget es' k).getD z = (mget es k).getD z
def menZ : AOp → Option AV
  | .men _ z _ _ => some z
  | _ => none
theorem mget_mput : ∀ (es : List (List Int × AV)) (k k' : List Int) (v : AV), mget (mput es k v) k' = if k' = k then some v else mget es k'
  | [], k, k', v => by
    by_cases h : k' = k
    · subst h; simp [mput, mget]
    · simp [mput, mget, h, Ne.symm h]
  | (k1, u) :: l, k, k', v => by
    have ih := mget_mput l k k' v
    by_cases h1 : k1 = k
    · subst h1
      by_cases h : k' = k1
      · subst h; simp [mput, mget]
      · simp [mput, mget, h, Ne.symm h]
    · simp only [mput, if_neg h1]
      by_cases h2 : k1 = k'
      · subst h2; simp [mget, h1]
      · have e1 : mget ((k1, u) :: mput l k v) k' = mget (mput l k v) k' := by simp [mget, h2]
        have e2 : mget ((k1, u) :: l) k' = mget l k' := by simp [mget, h2]
        rw [e1, e2, ih]
theorem eff_men (o : AOp) {z : AV} (h : menZ o = some z) (ρ : Opd → AV) (s : Store) {Q : AV → Store → Prop} (he : eff P R o ρ s Q) : eff P R o ρ s (fun r s' => Q r s' ∧ ∀ b, MenR z (s b) (s' b)) := by
  cases o with
  | men kn z' m key =>
    cases h
    simp only [eff] at he ⊢
    refine ⟨he.1, he.2.1, ?_⟩
    have he := he.2.2
    split
    · rename_i b0 hb0
      simp only [hb0] at he
      split
      · rename_i kn' es pd hsb
        simp only [hsb] at he
        obtain rfl := he.1
        refine ⟨he.1, he.2.1, keyOf_mono (fun k hk st => ⟨hk st, fun c => ?_⟩) he.2.2⟩
        by_cases hc : c = b0
        · subst hc
          exact .inr ⟨_, _, _, _, _, hsb, upd_same _ _ _, fun k' => by
            rw [mget_mput]
            split
            · rename_i e; rw [e]; rfl
            · rfl⟩
        · exact .inl (upd_ne _ _ hc)
      · rename_i hne
        split at he
        · rename_i h1; exact absurd h1 (hne _ _ _)
        · exact he.elim
    · rename_i hne
      split at he
      · rename_i h1; exact absurd h1 (hne _)
      · exact he.elim
  | _ => simp [menZ] at h

/-- What an operation leaves as it was. -/
structure Frm (R : Nat → Prop) (o : AOp) (s s' : Store) : Prop where
  keep : ∀ b, R b → s' b = s b
  new : isNew o = true → ∀ b, s b ≠ none → s' b = s b
  men : ∀ z, menZ o = some z → ∀ b, MenR z (s b) (s' b)
theorem Frm.refl (R : Nat → Prop) (o : AOp) (s : Store) : Frm R o s s := ⟨fun _ _ => rfl, fun _ _ _ => rfl, fun _ _ _ => .inl rfl⟩

theorem eff_frm (o : AOp) (ρ : Opd → AV) (s : Store) {Q : AV → Store → Prop} (he : eff P R o ρ s Q) : eff P R o ρ s (fun r s' => Q r s' ∧ Frm R o s s') := by
  have h1 := eff_frame (P := P) (R := R) o ρ s he
  have h2 : eff P R o ρ s (fun r s' => (Q r s' ∧ ∀ b, R b → s' b = s b) ∧ (isNew o = true → ∀ b, s b ≠ none → s' b = s b)) := by
    cases hn : isNew o with
    | true => exact eff_mono _ _ _ (fun r s' h => ⟨h.1, fun _ => h.2⟩) (eff_new o hn ρ s h1)
    | false => exact eff_mono _ _ _ (fun r s' h => ⟨h, fun h => by cases h⟩) h1
  cases hz : menZ o with
  | some z => exact eff_mono _ _ _ (fun r s' h => ⟨h.1.1.1, h.1.1.2, h.1.2, fun z' hz' => by rw [hz] at hz'; cases hz'; exact h.2⟩) (eff_men o hz ρ s h2)
  | none => exact eff_mono _ _ _ (fun r s' h => ⟨h.1.1, h.1.2, h.2, fun z' hz' => by rw [hz] at hz'; cases hz'⟩) h2

/-- An operation that turns the store: its normal form. -/
theorem eff_form (o : AOper) (he : isEff o.op = true) (e : Env) (s : Store) : ∃ Φ : (AV → Store → Prop) → Prop, (∀ Q Q', (∀ r s', Q r s' → Q' r s') → Φ Q → Φ Q') ∧ (∀ Q, Φ Q → Φ fun r s' => Q r s' ∧ Frm R o.op s s') ∧
    ∀ K e', Agr o e e' → (xo P T R o K e' s ↔ Φ fun r s' => K (Env.put e' o.dst r) s') := by
  cases hg : o.grd with
  | none =>
    refine ⟨fun Q => eff P R o.op (opd e) s Q, fun Q Q' h h1 => eff_mono _ _ _ h h1, fun Q h => eff_frm _ _ _ h, fun K e' ha => ?_⟩
    unfold xo
    simp only [hg, he]
    rw [eff_ext (ρ' := opd e) o.op ha.opd]
  | some x =>
    obtain ⟨g, c⟩ := x
    cases hb : grdOf c (e g) with
    | some cb =>
      refine ⟨fun Q => (cb = true → eff P R o.op (opd e) s Q) ∧ (cb = false → Q .undef s), fun Q Q' h h1 => ⟨fun hc => eff_mono _ _ _ h (h1.1 hc), fun hc => h _ _ (h1.2 hc)⟩, fun Q h => ⟨fun hc => eff_frm _ _ _ (h.1 hc), fun hc => ⟨h.2 hc, Frm.refl _ _ _⟩⟩, fun K e' ha => ?_⟩
      have hb' : e' g = e g := ha.grd hg
      unfold xo
      simp only [hg, he, hb', hb]
      rw [eff_ext (ρ' := opd e) o.op ha.opd]
    | none =>
      refine ⟨fun _ => False, fun _ _ _ h => h, fun _ h => h, fun K e' ha => ⟨fun h => ?_, fun h => h.elim⟩⟩
      have hb' : e' g = e g := ha.grd hg
      unfold xo at h
      simp only [hg, he, hb', hb] at h

theorem xo_mono {o : AOper} {K K' : Env → Store → Prop} (h : ∀ e s, K e s → K' e s) {e : Env} {s : Store} (hx : xo P T R o K e s) : xo P T R o K' e s := by
  cases he : isEff o.op with
  | true =>
    obtain ⟨Φ, m, _, f⟩ := eff_form (P := P) (T := T) (R := R) o he e s
    rw [f _ _ (Agr.refl _ _)] at hx ⊢
    exact m _ _ (fun r s' => h _ _) hx
  | false =>
    rcases neutral_form (P := P) (T := T) (R := R) o he e s with f | ⟨v, q, f⟩
    · exact absurd hx (f _ _ (Agr.refl _ _))
    · rw [f _ _ (Agr.refl _ _)] at hx ⊢
      exact ⟨hx.1, h _ _ hx.2⟩

/-! Operations that read the store. -/
def memReads : AOp → Bool
  | .ld1 .. | .ldn .. | .lkp .. | .lenm .. | .call .. | .callv .. => true
  | _ => false
def frB : AOp → Bool
  | .ld1 _ fr | .ldn _ _ fr | .lkp _ _ _ _ _ fr | .lenm _ fr => fr
  | _ => false

theorem nop_nomem (o : AOp) (h : memReads o = false) (ρ : Opd → AV) (s s' : Store) (K : AV → Prop → Prop) : nop T R o ρ s K = nop T R o ρ s' K := by
  cases o <;> first
    | (simp [memReads] at h; done)
    | simp only [nop]

theorem nop_fr (o : AOp) (h : frB o = true) (ρ : Opd → AV) (s s' : Store) (hs : ∀ b, R b → s' b = s b) {Q : AV → Prop} (hn : nop T R o ρ s fun v ob => ob ∧ Q v) : nop T R o ρ s' fun v ob => ob ∧ Q v := by
  cases o with
  | ld1 x fr =>
    obtain rfl : fr = true := h
    simp only [nop] at hn ⊢
    split at hn
    · exact hn
    · rename_i b o' hx
      split at hn
      · rename_i cs hb; simp only [hs b (hn.1.2.2 trivial), hb]; exact hn
      · exact hn.elim
    · rename_i b k i j hx
      split at hn
      · rename_i T' k' c xs hb; simp only [hs b (hn.2.1.2.2.2 trivial), hb]; exact hn
      · exact hn.elim
    · exact hn.elim
  | ldn x n fr =>
    obtain rfl : fr = true := h
    simp only [nop] at hn ⊢
    split at hn
    · exact hn
    · rename_i b o' hx
      split at hn
      · rename_i cs hb; simp only [hs b (hn.1.2.2 trivial), hb]; exact hn
      · exact hn.elim
    · rename_i b k i j hx
      split at hn
      · rename_i T' k' c xs hb; simp only [hs b (hn.2.1.2.2.2 trivial), hb]; exact hn
      · exact hn.elim
    · exact hn.elim
  | lkp kn ok z m key fr =>
    obtain rfl : fr = true := h
    simp only [nop] at hn ⊢
    split at hn
    · rename_i b hb
      split at hn
      · rename_i ag es pd hsb
        have hRb : R b := by
          obtain ⟨k, hk, _⟩ := keyOf_spec hn.2
          exact hk.1.2.2 trivial
        simp only [hs b hRb, hsb]; exact hn
      · exact hn.elim
    · exact hn.elim
  | lenm m fr =>
    obtain rfl : fr = true := h
    simp only [nop] at hn ⊢
    split at hn
    · rename_i b hb
      split at hn
      · rename_i ag es pd hsb; simp only [hs b (hn.1.2 trivial), hsb]; exact hn
      · exact hn.elim
    · exact hn.elim
  | _ => simp [frB] at h

/-- Reads of objects, not calls. -/
def isLd : AOp → Bool
  | .ld1 .. | .ldn .. | .lkp .. | .lenm .. => true
  | _ => false
theorem nop_ld (o : AOp) (h : isLd o = true) (ρ : Opd → AV) (s s' : Store) (hs : ∀ b, s b ≠ none → s' b = s b) {Q : AV → Prop → Prop} (hn : nop T R o ρ s Q) : nop T R o ρ s' Q := by
  have hs' : ∀ {b x}, s b = some x → s' b = some x := fun {b x} hb => by rw [hs b (by rw [hb]; simp), hb]
  cases o with
  | ld1 x fr =>
    simp only [nop] at hn ⊢
    split at hn
    · exact hn
    · rename_i b o' hx
      split at hn
      · rename_i cs hb; simp only [hs' hb]; exact hn
      · exact hn.elim
    · rename_i b k i j hx
      split at hn
      · rename_i T' k' c xs hb; simp only [hs' hb]; exact hn
      · exact hn.elim
    · exact hn.elim
  | ldn x n fr =>
    simp only [nop] at hn ⊢
    split at hn
    · exact hn
    · rename_i b o' hx
      split at hn
      · rename_i cs hb; simp only [hs' hb]; exact hn
      · exact hn.elim
    · rename_i b k i j hx
      split at hn
      · rename_i T' k' c xs hb; simp only [hs' hb]; exact hn
      · exact hn.elim
    · exact hn.elim
  | lkp kn ok z m key fr =>
    simp only [nop] at hn ⊢
    split at hn
    · rename_i b hb
      split at hn
      · rename_i ag es pd hsb
        simp only [hs' hsb]; exact hn
      · exact hn.elim
    · exact hn.elim
  | lenm m fr =>
    simp only [nop] at hn ⊢
    split at hn
    · rename_i b hb
      split at hn
      · rename_i ag es pd hsb; simp only [hs' hsb]; exact hn
      · exact hn.elim
    · exact hn.elim
  | _ => simp [isLd] at h

/-- A lookup's zero value, if it does not ask whether there is an entry. -/
def lkZ : AOp → Option AV
  | .lkp _ false z _ _ false => some z
  | _ => none
theorem nop_lk (o : AOp) {z : AV} (h : lkZ o = some z) (ρ : Opd → AV) (s s' : Store) (hs : ∀ b, MenR z (s b) (s' b)) {Q : AV → Prop → Prop} (hn : nop T R o ρ s Q) : nop T R o ρ s' Q := by
  cases o with
  | lkp kn ok z' m key fr =>
    cases ok <;> cases fr <;> simp only [lkZ, Option.some.injEq] at h <;> try (cases h; done)
    subst h
    simp only [nop] at hn ⊢
    split at hn
    · rename_i b hb
      split at hn
      · rename_i ag es pd hsb
        rcases hs b with e | ⟨kn2, es2, pd2, es', pd', e1, e2, e3⟩
        · rw [e, hsb]; exact hn
        · rw [hsb] at e1
          cases e1
          simp only [e2, e3]
          exact hn
      · exact hn.elim
    · exact hn.elim
  | _ => simp [lkZ] at h
/-- Zero values that are whole numbers. -/
def zeqB : Option AV → Option AV → Bool
  | some (.int k n), some (.int k' n') => decide (k = k') && decide (n = n')
  | some (.bool b), some (.bool b') => decide (b = b')
  | _, _ => false
theorem zeqB_ok {x y : Option AV} (h : zeqB x y = true) : ∃ z, x = some z ∧ y = some z := by
  unfold zeqB at h
  split at h
  · simp only [Bool.and_eq_true, decide_eq_true_eq] at h; obtain ⟨rfl, rfl⟩ := h; exact ⟨_, rfl, rfl⟩
  · simp only [decide_eq_true_eq] at h; subst h; exact ⟨_, rfl, rfl⟩
  · cases h

/-! New objects. -/
def isAlc : AOp → Bool
  | .alc _ | .box _ | .mkm .. | .bsr .. => true
  | _ => false
def isAlc0 : AOp → Bool
  | .alc _ | .mkm .. => true
  | _ => false

theorem alc_form (o : AOp) (h : isAlc o = true) (ρ : Opd → AV) : ∃ (c : Prop) (mk : Nat → AV) (x : AObj), ∀ s Q, eff P R o ρ s Q ↔ c ∧ ∀ b, s b = none → ¬ R b → Q (mk b) (upd s b x) := by
  cases o with
  | alc z => exact ⟨True, fun b => .ptr b 0, .box z, fun s Q => by simp [eff]⟩
  | box x => exact ⟨(ρ x).df ∧ (cellsOf (ρ x).val).all AV.one = true, fun b => .ptr b 0, .box (cellsOf (ρ x).val), fun s Q => by simp only [eff, and_assoc]⟩
  | mkm kn T0 => exact ⟨True, fun b => .mp b, .imap kn [] none, fun s Q => by simp [eff]⟩
  | bsr T k xs => exact ⟨dfs ρ xs ∧ rowok AV.one k (vals ρ xs), fun b => .slc b xs.length xs.length, .row T k xs.length ((vals ρ xs).map cellsOf), fun s Q => by simp only [eff, and_assoc]⟩
  | _ => simp [isAlc] at h
theorem alc0_form (o : AOp) (h : isAlc0 o = true) (ρ : Opd → AV) : ∃ (mk : Nat → AV) (x : AObj), ∀ s Q, eff P R o ρ s Q ↔ ∀ b, s b = none → ¬ R b → Q (mk b) (upd s b x) := by
  cases o with
  | alc z => exact ⟨fun b => .ptr b 0, .box z, fun s Q => by simp [eff]⟩
  | mkm kn T0 => exact ⟨fun b => .mp b, .imap kn [] none, fun s Q => by simp [eff]⟩
  | _ => simp [isAlc0] at h

theorem upd_comm (s : Store) {b c : Nat} (x y : AObj) (h : b ≠ c) : upd (upd s b x) c y = upd (upd s c y) b x := by
  funext d
  unfold upd
  by_cases h1 : d = c
  · subst h1; simp [Ne.symm h]
  · by_cases h2 : d = b
    · subst h2; simp [h1]
    · simp [h1, h2]

/-- May the first one be carried out behind the second one as well? -/
def apartB (a b : AOper) : Bool :=
  (match a.dst with
   | some d => !(looks b).contains d && b.dst != some d
   | none => true) &&
  (match b.dst with
   | some d => !(looks a).contains d
   | none => true)
def cmB (a b : AOper) : Bool := apartB a b &&
  (if isEff a.op then isEff b.op && isAlc a.op && a.grd.isNone && isAlc0 b.op && b.grd.isNone
   else !isEff b.op || !memReads a.op || (frB a.op && a.grd.isNone) || (isLd a.op && isNew b.op && a.grd.isNone) || (zeqB (lkZ a.op) (menZ b.op) && a.grd.isNone))

theorem apartB_spec {a b : AOper} (h : apartB a b = true) : (∀ d, a.dst = some d → d ∉ looks b) ∧ (∀ d, a.dst = some d → b.dst ≠ some d) ∧ (∀ d, b.dst = some d → d ∉ looks a) := by
  refine ⟨fun d hd => ?_, fun d hd => ?_, fun d hd => ?_⟩ <;> simp [apartB, hd] at h
  · exact h.1.1
  · exact h.1.2
  · exact h.2

theorem xo_comm {a b : AOper} (h : cmB a b = true) {K : Env → Store → Prop} {e : Env} {s : Store} (hx : xo P T R a (xo P T R b K) e s) : xo P T R b (xo P T R a K) e s := by
  simp only [cmB, Bool.and_eq_true] at h
  obtain ⟨hap, hc⟩ := h
  obtain ⟨p1, p2, p3⟩ := apartB_spec hap
  have agb : ∀ {e : Env} (v : AV), Agr b e (Env.put e a.dst v) := fun v => (Agr.refl b _).put p1
  have aga : ∀ {e : Env} (v : AV), Agr a e (Env.put e b.dst v) := fun v => (Agr.refl a _).put p3
  cases hea : isEff a.op with
  | false =>
    rcases neutral_form (P := P) (T := T) (R := R) a hea e s with fa | ⟨va, qa, fa⟩
    · exact absurd hx (fa _ _ (Agr.refl _ _))
    rw [fa _ _ (Agr.refl _ _)] at hx
    obtain ⟨hqa, hx⟩ := hx
    cases heb : isEff b.op with
    | false =>
      rcases neutral_form (P := P) (T := T) (R := R) b heb e s with fb | ⟨vb, qb, fb⟩
      · exact absurd hx (fb _ _ (agb _))
      rw [fb _ _ (agb _)] at hx
      rw [fb _ _ (Agr.refl _ _)]
      refine ⟨hx.1, ?_⟩
      rw [fa _ _ (aga _)]
      exact ⟨hqa, by rw [← put_comm e va vb p2]; exact hx.2⟩
    | true =>
      obtain ⟨Φ, m, fr, fb⟩ := eff_form (P := P) (T := T) (R := R) b heb e s
      rw [fb _ _ (agb _)] at hx
      rw [fb _ _ (Agr.refl _ _)]
      refine m _ _ ?_ (fr _ hx)
      rintro r s' ⟨hk, hs'⟩
      have h1 : xo P T R a (fun e1 _ => K e1 s') (Env.put e b.dst r) s := by
        rw [fa _ _ (aga _)]
        exact ⟨hqa, by rw [← put_comm e va r p2]; exact hk⟩
      rw [hea, heb] at hc
      simp only [Bool.false_eq_true, if_false, Bool.not_true, Bool.false_or, Bool.or_eq_true, Bool.and_eq_true, Bool.not_eq_true'] at hc
      have plain : a.grd.isNone = true → (∀ Q : AV → Prop → Prop, nop T R a.op (opd (Env.put e b.dst r)) s (fun v ob => ob ∧ Q v ob) → nop T R a.op (opd (Env.put e b.dst r)) s' (fun v ob => ob ∧ Q v ob)) → xo P T R a K (Env.put e b.dst r) s' := fun hg hn => by
        have hg : a.grd = none := by simpa using hg
        unfold xo at h1 ⊢
        simp only [hg, hea] at h1 ⊢
        exact hn (fun v _ => K (Env.put (Env.put e b.dst r) a.dst v) s') h1
      rcases hc with ((hc | ⟨hc1, hc2⟩) | ⟨⟨hc1, hc2⟩, hc3⟩) | ⟨hc1, hc2⟩
      · unfold xo at h1 ⊢
        cases hg : a.grd with
        | none =>
          simp only [hg, hea] at h1 ⊢
          rw [nop_nomem a.op hc _ s s'] at h1
          exact h1
        | some x =>
          obtain ⟨g, c⟩ := x
          simp only [hg, hea] at h1 ⊢
          cases hcb : grdOf c (Env.put e b.dst r g) with
          | some cb =>
            cases cb with
            | true =>
              simp only [hcb] at h1 ⊢
              rw [nop_nomem a.op hc _ s s'] at h1
              exact h1
            | false => simp only [hcb] at h1 ⊢; exact h1
          | none => simp only [hcb] at h1
      · have hg : a.grd = none := by simpa using hc2
        unfold xo at h1 ⊢
        simp only [hg, hea] at h1 ⊢
        exact nop_fr a.op hc1 _ s s' hs'.keep h1
      · exact plain hc3 fun Q hn => nop_ld a.op hc1 _ s s' (hs'.new hc2) hn
      · obtain ⟨z, z1, z2⟩ := zeqB_ok hc1
        exact plain hc2 fun Q hn => nop_lk a.op z1 _ s s' (hs'.men z z2) hn
  | true =>
    rw [hea] at hc
    simp only [if_true, Bool.and_eq_true] at hc
    obtain ⟨⟨⟨⟨heb, ha1⟩, ha2⟩, hb1⟩, hb2⟩ := hc
    have hga : a.grd = none := by simpa using ha2
    have hgb : b.grd = none := by simpa using hb2
    unfold xo at hx ⊢
    simp only [hga, hgb, hea, heb] at hx ⊢
    have exa : ∀ r s1 Q, eff P R a.op (opd (Env.put e b.dst r)) s1 Q = eff P R a.op (opd e) s1 Q := fun r s1 Q => eff_ext a.op (aga r).opd Q
    have exb : ∀ r s1 Q, eff P R b.op (opd (Env.put e a.dst r)) s1 Q = eff P R b.op (opd e) s1 Q := fun r s1 Q => eff_ext b.op (agb r).opd Q
    obtain ⟨c, mk, x, f1⟩ := alc_form (P := P) (R := R) a.op ha1 (opd e)
    obtain ⟨mk', x', f2⟩ := alc0_form (P := P) (R := R) b.op hb1 (opd e)
    rw [f1] at hx
    rw [f2]
    intro b2 h2 hR2
    rw [exa, f1]
    refine ⟨hx.1, fun b1 h1 hR1 => ?_⟩
    have hne : b1 ≠ b2 := fun e => by rw [e, upd_same] at h1; cases h1
    rw [upd_ne _ _ hne] at h1
    have := hx.2 b1 h1 hR1
    rw [exb, f2] at this
    have := this b2 (by rw [upd_ne _ _ (Ne.symm hne)]; exact h2) hR2
    rw [put_comm e (mk b1) (mk' b2) p2, upd_comm _ _ _ hne] at this
    exact this
end
end Go.Proofs.Ytjoncejabdjekaa.L
