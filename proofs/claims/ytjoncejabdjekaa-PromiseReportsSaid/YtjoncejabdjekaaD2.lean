/- Abstract code as a function over typed values, part 2: what typed values and states stand for. -/
import Derived.Test.YtjoncejabdjekaaD1
set_option linter.unusedVariables false
set_option linter.unusedSimpArgs false
namespace Go.Proofs.Ytjoncejabdjekaa.D
open Go Go.Proofs.Ytjoncejabdjekaa.L

/-! ### Lists of pairs -/
theorem beq_iff {a b : Nat} : Nat.beq a b = true ↔ a = b := ⟨Nat.eq_of_beq_eq_true, fun h => h ▸ Nat.beq_refl a⟩
theorem beq_ne {a b : Nat} (h : a ≠ b) : Nat.beq a b = false := by
  cases hb : Nat.beq a b with
  | false => rfl
  | true => exact absurd (beq_iff.1 hb) h
theorem fnd_rep {α : Type} (l : List (Nat × α)) (b : Nat) (o : α) (c : Nat) : fnd (rep l b o) c = if c = b then some o else fnd l c := by
  induction l with
  | nil =>
    by_cases h : c = b
    · subst h; simp [rep, fnd]
    · simp [rep, fnd, h, beq_ne (Ne.symm h)]
  | cons p l ih =>
    obtain ⟨d, q⟩ := p
    by_cases hd : d = b
    · subst hd
      by_cases h : c = d
      · subst h; simp [rep, fnd]
      · simp [rep, fnd, h, beq_ne (Ne.symm h)]
    · simp only [rep, beq_ne hd, cond_false, fnd]
      by_cases h : d = c
      · subst h; simp [hd]
      · simp only [beq_ne h, cond_false, ih]
theorem fnd_rmv {α : Type} (l : List (Nat × α)) (b c : Nat) : fnd (rmv l b) c = if c = b then none else fnd l c := by
  induction l with
  | nil => simp [rmv, fnd]
  | cons p l ih =>
    obtain ⟨d, q⟩ := p
    by_cases hd : d = b
    · subst hd
      simp only [rmv, Nat.beq_refl, cond_true, ih, fnd]
      by_cases h : c = d
      · simp [h]
      · simp [h, beq_ne (Ne.symm h)]
    · simp only [rmv, beq_ne hd, cond_false, fnd, ih]
      by_cases h : d = c
      · subst h; simp [hd]
      · simp [beq_ne h]
theorem DSt.get_set (S : DSt) (b : Nat) (o : DObj) (c : Nat) : (S.set b o).get c = if c = b then some o else S.get c := fnd_rep _ _ _ _
theorem DSt.get_del (S : DSt) (b c : Nat) : (S.del b).get c = if c = b then none else S.get c := fnd_rmv _ _ _
theorem DSt.get_new (S : DSt) (o : DObj) (c : Nat) : (S.new o).get c = if c = S.nx then some o else S.get c := fnd_rep _ _ _ _

/-! ### Values -/
def CR : (t : Ty) → t.den → List AV → Prop
  | .int k, x, cs => cs = [.int k x]
  | .bool, x, cs => cs = [.bool x]
  | .str, x, cs => cs = [.str x]
  | .sl t, x, cs => (cs = [.emp] ∧ x = []) ∨ ∃ get, cs = [.lst t.w x.length get] ∧ ∀ i, i < x.length → CR t (at0 t x i) (get i)
  | .pair a b, x, cs => ∃ c1 c2, cs = c1 ++ c2 ∧ CR a x.1 c1 ∧ CR b x.2 c2
  | .es _, _, _ => False
def CRs (t : Ty) (l : List t.den) (xs : List (List AV)) : Prop := xs.length = l.length ∧ ∀ i, i < l.length → CR t (at0 t l i) (xs.getD i [])

theorem CR_len : ∀ {t : Ty} {x : t.den} {cs : List AV}, CR t x cs → cs.length = t.w
  | .int _, _, _, h | .bool, _, _, h | .str, _, _, h => by cases h; rfl
  | .sl _, _, _, h => by
    rcases h with ⟨h, _⟩ | ⟨_, h, _⟩ <;> (cases h; rfl)
  | .pair a b, x, _, ⟨c1, c2, h, h1, h2⟩ => by subst h; simp [CR_len h1, CR_len h2, Ty.w]
  | .es _, _, _, h => h.elim
theorem CR_frz : ∀ {t : Ty} {x : t.den} {cs : List AV}, CR t x cs → ∀ a ∈ cs, a.frz = true
  | .int _, _, _, h, a, ha | .bool, _, _, h, a, ha | .str, _, _, h, a, ha => by cases h; simp at ha; subst ha; rfl
  | .sl _, _, _, h, a, ha => by
    rcases h with ⟨h, _⟩ | ⟨_, h, _⟩ <;> (cases h; simp at ha; subst ha; rfl)
  | .pair a b, x, _, ⟨c1, c2, h, h1, h2⟩, c, hc => by
    subst h
    rcases List.mem_append.1 hc with hc | hc
    · exact CR_frz h1 c hc
    · exact CR_frz h2 c hc
  | .es _, _, _, h, _, _ => h.elim
theorem frz_one {a : AV} (h : a.frz = true) : a.one = true := by
  cases a <;> simp [AV.frz] at h <;> rfl

inductive Loc where
  | real (b c n : Nat)
  | virt
  | tok (y : Int)
abbrev Pi := Nat → Option Loc
def Ext (π π' : Pi) : Prop := ∀ b x, π b = some x → π' b = some x
theorem Ext.refl (π : Pi) : Ext π π := fun _ _ h => h
theorem Ext.trans {π π1 π2 : Pi} (h : Ext π π1) (k : Ext π1 π2) : Ext π π2 := fun b x hx => k b x (h b x hx)

mutual
def RelV (π : Pi) : DV → AV → Prop
  | .undef, _ => True
  | .v x, a => CR x.t x.x [a]
  | .emp, a => a = .emp
  | .nilp, a => a = .nilp
  | .nilm, a => a = .nilm
  | .agg ds, a => ∃ as, a = .agg as ∧ RelVs π ds as
  | .tup ds, a => ∃ as, a = .tup as ∧ RelVs π ds as
  | .elm ds, a => ∃ as, a = .elm as ∧ RelVs π ds as
  | .ptr b o, a => ∃ b' c n, π b = some (.real b' c n) ∧ a = .ptr b' o
  | .rptr b k i j, a => ∃ b' c n, π b = some (.real b' c n) ∧ i < n ∧ a = .rptr b' k i j
  | .slc b, a => (∃ b' c n, π b = some (.real b' c n) ∧ a = .slc b' n c) ∨ (π b = some .virt ∧ a = .emp)
  | .mp b, a => ∃ b' c n, π b = some (.real b' c n) ∧ a = .mp b'
  | .stk b, a => ∃ y, π b = some (.tok y) ∧ a = .int .i64 y
  | .fn f ds, a => ∃ as, a = .fn f as ∧ RelVs π ds as
  | .whn g d, a => ∃ a', a = .whn g a' ∧ (g = true → RelV π d a')
def RelVs (π : Pi) : List DV → List AV → Prop
  | [], as => as = []
  | d :: ds, as => ∃ a as', as = a :: as' ∧ RelV π d a ∧ RelVs π ds as'
end
mutual
theorem RelV.ext {π π' : Pi} (h : Ext π π') : ∀ (d : DV) {a : AV}, RelV π d a → RelV π' d a
  | .undef, _, _ => by simp only [RelV]
  | .v x, a, k => by simp only [RelV] at k ⊢; exact k
  | .emp, a, k => by simp only [RelV] at k ⊢; exact k
  | .nilp, a, k => by simp only [RelV] at k ⊢; exact k
  | .nilm, a, k => by simp only [RelV] at k ⊢; exact k
  | .agg ds, a, k => by
    simp only [RelV] at k ⊢; obtain ⟨as, k1, k2⟩ := k; exact ⟨as, k1, RelVs.ext h ds k2⟩
  | .tup ds, a, k => by
    simp only [RelV] at k ⊢; obtain ⟨as, k1, k2⟩ := k; exact ⟨as, k1, RelVs.ext h ds k2⟩
  | .elm ds, a, k => by
    simp only [RelV] at k ⊢; obtain ⟨as, k1, k2⟩ := k; exact ⟨as, k1, RelVs.ext h ds k2⟩
  | .fn f ds, a, k => by
    simp only [RelV] at k ⊢; obtain ⟨as, k1, k2⟩ := k; exact ⟨as, k1, RelVs.ext h ds k2⟩
  | .ptr b o, a, k => by simp only [RelV] at k ⊢; obtain ⟨b', c, n, k1, k2⟩ := k; exact ⟨b', c, n, h _ _ k1, k2⟩
  | .rptr b _ i j, a, k => by simp only [RelV] at k ⊢; obtain ⟨b', c, n, k1, k2⟩ := k; exact ⟨b', c, n, h _ _ k1, k2⟩
  | .slc b, a, k => by
    simp only [RelV] at k ⊢
    rcases k with ⟨b', c, n, k1, k2⟩ | ⟨k1, k2⟩
    · exact .inl ⟨b', c, n, h _ _ k1, k2⟩
    · exact .inr ⟨h _ _ k1, k2⟩
  | .mp b, a, k => by simp only [RelV] at k ⊢; obtain ⟨b', c, n, k1, k2⟩ := k; exact ⟨b', c, n, h _ _ k1, k2⟩
  | .stk b, a, k => by simp only [RelV] at k ⊢; obtain ⟨y, k1, k2⟩ := k; exact ⟨y, h _ _ k1, k2⟩
  | .whn g d, a, k => by simp only [RelV] at k ⊢; obtain ⟨a', k1, k2⟩ := k; exact ⟨a', k1, fun g => RelV.ext h d (k2 g)⟩
theorem RelVs.ext {π π' : Pi} (h : Ext π π') : ∀ (ds : List DV) {as : List AV}, RelVs π ds as → RelVs π' ds as
  | [], as, k => by simp only [RelVs] at k ⊢; exact k
  | d :: ds, as, k => by
    simp only [RelVs] at k ⊢; obtain ⟨a, as', k1, k2, k3⟩ := k; exact ⟨a, as', k1, RelV.ext h d k2, RelVs.ext h ds k3⟩
end
section
variable {π : Pi}
theorem RelVs_len : ∀ {ds : List DV} {as : List AV}, RelVs π ds as → as.length = ds.length
  | [], as, h => by simp only [RelVs] at h; subst h; rfl
  | d :: ds, as, h => by simp only [RelVs] at h; obtain ⟨a, as', rfl, _, h⟩ := h; simp [RelVs_len h]
theorem RelVs_nil : RelVs π [] [] := by simp only [RelVs]
theorem RelVs_cons {d : DV} {ds : List DV} {a : AV} {as : List AV} (h : RelV π d a) (k : RelVs π ds as) : RelVs π (d :: ds) (a :: as) := by
  simp only [RelVs]; exact ⟨a, as, rfl, h, k⟩
theorem RelVs_one {d : DV} {a : AV} (h : RelV π d a) : RelVs π [d] [a] := RelVs_cons h RelVs_nil
theorem RelVs_app : ∀ {ds ds' : List DV} {as as' : List AV}, RelVs π ds as → RelVs π ds' as' → RelVs π (ds ++ ds') (as ++ as')
  | [], _, as, _, h, k => by simp only [RelVs] at h; subst h; exact k
  | d :: ds, _, as, _, h, k => by
    simp only [RelVs] at h; obtain ⟨a, as', rfl, h1, h⟩ := h; exact RelVs_cons h1 (RelVs_app h k)
theorem RelVs_drop : ∀ {ds : List DV} {as : List AV} (n : Nat), RelVs π ds as → RelVs π (ds.drop n) (as.drop n)
  | ds, as, 0, h => by simpa using h
  | [], as, n + 1, h => by simp only [RelVs] at h; subst h; simpa using RelVs_nil
  | d :: ds, as, n + 1, h => by
    simp only [RelVs] at h; obtain ⟨a, as', rfl, h1, h⟩ := h; simpa using RelVs_drop n h
theorem RelVs_take : ∀ {ds : List DV} {as : List AV} (n : Nat), RelVs π ds as → RelVs π (ds.take n) (as.take n)
  | ds, as, 0, h => by simpa using RelVs_nil
  | [], as, n + 1, h => by simp only [RelVs] at h; subst h; simpa using RelVs_nil
  | d :: ds, as, n + 1, h => by
    simp only [RelVs] at h; obtain ⟨a, as', rfl, h1, h⟩ := h; simpa using RelVs_cons h1 (RelVs_take n h)
theorem RelVs_spl {cs vs : List DV} {cs' vs' : List AV} (o : Nat) (h : RelVs π cs cs') (k : RelVs π vs vs') : RelVs π (spl cs o vs) (splice cs' o vs') := by
  unfold spl splice
  rw [RelVs_len k]
  exact RelVs_app (RelVs_take o h) (RelVs_app k (RelVs_drop _ h))
theorem RelVs_at : ∀ {ds : List DV} {as : List AV} (i : Nat) {d : DV} {r : List DV}, RelVs π ds as → ds.drop i = d :: r → i < as.length ∧ RelV π d (at_ as i)
  | [], as, i, d, r, h, hd => by simp at hd
  | d :: ds, as, 0, d', r, h, hd => by
    simp only [RelVs] at h; obtain ⟨a, as', rfl, h1, h⟩ := h; cases hd; exact ⟨by simp, h1⟩
  | d :: ds, as, i + 1, d', r, h, hd => by
    simp only [RelVs] at h; obtain ⟨a, as', rfl, h1, h⟩ := h
    have := RelVs_at i h (by simpa using hd)
    exact ⟨by simpa using this.1, by simpa [at_] using this.2⟩
theorem CR_cells : ∀ {t : Ty} {x : t.den} {cs : List AV}, CR t x cs → RelVs π (cellsD t x) cs
  | .int _, _, _, h => by
    have h' := h; simp only [CR] at h; subst h
    exact RelVs_one (by simp only [RelV]; exact h')
  | .bool, _, _, h => by
    have h' := h; simp only [CR] at h; subst h
    exact RelVs_one (by simp only [RelV]; exact h')
  | .str, _, _, h => by
    have h' := h; simp only [CR] at h; subst h
    exact RelVs_one (by simp only [RelV]; exact h')
  | .sl t, x, cs, h => by
    have h' := h
    rcases h with ⟨h, _⟩ | ⟨_, h, _⟩ <;> (subst h; exact RelVs_one (by simp only [RelV]; exact h'))
  | .pair a b, x, _, ⟨c1, c2, h, h1, h2⟩ => by subst h; exact RelVs_app (CR_cells h1) (CR_cells h2)
  | .es _, _, _, h => h.elim
theorem relv_val {d : DV} {a : AV} (h : RelV π d a) (hd : d.df.all id = true) : RelV π d.val a.val := by
  cases d with
  | undef => simp only [DV.val, RelV]
  | whn g d => simp only [RelV] at h; obtain ⟨a', rfl, h⟩ := h; exact h (by simpa [DV.df] using hd)
  | v x =>
    have e : a.val = a := by
      have := CR_frz (by simpa only [RelV] using h) a (by simp)
      cases a <;> simp [AV.frz] at this <;> rfl
    rw [e]; exact h
  | emp => simp only [RelV] at h; subst h; simp only [DV.val, AV.val, RelV]
  | nilp => simp only [RelV] at h; subst h; simp only [DV.val, AV.val, RelV]
  | nilm => simp only [RelV] at h; subst h; simp only [DV.val, AV.val, RelV]
  | slc b =>
    have h' := h
    simp only [RelV] at h
    rcases h with ⟨b', c, n, _, rfl⟩ | ⟨_, rfl⟩ <;> exact h'
  | agg ds => have h' := h; simp only [RelV] at h; obtain ⟨as, rfl, _⟩ := h; exact h'
  | tup ds => have h' := h; simp only [RelV] at h; obtain ⟨as, rfl, _⟩ := h; exact h'
  | elm ds => have h' := h; simp only [RelV] at h; obtain ⟨as, rfl, _⟩ := h; exact h'
  | fn f ds => have h' := h; simp only [RelV] at h; obtain ⟨as, rfl, _⟩ := h; exact h'
  | ptr b o => have h' := h; simp only [RelV] at h; obtain ⟨_, _, _, _, rfl⟩ := h; exact h'
  | rptr b k i j => have h' := h; simp only [RelV] at h; obtain ⟨_, _, _, _, _, rfl⟩ := h; exact h'
  | mp b => have h' := h; simp only [RelV] at h; obtain ⟨_, _, _, _, rfl⟩ := h; exact h'
  | stk b => have h' := h; simp only [RelV] at h; obtain ⟨_, _, rfl⟩ := h; exact h'
theorem relv_df {d : DV} {a : AV} (h : RelV π d a) (hd : d.df.all id = true) : a.df := by
  cases d with
  | undef => simp [DV.df] at hd
  | whn g d => simp only [RelV] at h; obtain ⟨a', rfl, h⟩ := h; show g = true; simpa [DV.df] using hd
  | v x =>
    have := CR_frz (by simpa only [RelV] using h) a (by simp)
    cases a <;> simp [AV.frz] at this <;> trivial
  | emp => simp only [RelV] at h; subst h; trivial
  | nilp => simp only [RelV] at h; subst h; trivial
  | nilm => simp only [RelV] at h; subst h; trivial
  | slc b =>
    simp only [RelV] at h
    rcases h with ⟨b', c, n, _, rfl⟩ | ⟨_, rfl⟩ <;> trivial
  | agg ds => simp only [RelV] at h; obtain ⟨as, rfl, _⟩ := h; trivial
  | tup ds => simp only [RelV] at h; obtain ⟨as, rfl, _⟩ := h; trivial
  | elm ds => simp only [RelV] at h; obtain ⟨as, rfl, _⟩ := h; trivial
  | fn f ds => simp only [RelV] at h; obtain ⟨as, rfl, _⟩ := h; trivial
  | ptr b o => simp only [RelV] at h; obtain ⟨_, _, _, _, rfl⟩ := h; trivial
  | rptr b k i j => simp only [RelV] at h; obtain ⟨_, _, _, _, _, rfl⟩ := h; trivial
  | mp b => simp only [RelV] at h; obtain ⟨_, _, _, _, rfl⟩ := h; trivial
  | stk b => simp only [RelV] at h; obtain ⟨_, _, rfl⟩ := h; trivial
theorem relv_one {d : DV} {a : AV} (h : RelV π d a) (hd : d.one = true) : a.one = true ∧ cellsOf a = [a] := by
  cases d with
  | v x =>
    have := CR_frz (by simpa only [RelV] using h) a (by simp)
    cases a <;> simp [AV.frz] at this <;> exact ⟨rfl, rfl⟩
  | emp => simp only [RelV] at h; subst h; exact ⟨rfl, rfl⟩
  | nilp => simp only [RelV] at h; subst h; exact ⟨rfl, rfl⟩
  | nilm => simp only [RelV] at h; subst h; exact ⟨rfl, rfl⟩
  | slc b =>
    simp only [RelV] at h
    rcases h with ⟨b', c, n, _, rfl⟩ | ⟨_, rfl⟩ <;> exact ⟨rfl, rfl⟩
  | elm ds => simp only [RelV] at h; obtain ⟨as, rfl, _⟩ := h; exact ⟨rfl, rfl⟩
  | fn f ds => simp only [RelV] at h; obtain ⟨as, rfl, _⟩ := h; exact ⟨rfl, rfl⟩
  | ptr b o => simp only [RelV] at h; obtain ⟨_, _, _, _, rfl⟩ := h; exact ⟨rfl, rfl⟩
  | rptr b k i j => simp only [RelV] at h; obtain ⟨_, _, _, _, _, rfl⟩ := h; exact ⟨rfl, rfl⟩
  | mp b => simp only [RelV] at h; obtain ⟨_, _, _, _, rfl⟩ := h; exact ⟨rfl, rfl⟩
  | _ => simp [DV.one] at hd
theorem relvs_one : ∀ {ds : List DV} {as : List AV}, RelVs π ds as → ds.all DV.one = true → as.all AV.one = true
  | [], as, h, _ => by simp only [RelVs] at h; subst h; rfl
  | d :: ds, as, h, k => by
    simp only [RelVs] at h; obtain ⟨a, as', rfl, h1, h⟩ := h
    simp only [List.all_cons, Bool.and_eq_true] at k ⊢
    exact ⟨(relv_one h1 k.1).1, relvs_one h k.2⟩
theorem relv_cells {d : DV} {a : AV} (h : RelV π d a) (hd : (dcells d).all DV.one = true) : RelVs π (dcells d) (cellsOf a) ∧ (cellsOf a).all AV.one = true := by
  by_cases e : ∃ ds, d = .agg ds
  · obtain ⟨ds, rfl⟩ := e
    simp only [RelV] at h
    obtain ⟨as, rfl, h⟩ := h
    exact ⟨h, relvs_one h hd⟩
  · have e' : dcells d = [d] := by
      cases d <;> first | rfl | (exact absurd ⟨_, rfl⟩ e)
    rw [e'] at hd ⊢
    have := relv_one h (by simpa using hd)
    rw [this.2]
    exact ⟨RelVs_one h, by simpa using this.1⟩

/-! ### Typed values are read -/
theorem dec1_CR {t : Ty} {d : DV} {x : t.den} {a : AV} (h : dec1 none t d = some x) (k : RelV π d a) : CR t x [a] := by
  unfold dec1 at h
  split at h
  · rename_i t' y
    split at h
    · rename_i he; subst he; cases h; simpa only [RelV] using k
    · cases h
  · split at h
    · cases h; simp only [RelV] at k; subst k; exact .inl ⟨rfl, rfl⟩
    · cases h
  · simp at h
  · cases h
theorem dec_CR : ∀ {t : Ty} {ds : List DV} {x : t.den} {rest : List DV} {as : List AV}, dec none t ds = some (x, rest) → RelVs π ds as → ∃ c as', as = c ++ as' ∧ CR t x c ∧ RelVs π rest as'
  | .pair a b, ds, x, rest, as, h, k => by
    simp only [dec] at h
    split at h
    · rename_i y ds1 h1
      split at h
      · rename_i z ds2 h2
        cases h
        obtain ⟨c1, as1, rfl, g1, k1⟩ := dec_CR h1 k
        obtain ⟨c2, as2, rfl, g2, k2⟩ := dec_CR h2 k1
        exact ⟨c1 ++ c2, as2, by simp, ⟨c1, c2, rfl, g1, g2⟩, k2⟩
      · cases h
    · cases h
  | .es _, ds, x, rest, as, h, k => by simp [dec] at h
  | .int _, [], x, rest, as, h, k | .bool, [], x, rest, as, h, k | .str, [], x, rest, as, h, k | .sl _, [], x, rest, as, h, k => by simp [dec] at h
  | .int _, d :: ds, x, rest, as, h, k | .bool, d :: ds, x, rest, as, h, k | .str, d :: ds, x, rest, as, h, k | .sl _, d :: ds, x, rest, as, h, k => by
    simp only [dec] at h
    split at h
    · rename_i y hy
      cases h
      simp only [RelVs] at k
      obtain ⟨a, as', rfl, k1, k2⟩ := k
      exact ⟨[a], as', rfl, dec1_CR hy k1, k2⟩
    · cases h
theorem decAll_CR {t : Ty} {ds : List DV} {x : t.den} {as : List AV} (h : decAll none t ds = some x) (k : RelVs π ds as) : CR t x as := by
  unfold decAll at h
  split at h
  · rename_i y hy
    cases h
    obtain ⟨c, as', rfl, g, k'⟩ := dec_CR hy k
    simp only [RelVs] at k'
    subst k'
    simpa using g
  · cases h
end

/-! ### Maps and rows -/
def MR (ag : Bool) (t : Ty) (x : t.den) (a : AV) : Prop := match ag with
  | true => ∃ cs, a = .agg cs ∧ CR t x cs
  | false => CR t x [a]
def ERs (ag : Bool) (t : Ty) : List (List Int × t.den) → List (List Int × AV) → Prop
  | [], es => es = []
  | (k, x) :: l, es => ∃ a l', es = (k, a) :: l' ∧ MR ag t x a ∧ ERs ag t l l'
section
variable {π : Pi} {ag : Bool} {t : Ty}
theorem MR_mvD {x : t.den} {a : AV} (h : MR ag t x a) : RelV π (mvD ag t x) a := by
  cases ag with
  | true => obtain ⟨cs, rfl, h⟩ := h; simp only [mvD, RelV]; exact ⟨cs, rfl, CR_cells h⟩
  | false => simp only [mvD, RelV]; exact h
theorem mvR_MR {d : DV} {x : t.den} {a : AV} (h : mvR ag t d = some x) (k : RelV π d a) : MR ag t x a := by
  cases ag with
  | true =>
    unfold mvR at h
    split at h
    · simp only [RelV] at k; obtain ⟨as, rfl, k⟩ := k; exact ⟨as, rfl, decAll_CR h k⟩
    · rename_i he; cases he
    · cases h
  | false =>
    simp only [mvR] at h
    exact dec1_CR h k
theorem ERs_len : ∀ {es : List (List Int × t.den)} {es' : List (List Int × AV)}, ERs ag t es es' → es'.length = es.length
  | [], _, h => by simp only [ERs] at h; subst h; rfl
  | (k, x) :: l, _, h => by simp only [ERs] at h; obtain ⟨a, l', rfl, _, h⟩ := h; simp [ERs_len h]
theorem ERs_get : ∀ {es : List (List Int × t.den)} {es' : List (List Int × AV)} (k : List Int), ERs ag t es es' → (kget es k = none ∧ mget es' k = none) ∨ ∃ x a, kget es k = some x ∧ mget es' k = some a ∧ MR ag t x a
  | [], _, k, h => by simp only [ERs] at h; subst h; exact .inl ⟨rfl, rfl⟩
  | (k', x) :: l, _, k, h => by
    simp only [ERs] at h
    obtain ⟨a, l', rfl, h1, h⟩ := h
    by_cases e : k' = k
    · right; exact ⟨x, a, by simp [kget, e], by simp [mget, e], h1⟩
    · have e1 : kget ((k', x) :: l) k = kget l k := by simp [kget, e]
      have e2 : mget ((k', a) :: l') k = mget l' k := by simp [mget, e]
      rw [e1, e2]
      exact ERs_get k h
theorem ERs_put : ∀ {es : List (List Int × t.den)} {es' : List (List Int × AV)} (k : List Int) {x : t.den} {a : AV}, ERs ag t es es' → MR ag t x a → ERs ag t (kput es k x) (mput es' k a)
  | [], _, k, x, a, h, h1 => by simp only [ERs] at h; subst h; simp only [kput, mput, ERs]; exact ⟨a, [], rfl, h1, rfl⟩
  | (k', y) :: l, _, k, x, a, h, h1 => by
    simp only [ERs] at h
    obtain ⟨b, l', rfl, h2, h⟩ := h
    by_cases e : k' = k
    · subst e; simp only [kput, mput, if_true, ERs]; exact ⟨a, l', rfl, h1, h⟩
    · simp only [kput, mput, e, if_false, ERs]; exact ⟨b, _, rfl, h2, ERs_put k h h1⟩
theorem mput_set : ∀ (es : List (List Int × AV)) (k : List Int) (v0 v : AV), (mput es k v0).set (midx es k) (((mput es k v0).getD (midx es k) default).1, v) = mput es k v
  | [], k, v0, v => by simp [mput, midx]
  | (k', u) :: l, k, v0, v => by
    by_cases e : k' = k
    · subst e; simp [mput, midx, List.findIdx_cons]
    · have ih := mput_set l k v0 v
      have e1 : midx ((k', u) :: l) k = midx l k + 1 := by simp [midx, List.findIdx_cons, e]
      rw [e1]
      simp only [mput, e, if_false, List.set_cons_succ, List.getD_cons_succ]
      rw [ih]
theorem isZ1_CR {t : Ty} {z : AV} (h : isZ1 t z = true) : CR t t.zero [z] := by
  unfold isZ1 at h
  split at h
  · simp only [Bool.and_eq_true, ikeq, decide_eq_true_eq] at h; obtain ⟨rfl, rfl⟩ := h; rfl
  · rename_i b; cases b
    · rfl
    · cases h
  · simp only [decide_eq_true_eq] at h; subst h; rfl
  · exact .inl ⟨rfl, rfl⟩
  · cases h
theorem isZs_CR : ∀ {t : Ty} {zs rest : List AV}, isZs t zs = some rest → ∃ c, zs = c ++ rest ∧ CR t t.zero c
  | .pair a b, zs, rest, h => by
    simp only [isZs] at h
    split at h
    · rename_i z1 h1
      obtain ⟨c1, rfl, g1⟩ := isZs_CR h1
      obtain ⟨c2, rfl, g2⟩ := isZs_CR h
      exact ⟨c1 ++ c2, by simp, c1, c2, rfl, g1, g2⟩
    · cases h
  | .es _, zs, rest, h => by simp [isZs] at h
  | .int _, [], _, h | .bool, [], _, h | .str, [], _, h | .sl _, [], _, h => by simp [isZs] at h
  | .int _, z :: zs, rest, h | .bool, z :: zs, rest, h | .str, z :: zs, rest, h | .sl _, z :: zs, rest, h => by
    simp only [isZs] at h
    cases hz : isZ1 _ z with
    | true => rw [hz] at h; cases h; exact ⟨[z], rfl, isZ1_CR hz⟩
    | false => rw [hz] at h; cases h
theorem isZ_MR {z : AV} (h : isZ ag t z = true) : MR ag t t.zero z := by
  unfold isZ at h
  split at h
  · rename_i zs
    split at h
    · rename_i hz; obtain ⟨c, rfl, g⟩ := isZs_CR hz; exact ⟨c, by simp, g⟩
    · cases h
  · exact isZ1_CR h
  · cases h
end
end Go.Proofs.Ytjoncejabdjekaa.D
