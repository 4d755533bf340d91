/- Abstract code as a function over typed values, part 3: states; operations that leave the state as it is. -/
import Derived.Test.YtjoncejabdjekaaD2
set_option linter.unusedVariables false
set_option linter.unusedSimpArgs false
namespace Go.Proofs.Ytjoncejabdjekaa.D
open Go Go.Proofs.Ytjoncejabdjekaa.L

def ObR (π : Pi) (s' : Store) (b : Nat) : DObj → Prop
  | .box ds => ∃ b' c n as, π b = some (.real b' c n) ∧ s' b' = some (.box as) ∧ RelVs π ds as
  | .row T t l => (π b = some .virt ∧ l = []) ∨ ∃ b' c xs, π b = some (.real b' c l.length) ∧ l.length ≤ c ∧ s' b' = some (.row T t.w c xs) ∧ CRs t l xs
  | .imap kn ag t es pd => ∃ b' c n es', π b = some (.real b' c n) ∧ ERs ag t es es' ∧ (match pd with
    | none => s' b' = some (.imap kn es' none)
    | some (tk, key, v0) => ∃ y v0', π tk = some (.tok y) ∧ MR ag t v0 v0' ∧ s' b' = some (.imap kn (mput es' key v0') (some (y, midx es' key))))
structure RelS (π : Pi) (Fr : Store) (S : DSt) (s' : Store) : Prop where
  obj : ∀ b o, S.get b = some o → ObR π s' b o
  inj : ∀ b1 b2 o1 o2 b' c1 n1 c2 n2, S.get b1 = some o1 → S.get b2 = some o2 → π b1 = some (.real b' c1 n1) → π b2 = some (.real b' c2 n2) → b1 = b2
  frm : ∀ b' x, Fr b' = some x → s' b' = some x
  out : ∀ b o b' c n, S.get b = some o → π b = some (.real b' c n) → Fr b' = none
  nx : ∀ b, S.nx ≤ b → π b = none
def RelE (π : Pi) (e : DEnv) (e' : Env) : Prop := ∀ t d, fnd e t = some d → RelV π d (e' t)

/-- The objects that a region holds. -/
structure HR (π : Pi) (S : DSt) (RD : List Nat) (R : Nat → Prop) : Prop where
  live : ∀ b, RD.any (Nat.beq b) = true → ∃ o, S.get b = some o ∧ ∃ l, π b = some l
  to : ∀ b b' c n, RD.any (Nat.beq b) = true → π b = some (.real b' c n) → R b'
  of : ∀ b', R b' → ∃ b c n, RD.any (Nat.beq b) = true ∧ π b = some (.real b' c n)

theorem frOk_R {π : Pi} {S : DSt} {RD : List Nat} {R : Nat → Prop} (h : HR π S RD R) {fr : Bool} {b b' c n : Nat} (hf : frOk fr RD b = true) (hp : π b = some (.real b' c n)) : fr = true → R b' := by
  intro hfr; subst hfr; exact h.to b b' c n hf hp
theorem notIn_R {π : Pi} {Fr : Store} {S : DSt} {s' : Store} (hS : RelS π Fr S s') {RD : List Nat} {R : Nat → Prop} (h : HR π S RD R) {b b' c n : Nat} {o : DObj} (hb : S.get b = some o) (hn : notIn RD b = true) (hp : π b = some (.real b' c n)) : ¬ R b' := fun hR => by
  obtain ⟨b2, c2, n2, h2, hp2⟩ := h.of b' hR
  obtain ⟨o2, ho2, _⟩ := h.live b2 h2
  have := hS.inj b b2 o o2 b' c n c2 n2 hb ho2 hp hp2
  subst this
  simp [notIn, h2] at hn

section
variable {π : Pi} {Fr : Store} {S : DSt} {s' : Store} {RD : List Nat} {R : Nat → Prop} {ρ : Opd → DV} {ρ' : Opd → AV}

theorem ival_inv {d : DV} {k : IntKind} {n : Int} {a : AV} (h : ival d = some (k, n)) (r : RelV π d a) : a = .int k n := by
  unfold ival at h
  split at h
  · cases h; simp only [RelV, CR] at r; simpa using r
  · cases h
theorem bval_inv {d : DV} {b : Bool} {a : AV} (h : bval d = some b) (r : RelV π d a) : a = .bool b := by
  unfold bval at h
  split at h
  · cases h; simp only [RelV, CR] at r; simpa using r
  · cases h
theorem sval_inv {d : DV} {b : ByteArray} {a : AV} (h : sval d = some b) (r : RelV π d a) : a = .str b := by
  unfold sval at h
  split at h
  · cases h; simp only [RelV, CR] at r; simpa using r
  · cases h
theorem relv_int (k : IntKind) (n : Int) : RelV π (mkI k n) (.int k n) := by simp only [mkI, RelV, CR]
theorem relv_bool (b : Bool) : RelV π (mkB b) (.bool b) := by simp only [mkB, RelV, CR]
theorem relv_str (b : ByteArray) : RelV π (mkS b) (.str b) := by simp only [mkS, RelV, CR]
theorem ikeq_eq {k k' : IntKind} (h : ikeq k k' = true) : k = k' := by simpa [ikeq] using h
theorem fits_okk {k : IntKind} {n : Int} (h : fits k n = true) : okk k n := by simpa [fits, okk] using h

theorem const1_rel (a : AV) : RelV π (const1 a) a := by
  unfold const1
  split <;> simp only [mkI, mkB, mkS, RelV, CR]
  exact ⟨[], rfl, RelVs_nil⟩
theorem consts_rel : ∀ (l : List AV), RelVs π (l.map const1) l
  | [] => RelVs_nil
  | a :: l => RelVs_cons (const1_rel a) (consts_rel l)
theorem constD_rel (a : AV) : RelV π (constD a) a := by
  unfold constD
  split
  · rename_i cs; simp only [RelV]; exact ⟨cs, rfl, consts_rel cs⟩
  · exact const1_rel a
theorem opd_rel {e : DEnv} {e' : Env} (h : RelE π e e') (x : Opd) : RelV π (opdD e x) (opd e' x) := by
  cases x with
  | t n =>
    simp only [opdD, opd, DEnv.get]
    cases hf : fnd e n with
    | none => simp only [RelV]
    | some d => exact h n d hf
  | c a => exact constD_rel a

theorem all_app {a b : List Bool} (h : (a ++ b).all id = true) : a.all id = true ∧ b.all id = true := by
  simpa [List.all_append, Bool.and_eq_true] using h
theorem drop_at {as : List AV} {o : Nat} {a : AV} {r : List AV} (h : as.drop o = a :: r) : at_ as o = a ∧ o + 1 ≤ as.length := by
  have hlt : o < as.length := by
    rcases Nat.lt_or_ge o as.length with h' | h'
    · exact h'
    · rw [List.drop_eq_nil_of_le h'] at h; cases h
  rw [List.drop_eq_getElem_cons hlt] at h
  cases h
  exact ⟨by simp [at_, List.getD_eq_getElem?_getD, hlt], hlt⟩

/-- Operators. -/
theorem dbin_sound {ex : Bool} {op : BinOp} {a b d : DV} {ob : List Bool} {a' b' : AV} (h : dbin ex op a b = some (d, ob)) (ho : ob.all id = true) (ha : RelV π a a') (hb : RelV π b b') :
    ∃ v p, RelV π d v ∧ p ∧ ∀ K : AV → Prop → Prop, K v p → binv ex op a' b' K := by
  unfold dbin at h
  split at h
  · rename_i k x k' y h1 h2
    obtain rfl := ival_inv h1 ha
    obtain rfl := ival_inv h2 hb
    have ar : ∀ n, darith ex k n = (d, ob) → ∃ v p, RelV π d v ∧ p ∧ ∀ K : AV → Prop → Prop, K v p → arith ex k n K := fun n hn => by
      cases ex with
      | true =>
        simp only [darith, Prod.mk.injEq] at hn
        obtain ⟨rfl, rfl⟩ := hn
        exact ⟨_, _, relv_int _ _, fits_okk (by simpa using ho), fun K hk => hk⟩
      | false =>
        simp only [darith, Prod.mk.injEq] at hn
        obtain ⟨rfl, rfl⟩ := hn
        exact ⟨_, _, relv_int _ _, trivial, fun K hk => hk⟩
    cases op <;> simp only [dbinI] at h <;> first
      | (cases h; done)
      | (simp only [Option.some.injEq, Prod.mk.injEq] at h
         obtain ⟨rfl, rfl⟩ := h
         exact ⟨_, _, relv_int _ _, by simpa using ho, fun K hk => hk⟩)
      | (cases hk : ikeq k k' with
         | false => rw [hk] at h; cases h
         | true =>
           rw [hk] at h
           obtain rfl := ikeq_eq hk
           simp only [cond_true, Option.some.injEq, Prod.mk.injEq] at h
           first
             | (obtain ⟨v, p, g1, g2, g3⟩ := ar _ h; exact ⟨v, p, g1, g2, fun K hk => ⟨rfl, g3 K hk⟩⟩)
             | (obtain ⟨rfl, rfl⟩ := h
                refine ⟨_, _, relv_int _ _, ?_, fun K hk => ⟨rfl, hk⟩⟩
                first | trivial | (simp only [List.all_cons, List.all_nil, id, Bool.and_true, Bool.and_eq_true, decide_eq_true_eq] at ho; first | exact ⟨ho.1, fits_okk ho.2⟩ | exact ho))
             | (obtain ⟨rfl, rfl⟩ := h
                exact ⟨_, _, relv_bool _, trivial, fun K hk => ⟨rfl, hk⟩⟩)
             | cases h)
      | skip
  · split at h
    · rename_i x y h1 h2
      obtain rfl := sval_inv h1 ha
      obtain rfl := sval_inv h2 hb
      cases op <;> simp only [dbinS] at h <;> first
        | (cases h; done)
        | (simp only [Option.some.injEq, Prod.mk.injEq] at h
           obtain ⟨rfl, rfl⟩ := h
           first
             | exact ⟨_, _, relv_bool _, trivial, fun K hk => hk⟩
             | exact ⟨_, _, relv_str _, by simpa using ho, fun K hk => hk⟩)
    · cases h

theorem eqI_sound : ∀ {as bs : List DV} {acc b : Bool} {as' bs' : List AV}, eqI as bs acc = some b → RelVs π as as' → RelVs π bs bs' → ∀ K : Bool → Prop, K b → eqInts as' bs' acc K
  | [], [], acc, b, as', bs', h, ha, hb, K, hk => by
    simp only [RelVs] at ha hb; subst ha; subst hb; cases h; exact hk
  | a :: l, c :: l', acc, b, as', bs', h, ha, hb, K, hk => by
    simp only [RelVs] at ha hb
    obtain ⟨a1, r1, rfl, g1, ha⟩ := ha
    obtain ⟨a2, r2, rfl, g2, hb⟩ := hb
    simp only [eqI] at h
    split at h
    · rename_i x y h1 h2
      obtain rfl := ival_inv h1 g1
      obtain rfl := ival_inv h2 g2
      exact ⟨rfl, rfl, eqI_sound h ha hb K hk⟩
    · cases h
  | [], _ :: _, acc, b, as', bs', h, ha, hb, K, hk => by simp [eqI] at h
  | _ :: _, [], acc, b, as', bs', h, ha, hb, K, hk => by simp [eqI] at h

/-- Cells behind a pointer. -/
theorem ldCells_sound (hS : RelS π Fr S s') (hH : HR π S RD R) {fr : Bool} {d : DV} {cs : List DV} {a : AV} (h : ldCells S RD fr d = some cs) (r : RelV π d a) :
    (∃ as, a = .elm as ∧ RelVs π cs as) ∨ (∃ b' o as, a = .ptr b' o ∧ s' b' = some (.box as) ∧ RelVs π cs (as.drop o) ∧ o ≤ as.length ∧ (fr = true → R b')) ∨
    (∃ b' k i j T c xs, a = .rptr b' k i j ∧ s' b' = some (.row T k c xs) ∧ i < xs.length ∧ j ≤ k ∧ (xs.getD i []).length = k ∧ RelVs π cs ((xs.getD i []).drop j) ∧ (fr = true → R b')) := by
  unfold ldCells at h
  split at h
  · cases h; simp only [RelV] at r; obtain ⟨as, rfl, r⟩ := r; exact .inl ⟨as, rfl, r⟩
  · rename_i b o
    split at h
    · rename_i ds hb
      cases hc : (frOk fr RD b && leb o ds.length) with
      | false => rw [hc] at h; cases h
      | true =>
        rw [hc] at h; cases h
        simp only [Bool.and_eq_true, leb, Nat.ble_eq] at hc
        simp only [RelV] at r
        obtain ⟨b', c, n, hp, rfl⟩ := r
        obtain ⟨b2, c2, n2, as, hp2, hs, hr⟩ := hS.obj _ _ hb
        rw [hp] at hp2; cases hp2
        exact .inr (.inl ⟨b', o, as, rfl, hs, RelVs_drop o hr, by rw [RelVs_len hr]; exact hc.2, frOk_R hH hc.1 hp⟩)
    · cases h
  · rename_i b k i j
    split at h
    · rename_i T t l hb
      cases hc : (frOk fr RD b && Nat.beq t.w k && leb j k) with
      | false => rw [hc] at h; cases h
      | true =>
        rw [hc] at h; cases h
        simp only [Bool.and_eq_true, leb, Nat.ble_eq, beq_iff] at hc
        obtain ⟨⟨h1, rfl⟩, h3⟩ := hc
        simp only [RelV] at r
        obtain ⟨b', c, n, hp, hi, rfl⟩ := r
        rcases hS.obj _ _ hb with ⟨g1, _⟩ | ⟨b2, c2, xs, hp2, hcap, hs, hx⟩
        · rw [hp] at g1; cases g1
        · rw [hp] at hp2; cases hp2
          have hi' : i < xs.length := by rw [hx.1]; exact hi
          exact .inr (.inr ⟨b', t.w, i, j, T, c, xs, rfl, hs, hi', h3, CR_len (hx.2 i hi), RelVs_drop j (CR_cells (hx.2 i hi)), frOk_R hH h1 hp⟩)
    · cases h
  · cases h

theorem dvals_rel (hρ : ∀ x, RelV π (ρ x) (ρ' x)) : ∀ {xs : List Opd}, (allDf ρ xs).all id = true → RelVs π (dvals ρ xs) (vals ρ' xs) ∧ dfs ρ' xs
  | [], _ => ⟨RelVs_nil, trivial⟩
  | x :: xs, h => by
    simp only [allDf] at h
    obtain ⟨h1, h2⟩ := all_app h
    obtain ⟨g1, g2⟩ := dvals_rel hρ h2
    exact ⟨RelVs_cons (relv_val (hρ x) h1) g1, relv_df (hρ x) h1, g2⟩
theorem dparts_rel (hρ : ∀ x, RelV π (ρ x) (ρ' x)) : ∀ {ps : List (Nat × Nat × Opd)} {z cs : List DV} {ob : List Bool} {z' : List AV}, dparts ρ z ps = some (cs, ob) → ob.all id = true → RelVs π z z' →
    RelVs π cs (fillA z' (pvals ρ' ps)) ∧ pok ρ' ps
  | [], z, cs, ob, z', h, ho, hz => by cases h; exact ⟨hz, trivial⟩
  | (o, n, x) :: l, z, cs, ob, z', h, ho, hz => by
    simp only [dparts] at h
    cases hc : (Nat.beq (dcells (ρ x).val).length n && (dcells (ρ x).val).all DV.one) with
    | false => rw [hc] at h; cases h
    | true =>
      rw [hc] at h
      simp only [cond_true] at h
      split at h
      · rename_i z1 ob1 h1
        cases h
        simp only [Bool.and_eq_true, beq_iff] at hc
        obtain ⟨o1, o2⟩ := all_app ho
        obtain ⟨g1, g2⟩ := relv_cells (relv_val (hρ x) o1) hc.2
        obtain ⟨k1, k2⟩ := dparts_rel hρ h1 o2 (RelVs_spl o hz g1)
        exact ⟨k1, relv_df (hρ x) o1, by rw [RelVs_len g1]; exact hc.1, g2, k2⟩
      · cases h
theorem dkeyL_inv : ∀ {ds : List DV} {k : List Int} {as : List AV}, dkeyL ds = some k → RelVs π ds as → intsOf as = some k
  | [], k, as, h, r => by simp only [RelVs] at r; subst r; cases h; rfl
  | d :: ds, k, as, h, r => by
    simp only [RelVs] at r
    obtain ⟨a, as', rfl, g, r⟩ := r
    simp only [dkeyL] at h
    split at h
    · rename_i n hn
      split at h
      · rename_i r' hr
        cases h
        obtain rfl := ival_inv hn g
        simp only [intsOf, dkeyL_inv hr r]
      · cases h
    · cases h
theorem dkey_inv {kn : Nat} {d : DV} {k : List Int} {a : AV} (h : dkey kn d = some k) (r : RelV π d a) (K : List Int → Prop) (hk : K k) : L.keyOf kn a K := by
  cases kn with
  | zero =>
    simp only [dkey] at h
    split at h
    · rename_i n hn; cases h; obtain rfl := ival_inv hn r; exact hk
    · cases h
  | succ m =>
    simp only [dkey] at h
    split at h
    · rename_i cs
      split at h
      · rename_i l hl
        cases hc : Nat.beq l.length (m + 1) with
        | false => rw [hc] at h; cases h
        | true =>
          rw [hc] at h; cases h
          simp only [RelV] at r
          obtain ⟨as, rfl, r⟩ := r
          simp only [L.keyOf, dkeyL_inv hl r]
          exact ⟨beq_iff.1 hc, hk⟩
      · cases h
    · cases h
theorem dlo_inv (hρ : ∀ x, RelV π (ρ x) (ρ' x)) {d : Int} {x : Option Opd} {n : Int} {ob : List Bool} (h : dlo ρ d x = some (n, ob)) (ho : ob.all id = true) : ∃ p : Prop, p ∧ ∀ K : Int → Prop → Prop, K n p → lo_ ρ' d x K := by
  cases x with
  | none => cases h; exact ⟨True, trivial, fun K hk => hk⟩
  | some x =>
    simp only [dlo] at h
    split at h
    · rename_i k m hm
      cases h
      have := ival_inv hm (relv_val (hρ x) ho)
      exact ⟨_, relv_df (hρ x) ho, fun K hk => by simp only [lo_, this]; exact hk⟩
    · cases h
end
end Go.Proofs.Ytjoncejabdjekaa.D
