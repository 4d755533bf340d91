/- An own program logic over the kit's walk, part 13: operations in the text's order. -/
import Derived.Test.YtjoncejabdjekaaL12
set_option linter.unusedVariables false
set_option linter.unusedSimpArgs false
namespace Go.Proofs.Ytjoncejabdjekaa.L
open Go

/-- The operations of a region, one by one. -/
def OkOpers (P : Program) (n : Nat) (ops : Array Oper) : List Oper → List AOper → Prop
  | [], [] => True
  | o :: l, a :: l' => OkOper P n ops o a ∧ OkOpers P n ops l l'
  | _, _ => False

theorem wpList_sound {P : Program} {T : Tbl} (hT : TblOK P T) {n : Nat} {ops : Array Oper} {K : Exit → Env → Store → Prop} {s0 : Store} {w0 : World} : ∀ (l : List Oper) (l' : List AOper) (e : Env) (s : Store) (a : Act) (w : World),
    OkOpers P n ops l l' → Conf n s e a w → Mv (own s0) (own s) w0 w → xr P T (fun _ => False) l' (fun e s => K .normal e s) e s → wpList P ops (post n K s0 w0) l a w
  | [], [], e, s, a, w, _, hf, hm, h => ⟨e, s, h, hf, hm⟩
  | o :: l, ao :: l', e, s, a, w, hk, hf, hm, h => by
    have key := xo_sound hT hk.1 hf (R := fun _ => False) (fun b hb => hb.elim) h (next := wpList P ops (post n K s0 w0) l) (Q := post n K s0 w0) (fun e' s' a' w' h1 h2 h3 => wpList_sound hT l l' e' s' a' w' hk.2 h2 (hm.trans h3) h1)
    unfold wpList
    by_cases hw : Region.wanted o (yielded ops a.tmps) = true
    · rw [if_pos hw] at key ⊢; exact .inl key
    · rw [if_neg hw] at key ⊢; exact key
  | [], _ :: _, _, _, _, _, hk, _, _, _ => hk.elim
  | _ :: _, [], _, _, _, _, hk, _, _, _ => hk.elim

/-- A region in the text's order. -/
theorem awp_region {P : Program} {T : Tbl} (hT : TblOK P T) {n id : Nat} {ops : Array Oper} {l' : List AOper} {K : Exit → Env → Store → Prop} {e : Env} {s : Store} (hk : OkOpers P n ops ops.toList l') (h : xr P T (fun _ => False) l' (fun e s => K .normal e s) e s) :
    awp P n (.region id ops false) K e s :=
  fun a w hf => wp_region_list (wpList_sound hT _ _ _ _ _ _ hk hf (Mv.refl _ _) h)

/-! ### Any order -/
def xoAt (P : Program) (T : Tbl) (R : Nat → Prop) (aops : Array AOper) (i : Nat) (K : Env → Store → Prop) (e : Env) (s : Store) : Prop :=
  match aops[i]? with
  | some ao => xo P T R ao K e s
  | none => K e s

def awAny (P : Program) (T : Tbl) (R : Nat → Prop) (ops : Array Oper) (aops : Array AOper) (K : Env → Store → Prop) : Nat → Array Bool → Env → Store → Prop
  | 0, listed, e, s => Region.ready .any ops listed = [] ∧ K e s
  | m + 1, listed, e, s => (Region.ready .any ops listed = [] → K e s) ∧ ∀ i ∈ Region.ready .any ops listed, xoAt P T R aops i (awAny P T R ops aops K m (listed.setIfInBounds i true)) e s

theorem wpAny_sound' {P : Program} {T : Tbl} {R : Nat → Prop} (hT : TblOK P T) {n : Nat} {ops : Array Oper} {aops : Array AOper} (hsz : aops.size = ops.size) (hk : ∀ (i : Nat) (o : Oper) (ao : AOper), ops[i]? = some o → aops[i]? = some ao → OkOper P n ops o ao) {K : Exit → Env → Store → Prop} {s0 : Store} {w0 : World} :
    ∀ (m : Nat) (listed : Array Bool) (e : Env) (s : Store) (a : Act) (w : World), Conf n s e a w → (∀ b, R b → b < w.heap.size) → Mv (own s0) (own s) w0 w → awAny P T R ops aops (fun e s => K .normal e s) m listed e s → wpAny P .any ops (post n K s0 w0) m listed a w
  | 0, listed, e, s, a, w, hf, hR, hm, h => ⟨h.1, e, s, h.2, hf, hm⟩
  | m + 1, listed, e, s, a, w, hf, hR, hm, h => by
    refine ⟨fun h0 => ⟨e, s, h.1 h0, hf, hm⟩, fun i hi => ?_⟩
    have hx := h.2 i hi
    have hlt : i < ops.size := by
      have := List.mem_filter.1 hi
      simpa using this.1
    have ho : ops[i]? = some ops[i] := Array.getElem?_eq_getElem hlt
    have hao : aops[i]? = some (aops[i]'(by omega)) := Array.getElem?_eq_getElem (by omega)
    simp only [xoAt, hao] at hx
    have key := xo_sound hT (hk i _ _ ho hao) hf hR hx (next := wpAny P .any ops (post n K s0 w0) m (listed.setIfInBounds i true)) (Q := post n K s0 w0) (fun e' s' a' w' h1 h2 h3 =>
      wpAny_sound' hT hsz hk m _ e' s' a' w' h2 (fun b hb => Nat.lt_of_lt_of_le (hR b hb) h3.size) (hm.trans h3) h1)
    simp only [wpOp, ho]
    by_cases hw : Region.wanted ops[i] (yielded ops a.tmps) = true
    · rw [if_pos hw] at key ⊢; exact .inl key
    · rw [if_neg hw] at key ⊢; exact key

/-! ### What an operation looks at -/
def opnds : AOp → List Opd
  | .mov x | .unot x | .uneg x | .nilc x | .fld x _ | .ld1 x _ | .ldn x _ _ | .fldv x _ _ _ | .len x | .lens x | .ext x _ | .cvt _ x | .lenm x _ | .box x | .isn _ x => [x]
  | .bin _ _ x y | .eqs _ _ x y | .idx x y _ | .idxs x y | .mnx _ x y | .lkp _ _ _ x y _ | .sto x y _ | .app _ _ _ x y | .men _ _ x y => [x, y]
  | .pick x y z | .mup _ x y z | .ens x y z => [x, y, z]
  | .bld _ ps => ps.map (·.2.2)
  | .mkf _ xs | .call _ xs | .bsl _ xs | .bsr _ _ xs | .xcall _ xs => xs
  | .sl x lo hi _ | .sls x lo hi => x :: (lo.toList ++ hi.toList)
  | .callv f xs | .xcallv f xs => f :: xs
  | .mks _ _ _ _ x => [x]
  | .alc _ | .mkm .. => []

section
variable {P : Program} {T : Tbl} {R : Nat → Prop} {ρ ρ' : Opd → AV} {s : Store}

theorem vals_ext (xs : List Opd) (h : ∀ x ∈ xs, ρ x = ρ' x) : vals ρ xs = vals ρ' xs := by
  unfold vals; exact List.map_congr_left fun x hx => by rw [h x hx]
theorem dfs_ext : ∀ (xs : List Opd), (∀ x ∈ xs, ρ x = ρ' x) → (dfs ρ xs = dfs ρ' xs)
  | [], _ => rfl
  | x :: xs, h => by simp only [dfs]; rw [h x (by simp), dfs_ext xs fun y hy => h y (by simp [hy])]
theorem pvals_ext : ∀ (ps : List (Nat × Nat × Opd)), (∀ x ∈ ps.map (·.2.2), ρ x = ρ' x) → pvals ρ ps = pvals ρ' ps
  | [], _ => rfl
  | (_, _, x) :: ps, h => by simp only [pvals]; rw [h x (by simp), pvals_ext ps fun y hy => h y (by simp only [List.map_cons, List.mem_cons]; exact .inr hy)]
theorem pok_ext : ∀ (ps : List (Nat × Nat × Opd)), (∀ x ∈ ps.map (·.2.2), ρ x = ρ' x) → pok ρ ps = pok ρ' ps
  | [], _ => rfl
  | (_, _, x) :: ps, h => by simp only [pok]; rw [h x (by simp), pok_ext ps fun y hy => h y (by simp only [List.map_cons, List.mem_cons]; exact .inr hy)]
theorem lo_ext (d : Int) (x : Option Opd) (K : Int → Prop → Prop) (h : ∀ y ∈ x.toList, ρ y = ρ' y) : lo_ ρ d x K = lo_ ρ' d x K := by
  cases x with
  | none => rfl
  | some y => simp only [lo_]; rw [h y (by simp)]

theorem nop_ext (o : AOp) (h : ∀ x ∈ opnds o, ρ x = ρ' x) (K : AV → Prop → Prop) : nop T R o ρ s K = nop T R o ρ' s K := by
  cases o with
  | bld z ps => simp only [nop]; rw [pvals_ext ps h, pok_ext ps h]
  | mkf f xs => simp only [nop]; rw [vals_ext xs h, dfs_ext xs h]
  | call f xs => simp only [nop]; rw [vals_ext xs h, dfs_ext xs h]
  | bsl k xs => simp only [nop]; rw [vals_ext xs h, dfs_ext xs h]
  | callv f xs =>
    simp only [nop]
    rw [h f (by simp [opnds]), vals_ext xs (fun x hx => h x (by simp [opnds, hx])), dfs_ext xs (fun x hx => h x (by simp [opnds, hx]))]
  | sl x lo hi n =>
    have e : ∀ (d : Int) (x : Option Opd), (∀ y ∈ x.toList, ρ y = ρ' y) → lo_ ρ d x = lo_ ρ' d x := fun d x hx => funext fun K => lo_ext d x K hx
    simp only [nop]
    rw [h x (by simp [opnds])]
    simp only [e _ lo (fun y hy => h y (by simp only [opnds, List.mem_cons, List.mem_append]; exact .inr (.inl hy))), e _ hi (fun y hy => h y (by simp only [opnds, List.mem_cons, List.mem_append]; exact .inr (.inr hy)))]
  | sls x lo hi =>
    have e : ∀ (d : Int) (x : Option Opd), (∀ y ∈ x.toList, ρ y = ρ' y) → lo_ ρ d x = lo_ ρ' d x := fun d x hx => funext fun K => lo_ext d x K hx
    simp only [nop]
    rw [h x (by simp [opnds])]
    simp only [e _ lo (fun y hy => h y (by simp only [opnds, List.mem_cons, List.mem_append]; exact .inr (.inl hy))), e _ hi (fun y hy => h y (by simp only [opnds, List.mem_cons, List.mem_append]; exact .inr (.inr hy)))]
  | bin ex op x y => simp only [nop]; rw [h x (by simp [opnds]), h y (by simp [opnds])]
  | eqs ne n x y => simp only [nop]; rw [h x (by simp [opnds]), h y (by simp [opnds])]
  | idx x y n => simp only [nop]; rw [h x (by simp [opnds]), h y (by simp [opnds])]
  | idxs x y => simp only [nop]; rw [h x (by simp [opnds]), h y (by simp [opnds])]
  | mnx mx x y => simp only [nop]; rw [h x (by simp [opnds]), h y (by simp [opnds])]
  | lkp kn ok z x y fr => simp only [nop]; rw [h x (by simp [opnds]), h y (by simp [opnds])]
  | pick x y z => simp only [nop]; rw [h x (by simp [opnds]), h y (by simp [opnds]), h z (by simp [opnds])]
  | mov x => simp only [nop]; rw [h x (by simp [opnds])]
  | unot x => simp only [nop]; rw [h x (by simp [opnds])]
  | uneg x => simp only [nop]; rw [h x (by simp [opnds])]
  | nilc x => simp only [nop]; rw [h x (by simp [opnds])]
  | fld x off => simp only [nop]; rw [h x (by simp [opnds])]
  | ld1 x fr => simp only [nop]; rw [h x (by simp [opnds])]
  | ldn x n fr => simp only [nop]; rw [h x (by simp [opnds])]
  | fldv x off n ag => simp only [nop]; rw [h x (by simp [opnds])]
  | len x => simp only [nop]; rw [h x (by simp [opnds])]
  | lens x => simp only [nop]; rw [h x (by simp [opnds])]
  | ext x i => simp only [nop]; rw [h x (by simp [opnds])]
  | cvt k x => simp only [nop]; rw [h x (by simp [opnds])]
  | lenm x fr => simp only [nop]; rw [h x (by simp [opnds])]
  | _ => simp only [nop]

theorem eff_ext (o : AOp) (h : ∀ x ∈ opnds o, ρ x = ρ' x) (K : AV → Store → Prop) : eff P R o ρ s K = eff P R o ρ' s K := by
  cases o with
  | box x => simp only [eff]; rw [h x (by simp [opnds])]
  | mks T k b z x => simp only [eff]; rw [h x (by simp [opnds])]
  | sto x y n => simp only [eff]; rw [h x (by simp [opnds]), h y (by simp [opnds])]
  | app T k b x y => simp only [eff]; rw [h x (by simp [opnds]), h y (by simp [opnds])]
  | men kn z x y => simp only [eff]; rw [h x (by simp [opnds]), h y (by simp [opnds])]
  | mup kn x y z => simp only [eff]; rw [h x (by simp [opnds]), h y (by simp [opnds]), h z (by simp [opnds])]
  | isn ne x => simp only [eff]; rw [h x (by simp [opnds])]
  | ens x y z => simp only [eff]; rw [h x (by simp [opnds]), h y (by simp [opnds]), h z (by simp [opnds])]
  | bsr T k xs => simp only [eff]; rw [vals_ext xs h, dfs_ext xs h]
  | xcall f xs => simp only [eff]; rw [vals_ext xs h, dfs_ext xs h]
  | xcallv f xs => simp only [eff]; rw [h f (by simp [opnds]), vals_ext xs (fun x hx => h x (by simp [opnds, hx])), dfs_ext xs (fun x hx => h x (by simp [opnds, hx]))]
  | _ => simp only [eff]
end

/-- A neutral operation has one value and one condition. -/
def Det (Φ : (AV → Prop → Prop) → Prop) : Prop := (∀ K, ¬ Φ K) ∨ ∃ v p, ∀ K, Φ K ↔ K v p

theorem Det.no {Φ : (AV → Prop → Prop) → Prop} (h : ∀ K, ¬ Φ K) : Det Φ := .inl h
theorem Det.yes (v : AV) (p : Prop) : Det (fun K => K v p) := .inr ⟨v, p, fun _ => Iff.rfl⟩
theorem Det.fls : Det (fun _ => False) := .inl fun _ h => h
theorem Det.and {c : Prop} {Φ : (AV → Prop → Prop) → Prop} (h : Det Φ) : Det (fun K => c ∧ Φ K) := by
  by_cases hc : c
  · rcases h with h | ⟨v, p, h⟩
    · exact .inl fun K hk => h K hk.2
    · exact .inr ⟨v, p, fun K => ⟨fun hk => (h K).1 hk.2, fun hk => ⟨hc, (h K).2 hk⟩⟩⟩
  · exact .inl fun K hk => hc hk.1

theorem det_arith (ex : Bool) (k : IntKind) (n : Int) (f : AV → Prop → AV × Prop) : Det (fun K => arith ex k n fun v p => K (f v p).1 (f v p).2) := by
  cases ex
  · exact .inr ⟨_, _, fun _ => Iff.rfl⟩
  · exact .inr ⟨_, _, fun _ => Iff.rfl⟩

theorem det_binv (ex : Bool) (op : BinOp) (a b : AV) (f : AV → Prop → AV × Prop) : Det (fun K => binv ex op a b fun v p => K (f v p).1 (f v p).2) := by
  unfold binv
  split
  · exact (det_arith ex _ _ f).and
  · exact (det_arith ex _ _ f).and
  · exact (det_arith ex _ _ f).and
  all_goals first
    | exact (Det.yes _ _).and
    | exact Det.yes _ _
    | exact Det.fls

theorem det_eqInts (f : Bool → AV × Prop) : ∀ (cs ds : List AV) (acc : Bool), Det (fun K => eqInts cs ds acc fun b => K (f b).1 (f b).2)
  | [], [], acc => .inr ⟨_, _, fun _ => Iff.rfl⟩
  | c :: cs, d :: ds, acc => by
    cases c <;> cases d <;> first
      | exact .inl fun K h => h
      | (simp only [eqInts]; exact (det_eqInts f cs ds _).and.and)
  | [], _ :: _, _ => .inl fun K h => h
  | _ :: _, [], _ => by
    refine .inl fun K h => ?_
    simp only [eqInts] at h

theorem det_keyOf (kn : Nat) (v : AV) (f : List Int → AV × Prop) : Det (fun K => keyOf kn v fun k => K (f k).1 (f k).2) := by
  unfold keyOf
  split
  · exact .inr ⟨_, _, fun _ => Iff.rfl⟩
  · split
    · exact (Det.yes _ _).and
    · exact Det.fls
  · exact Det.fls

theorem det_lo (ρ : Opd → AV) (d : Int) (x : Option Opd) (Φ : Int → Prop → (AV → Prop → Prop) → Prop) (h : ∀ n p, Det (Φ n p)) : Det (fun K => lo_ ρ d x fun n p => Φ n p K) := by
  unfold lo_
  split
  · exact h _ _
  · split
    · exact h _ _
    · exact Det.fls

theorem nop_det (T : Tbl) (R : Nat → Prop) (o : AOp) (ρ : Opd → AV) (s : Store) : Det (fun K => nop T R o ρ s K) := by
  cases o with
  | mov x => exact Det.yes _ _
  | bin ex op x y => exact det_binv ex op _ _ (fun v p => (v, (ρ x).df ∧ (ρ y).df ∧ p))
  | eqs ne n x y =>
    simp only [nop]
    split
    · exact (det_eqInts (fun b => (_, _)) _ _ _).and
    · exact Det.fls
  | sl x lo hi n =>
    simp only [nop]
    split
    · exact (det_lo ρ _ lo _ fun l p => det_lo ρ _ hi _ fun h q => Det.yes _ _).and
    · exact det_lo ρ _ lo _ fun l p => det_lo ρ _ hi _ fun h q => Det.yes _ _
    · exact Det.fls
  | sls x lo hi =>
    simp only [nop]
    split
    · exact det_lo ρ _ lo _ fun l p => det_lo ρ _ hi _ fun h q => Det.yes _ _
    · exact Det.fls
  | lkp kn ok z m key fr =>
    simp only [nop]
    split
    · split
      · exact (det_keyOf _ _ fun k => (_, _)).and
      · exact Det.fls
    · exact Det.fls
  | _ =>
    simp only [nop]
    (repeat' split) <;> first
      | exact Det.yes _ _
      | exact (Det.yes _ _).and
      | exact Det.fls
end Go.Proofs.Ytjoncejabdjekaa.L
