/- An own program logic over the kit's walk, part 17: code, its condition, and bodies of functions. -/
import Derived.Test.YtjoncejabdjekaaL16
set_option linter.unusedVariables false
set_option linter.unusedSimpArgs false
namespace Go.Proofs.Ytjoncejabdjekaa.L
open Go

/-- Operations in the text's order; between them less may be told. -/
def xrw (P : Program) (T : Tbl) : List AOper → (Env → Store → Prop) → Env → Store → Prop
  | [], K, e, s => ∃ e1 s1, Wk s e s1 e1 ∧ K e1 s1
  | o :: l, K, e, s => ∃ e1 s1, Wk s e s1 e1 ∧ xo P T (fun _ => False) o (fun e' s' => xrw P T l K e' s') e1 s1

theorem xrw_of {P : Program} {T : Tbl} {K : Env → Store → Prop} : ∀ (l : List AOper) {e : Env} {s : Store}, xr P T (fun _ => False) l K e s → xrw P T l K e s
  | [], e, s, h => ⟨e, s, Wk.refl _ _, h⟩
  | o :: l, e, s, h => ⟨e, s, Wk.refl _ _, xo_mono (fun _ _ hk => xrw_of l hk) h⟩
theorem xrw_mono {P : Program} {T : Tbl} {K K' : Env → Store → Prop} (h : ∀ e s, K e s → K' e s) : ∀ (l : List AOper) {e : Env} {s : Store}, xrw P T l K e s → xrw P T l K' e s
  | [], _, _, ⟨e1, s1, hw, hx⟩ => ⟨e1, s1, hw, h _ _ hx⟩
  | o :: l, _, _, ⟨e1, s1, hw, hx⟩ => ⟨e1, s1, hw, xo_mono (fun _ _ hk => xrw_mono h l hk) hx⟩
theorem xrw_wk {P : Program} {T : Tbl} {K : Env → Store → Prop} {e e0 : Env} {s s0 : Store} (h0 : Wk s e s0 e0) : ∀ (l : List AOper), xrw P T l K e0 s0 → xrw P T l K e s
  | [], ⟨e1, s1, hw, hx⟩ => ⟨e1, s1, h0.trans hw, hx⟩
  | _ :: _, ⟨e1, s1, hw, hx⟩ => ⟨e1, s1, h0.trans hw, hx⟩

theorem wpListW_sound {P : Program} {T : Tbl} (hT : TblOK P T) {n : Nat} {ops : Array Oper} {K : Exit → Env → Store → Prop} {s0 : Store} {w0 : World} : ∀ (l : List Oper) (l' : List AOper) (e : Env) (s : Store) (a : Act) (w : World),
    OkOpers P n ops l l' → Conf n s e a w → Mv (own s0) (own s) w0 w → xrw P T l' (fun e s => K .normal e s) e s → wpList P ops (post n K s0 w0) l a w
  | [], [], e, s, a, w, _, hf, hm, ⟨e1, s1, hw, h⟩ => by
    obtain ⟨hf1, hm1⟩ := hw.conf hf
    exact ⟨e1, s1, h, hf1, hm.trans hm1⟩
  | o :: l, ao :: l', e, s, a, w, hk, hf, hm, ⟨e1, s1, hw, h⟩ => by
    obtain ⟨hf1, hm1⟩ := hw.conf hf
    have key := xo_sound hT hk.1 hf1 (R := fun _ => False) (fun b hb => hb.elim) h (next := wpList P ops (post n K s0 w0) l) (Q := post n K s0 w0) (fun e' s' a' w' h1 h2 h3 => wpListW_sound hT l l' e' s' a' w' hk.2 h2 ((hm.trans hm1).trans h3) h1)
    unfold wpList
    by_cases hw : Region.wanted o (yielded ops a.tmps) = true
    · rw [if_pos hw] at key ⊢; exact .inl key
    · rw [if_neg hw] at key ⊢; exact key
  | [], _ :: _, _, _, _, _, hk, _, _, _ => hk.elim
  | _ :: _, [], _, _, _, _, hk, _, _, _ => hk.elim

theorem awp_regionW {P : Program} {T : Tbl} (hT : TblOK P T) {n id : Nat} {ops : Array Oper} {l' : List AOper} {K : Exit → Env → Store → Prop} {e : Env} {s : Store} (hk : OkOpers P n ops ops.toList l') (h : xrw P T l' (fun e s => K .normal e s) e s) :
    awp P n (.region id ops false) K e s :=
  fun a w hf => wp_region_list (wpListW_sound hT _ _ _ _ _ _ hk hf (Mv.refl _ _) h)

inductive ACode where
  | skip
  | ret
  | exit (i : Nat)
  | reg (l : Unit → List AOper)
  | drw (rs : List Nat) (l : Unit → List AOper)
  | seq (a b : ACode)
  | cond (c : Opd) (a b : ACode)
  | blk (i : Nat) (c : ACode)
  | loop (c : Unit → ACode)

inductive OkCode (P : Program) (n : Nat) : Code → ACode → Prop where
  | skip : OkCode P n .skip .skip
  | ret : OkCode P n .ret .ret
  | exit (i : Nat) : OkCode P n (.exit i) (.exit i)
  | reg {id : Nat} {ops : Array Oper} {l : Unit → List AOper} (h : OkOpers P n ops ops.toList (l ())) : OkCode P n (.region id ops false) (.reg l)
  | drw {id : Nat} {ops : Array Oper} {l : List AOper} {l' : Unit → List AOper} {π : List Nat} (rs : List Nat) (hm : P.follows .mixedOrders = true) (h : OkOpers P n ops ops.toList l)
      (hp : permB ops (Region.before ops) l.toArray π (Array.replicate ops.size false) = true) (hl : pick' l.toArray π = l' ()) : OkCode P n (.region id ops true) (.drw rs l')
  | seq {a b : Code} {a' b' : ACode} (h : OkCode P n a a') (k : OkCode P n b b') : OkCode P n (.seq a b) (.seq a' b')
  | cond {c : Operand} {c' : Opd} {a b : Code} {a' b' : ACode} (hc : OkOpd c c') (h : OkCode P n a a') (k : OkCode P n b b') : OkCode P n (.cond c a b) (.cond c' a' b')
  | blk {i : Nat} {c : Code} {c' : ACode} (h : OkCode P n c c') : OkCode P n (.block i c) (.blk i c')
  | loop {c : Code} {c' : Unit → ACode} (h : OkCode P n c (c' ())) : OkCode P n (.loop c) (.loop c')

/-- The object that a value names. -/
def nameOf : AV → Option Nat
  | .ptr b _ => some b
  | .rptr b .. => some b
  | .slc b .. => some b
  | .mp b => some b
  | _ => none
/-- The objects that some slots name. -/
def rOf (e : Env) : List Nat → Nat → Prop
  | [], _ => False
  | t :: l, b => nameOf (e t).val = some b ∨ rOf e l b

def sqc (k : Env → Store → Prop) (K : Exit → Env → Store → Prop) : Exit → Env → Store → Prop
  | .normal, e, s => k e s
  | x, e, s => K x e s
/-- Behind a round. -/
def lpc (I : Nat → Env → Store → Prop) (m : Nat) (K : Exit → Env → Store → Prop) : Exit → Env → Store → Prop
  | .normal, e, s => ∃ m' e' s', Wk s e s' e' ∧ m' < m ∧ I m' e' s'
  | x, e, s => K x e s

def xc (P : Program) (T : Tbl) : ACode → (Exit → Env → Store → Prop) → Env → Store → Prop
  | .skip, K, e, s => K .normal e s
  | .ret, K, e, s => K .ret e s
  | .exit i, K, e, s => K (.exit i) e s
  | .reg l, K, e, s => xrw P T (l ()) (fun e s => K .normal e s) e s
  | .drw rs l, K, e, s => (∀ b, rOf e rs b → own s b) ∧ xr P T (rOf e rs) (l ()) (fun e s => K .normal e s) e s
  | .seq a b, K, e, s => xc P T a (sqc (xc P T b K) K) e s
  | .cond c a b, K, e, s => (opd e c).df ∧ match (opd e c).val with
    | .bool g => (g = true → xc P T a K e s) ∧ (g = false → xc P T b K e s)
    | _ => False
  | .blk i c, K, e, s => xc P T c (blkK i K) e s
  | .loop c, K, e, s => ∃ (I : Nat → Env → Store → Prop) (m : Nat) (e0 : Env) (s0 : Store), Wk s e s0 e0 ∧ I m e0 s0 ∧ ∀ m e s, I m e s → xc P T (c ()) (lpc I m K) e s

theorem xr_mono {P : Program} {T : Tbl} {R : Nat → Prop} {K K' : Env → Store → Prop} (h : ∀ e s, K e s → K' e s) : ∀ (l : List AOper) {e : Env} {s : Store}, xr P T R l K e s → xr P T R l K' e s
  | [], _, _, hx => h _ _ hx
  | o :: l, _, _, hx => xo_mono (fun _ _ hk => xr_mono h l hk) hx

theorem sqc_mono {k k' : Env → Store → Prop} {K K' : Exit → Env → Store → Prop} (h : ∀ e s, k e s → k' e s) (hK : ∀ x e s, K x e s → K' x e s) (x : Exit) (e : Env) (s : Store) : sqc k K x e s → sqc k' K' x e s := by
  cases x <;> simp only [sqc] <;> first | exact h _ _ | exact hK _ _ _
theorem blkK_mono {i : Nat} {K K' : Exit → Env → Store → Prop} (hK : ∀ x e s, K x e s → K' x e s) (x : Exit) (e : Env) (s : Store) : blkK i K x e s → blkK i K' x e s := by
  cases x with
  | exit j => simp only [blkK]; split <;> exact hK _ _ _
  | _ => exact hK _ _ _
theorem lpc_mono {I : Nat → Env → Store → Prop} {m : Nat} {K K' : Exit → Env → Store → Prop} (hK : ∀ x e s, K x e s → K' x e s) (x : Exit) (e : Env) (s : Store) : lpc I m K x e s → lpc I m K' x e s := by
  cases x <;> first | exact hK _ _ _ | exact id

theorem xc_mono {P : Program} {T : Tbl} : ∀ (c : ACode) {K K' : Exit → Env → Store → Prop} (h : ∀ x e s, K x e s → K' x e s) {e : Env} {s : Store}, xc P T c K e s → xc P T c K' e s
  | .skip, _, _, h, _, _, hx => h _ _ _ hx
  | .ret, _, _, h, _, _, hx => h _ _ _ hx
  | .exit i, _, _, h, _, _, hx => h _ _ _ hx
  | .reg l, _, _, h, _, _, hx => xrw_mono (fun _ _ => h _ _ _) (l ()) hx
  | .drw rs l, _, _, h, _, _, hx => ⟨hx.1, xr_mono (fun _ _ => h _ _ _) (l ()) hx.2⟩
  | .seq a b, _, _, h, _, _, hx => xc_mono a (sqc_mono (fun _ _ => xc_mono b h) h) hx
  | .cond c a b, _, _, h, e, _, hx => by
    obtain ⟨hd, hx⟩ := hx
    refine ⟨hd, ?_⟩
    cases hc : (opd e c).val with
    | bool g => simp only [hc] at hx ⊢; exact ⟨fun g => xc_mono a h (hx.1 g), fun g => xc_mono b h (hx.2 g)⟩
    | _ => simp only [hc] at hx
  | .blk i c, _, _, h, _, _, hx => xc_mono c (blkK_mono h) hx
  | .loop c, _, _, h, _, _, hx => by
    obtain ⟨I, m, e0, s0, h1, h2, h3⟩ := hx
    exact ⟨I, m, e0, s0, h1, h2, fun m e s hI => xc_mono (c ()) (lpc_mono h) (h3 m e s hI)⟩

theorem awp_wk {P : Program} {n : Nat} {c : Code} {K : Exit → Env → Store → Prop} {e e' : Env} {s s' : Store} (h : Wk s e s' e') (k : awp P n c K e' s') : awp P n c K e s := fun a w hf => by
  obtain ⟨h1, h2⟩ := h.conf hf
  exact wp_mono (k a w h1) fun _ _ _ hp => post_later h2 hp

theorem awp_loop' {P : Program} {n : Nat} {c : Code} {K : Exit → Env → Store → Prop} {e : Env} {s : Store} (I : Nat → Env → Store → Prop) (m : Nat) {e0 : Env} {s0 : Store} (hw : Wk s e s0 e0) (h0 : I m e0 s0)
    (round : ∀ m e s, I m e s → awp P n c (lpc I m K) e s) : awp P n (.loop c) K e s := by
  refine awp_wk hw ?_
  intro a w hf
  refine wp_loop_ghost (fun m a' w' => ∃ e' s', I m e' s' ∧ Conf n s' e' a' w' ∧ Mv (own s0) (own s') w w') m ⟨e0, s0, h0, hf, Mv.refl _ _⟩ ?_
  rintro m a1 w1 ⟨e1, s1, hI, hf1, hm1⟩
  refine wp_mono (round m e1 s1 hI a1 w1 hf1) ?_
  intro ex a2 w2 hp
  obtain ⟨e2, s2, h1, h2, h3⟩ := hp
  cases ex with
  | normal =>
    obtain ⟨m', e', s', hk, hm, hI2⟩ := h1
    obtain ⟨g1, g2⟩ := hk.conf h2
    exact ⟨m', hm, e', s', hI2, g1, hm1.trans (h3.trans g2)⟩
  | exit i => exact ⟨e2, s2, h1, h2, hm1.trans h3⟩
  | goto l => exact ⟨e2, s2, h1, h2, hm1.trans h3⟩
  | ret => exact ⟨e2, s2, h1, h2, hm1.trans h3⟩
  | panic ch => exact ⟨e2, s2, h1, h2, hm1.trans h3⟩
  | outgrown => exact ⟨e2, s2, h1, h2, hm1.trans h3⟩

theorem awp_cond {P : Program} {n : Nat} {x y : Code} {c : Operand} {c' : Opd} (hc : OkOpd c c') {K : Exit → Env → Store → Prop} {e : Env} {s : Store} (hd : (opd e c').df) {g : Bool} (hg : (opd e c').val = .bool g)
    (h : g = true → awp P n x K e s) (k : g = false → awp P n y K e s) : awp P n (.cond c x y) K e s := fun a w hf => by
  have := RV_val (opd_sound hf c c' hc) hd
  rw [hg] at this
  have := inv_bool this
  exact wp_cond_split this (fun e => h e a w hf) (fun e => k e a w hf)

theorem xc_sound {P : Program} {T : Tbl} (hT : TblOK P T) {n : Nat} {c : Code} {c' : ACode} (hk : OkCode P n c c') : ∀ {K : Exit → Env → Store → Prop} {e : Env} {s : Store}, xc P T c' K e s → awp P n c K e s := by
  induction hk with
  | skip => exact fun h => awp_skip h
  | ret => exact fun h => awp_ret h
  | exit i => exact fun h => awp_exit h
  | reg hk => exact fun h => awp_regionW hT hk h
  | drw rs hm hk hp hl => exact fun h => awp_region_any hT hm hk hp hl h.1 h.2
  | seq _ _ ih1 ih2 =>
    intro K e s h
    refine awp_seq (awp_mono (fun x e s h => ?_) (ih1 h))
    cases x <;> first | exact ih2 h | exact h
  | cond hc _ _ ih1 ih2 =>
    intro K e s h
    obtain ⟨h1, h2⟩ := h
    split at h2
    · rename_i g hg
      exact awp_cond hc h1 hg (fun g => ih1 (h2.1 g)) (fun g => ih2 (h2.2 g))
    · exact h2.elim
  | blk _ ih => exact fun h => awp_block (ih h)
  | loop _ ih =>
    rintro K e s ⟨I, m, e0, s0, h1, h2, h3⟩
    exact awp_loop' I m h1 h2 fun m e s hI => ih (h3 m e s hI)

/-! ### Bodies -/
/-- Results of a function. -/
def OkRes (P : Program) : List ResultVar → List Res → Prop
  | [], [] => True
  | .tmp t :: l, .t t' :: l' => t = t' ∧ OkRes P l l'
  | .cell a ty :: l, .cell a' ag k :: l' => a = a' ∧ TyR P ty ag k ∧ (ag = false → k = 1) ∧ OkRes P l l'
  | _, _ => False

theorem RVs_get {o : Nat → Prop} {w : World} {as : List AV} {vs : List Value} (h : RVs o w as vs) {m : Nat} (t : Nat) : RV o w (envOf as t) ((vs.toArray ++ Array.replicate m Go.undef).getD t Go.undef) := by
  obtain ⟨h1, h2⟩ := h
  unfold envOf
  rcases Nat.lt_or_ge t as.length with hlt | hge
  · have : (vs.toArray ++ Array.replicate m Go.undef).getD t Go.undef = vat vs t := by
      simp [Array.getD_eq_getD_getElem?, Array.getElem?_append, h1, hlt, vat, List.getD_eq_getElem?_getD]
    rw [this]; exact h2 t hlt
  · have : at_ as t = .undef := by simp [at_, List.getD_eq_getElem?_getD, List.getElem?_eq_none hge]
    rw [this]; exact .undef _

theorem run_loadVar {P : Program} {T k : Nat} {ag : Bool} (hT : TyR P T ag k) {ad : Addr} (w : World) : (loadVar T ad).run P w = (Instr.loadAt T (.pointer (some ad))).run P w := by
  simp only [Instr.loadAt, Instr.sureAddr, Sem.run_bind, Sem.run_pure, Result.andThen_ok]

/-- One result. -/
def resM (tmps : Array Value) : ResultVar → Sem Value
  | .tmp t => pure (tmps.getD t Go.undef)
  | .cell a t => do loadVar t (← asAddr (tmps.getD a Go.undef))

theorem results_eq (fn : Func) (tmps : Array Value) : results fn tmps = (do
    let vs ← fn.results.mapM (resM tmps)
    pure (if h : vs.size = 1 then vs[0] else .tuple vs)) := by
  unfold results
  congr 1

theorem resM_sound {P : Program} {n : Nat} {s : Store} {e : Env} {a : Act} {w : World} (hf : Conf n s e a w) {r : ResultVar} {r' : Res} (hr : OkRes P [r] [r']) {v : AV} (h : resOne e s r' = some v) : ∃ u, (resM a.tmps r).run P w = .ok u w ∧ RV (own s) w v u := by
  cases r with
  | tmp t => cases r' with
    | t t' =>
      obtain ⟨rfl, _⟩ := hr
      simp only [resOne, Option.some.injEq] at h
      subst h
      exact ⟨_, rfl, hf.env t⟩
    | cell => exact hr.elim
  | cell t ty => cases r' with
    | t t' => exact hr.elim
    | cell t' ag k =>
      obtain ⟨rfl, hT, hk, _⟩ := hr
      simp only [resOne] at h
      split at h
      · rename_i b hb
        split at h
        · rename_i cs hs
          split at h
          · rename_i hl
            have hv := hf.env t
            rw [hb] at hv
            have hv := inv_ptr hv
            have hO := hf.st b _ hs
            have run : ∀ u, (Instr.loadAt ty (.pointer (some ⟨b, 0, none⟩))).run P w = .ok u w → (resM a.tmps (.cell t ty)).run P w = .ok u w := fun u hu => by
              simp only [resM, hv, asAddr, Sem.run_bind, Sem.run_pure, Result.andThen_ok, run_loadVar hT, hu]
            cases ag with
            | true =>
              cases h
              obtain ⟨vs, h1, h2, h3⟩ := cells_agg (ad := ⟨b, 0, none⟩) hl (fun j hj => by
                obtain ⟨v, g1, g2⟩ := box_cell hO (j := j) (by omega)
                exact ⟨v, by rw [add_at, Nat.zero_add]; exact g1, g2⟩)
              exact ⟨_, run _ (run_loadAtn hT h1 h2), h3⟩
            | false =>
              cases h
              have hk1 := hk rfl
              obtain ⟨v, g1, g2⟩ := box_cell hO (j := 0) (by omega)
              exact ⟨_, run _ (run_loadAt1 hT g1), g2⟩
          · cases h
        · cases h
      · cases h

theorem resAll_sound {P : Program} {n : Nat} {s : Store} {e : Env} {a : Act} {w : World} (hf : Conf n s e a w) : ∀ {l : List ResultVar} {l' : List Res}, OkRes P l l' → ∀ {vs : List AV}, resAll e s l' = some vs →
    ∃ us : List Value, (l.mapM (resM a.tmps)).run P w = .ok us w ∧ us.length = vs.length ∧ ∀ j, j < vs.length → RV (own s) w (at_ vs j) (vat us j)
  | [], [], _, vs, h => by
    simp only [resAll, Option.some.injEq] at h
    subst h
    exact ⟨[], by simp [List.mapM_nil, Sem.run_pure], rfl, fun j hj => by simp at hj⟩
  | r :: l, r' :: l', hr, vs, h => by
    have h1 : OkRes P [r] [r'] ∧ OkRes P l l' := by
      cases r <;> cases r' <;> simp only [OkRes] at hr ⊢
      · exact ⟨⟨hr.1, trivial⟩, hr.2⟩
      · exact ⟨⟨hr.1, hr.2.1, hr.2.2.1, trivial⟩, hr.2.2.2⟩
    simp only [resAll] at h
    split at h
    · rename_i v hv
      split at h
      · rename_i vs' hvs
        cases h
        obtain ⟨u, hu, hru⟩ := resM_sound hf h1.1 hv
        obtain ⟨us, hus, hl, hrs⟩ := resAll_sound hf h1.2 hvs
        refine ⟨u :: us, ?_, by simp [hl], fun j hj => ?_⟩
        · simp only [List.mapM_cons, Sem.run_bind, hu, Result.andThen_ok, hus, Sem.run_pure]
        · cases j with
          | zero => exact hru
          | succ j => exact hrs j (by simpa using hj)
      · cases h
    · cases h
  | [], _ :: _, hr, _, _ => hr.elim
  | .tmp _ :: _, [], hr, _, _ => hr.elim
  | .cell .. :: _, [], hr, _, _ => hr.elim

theorem resOf_sound {P : Program} {fn : Func} {l' : List Res} (hr : OkRes P fn.results.toList l') {n : Nat} {s : Store} {e : Env} {a : Act} {w : World} (hf : Conf n s e a w) {v : AV} (h : resOf e s l' = some v) :
    ∃ u, (results fn a.tmps).run P w = .ok u w ∧ RV (own s) w v u := by
  unfold resOf at h
  have key : ∀ vs, resAll e s l' = some vs → ∃ us : List Value, (fn.results.mapM (resM a.tmps)).run P w = .ok us.toArray w ∧ us.length = vs.length ∧ ∀ j, j < vs.length → RV (own s) w (at_ vs j) (vat us j) := fun vs hvs => by
    obtain ⟨us, h1, h2, h3⟩ := resAll_sound hf hr hvs
    refine ⟨us, ?_, h2, h3⟩
    have : fn.results.mapM (resM a.tmps) = List.toArray <$> fn.results.toList.mapM (resM a.tmps) := by
      rw [← List.mapM_toArray]
    rw [this, map_eq_pure_bind]
    simp only [Sem.run_bind, h1, Result.andThen_ok, Sem.run_pure]
  rw [results_eq]
  split at h
  · rename_i v' hv
    cases h
    obtain ⟨us, h1, h2, h3⟩ := key _ hv
    match us, h2, h3 with
    | [u], _, h3 =>
      refine ⟨u, ?_, h3 0 (by simp)⟩
      simp only [Sem.run_bind, h1, Result.andThen_ok, Sem.run_pure]
      rfl
  · rename_i vs hne hv
    cases h
    obtain ⟨us, h1, h2, h3⟩ := key _ hv
    refine ⟨.tuple us.toArray, ?_, .tup _ _ h2 h3⟩
    have hsz : ¬ us.toArray.size = 1 := by
      simp only [List.size_toArray, h2]
      intro h0
      match vs, h0, hne with
      | [x], _, hne => exact hne x rfl
    simp only [Sem.run_bind, h1, Result.andThen_ok, Sem.run_pure, dif_neg hsz]
  · cases h

/-- Behind a body: the results, told weaker. -/
def bodyK (rs : List Res) (R : AV → Store → Prop) : Exit → Env → Store → Prop
  | .normal, e, s | .ret, e, s => ∃ r, resOf e s rs = some r ∧ ∃ r' s', Wk1 s r s' r' ∧ R r' s'
  | _, _, _ => False

/-- A function's text. -/
structure Fn (P : Program) (f : FuncId) (n : Nat) (rs : List Res) (c : ACode) : Prop where
  ok : ∃ fn b, P.funcs[f]? = some fn ∧ (fn.name == "runtime.NumGoroutine") = false ∧ fn.body = some b ∧ fn.ntmps = n ∧ OkRes P fn.results.toList rs ∧ OkCode P n b c

theorem Fn.callR {P : Program} {f : FuncId} {n : Nat} {rs : List Res} {c : ACode} (h : Fn P f n rs c) : CallR P f := by
  obtain ⟨fn, b, h1, h2, h3, _⟩ := h.ok
  exact ⟨fn, h1, h2, by simp [h3]⟩

theorem AC_of_body {P : Program} {T : Tbl} (hT : TblOK P T) {f : FuncId} {n : Nat} {rs : List Res} {c : ACode} (h : Fn P f n rs c) {as : List AV} {s : Store} {R : AV → Store → Prop} (hn : as.length ≤ n)
    (hx : xc P T c (bodyK rs R) (envOf as) s) : AC P f as s R := by
  refine ⟨h.callR, fun vs w hs hv => ?_⟩
  obtain ⟨fn, b, h1, h2, h3, h4, h5, h6⟩ := h.ok
  refine calls_of_wp h1 h3 ?_
  have hlen := hv.1
  have hf : Conf n s (envOf as) { tmps := vs.toArray ++ Array.replicate (fn.ntmps - vs.toArray.size) Go.undef, defers := [] } w :=
    ⟨by simp [h4, hlen]; omega, hs, fun t => RVs_get hv t, rfl⟩
  refine wp_mono (xc_sound hT h6 hx _ w hf) ?_
  rintro ex a' w' ⟨e', s', hk, hf', hm⟩
  have fin : ∀ {e' s' a' w'}, (∃ r, resOf e' s' rs = some r ∧ ∃ r' s'', Wk1 s' r s'' r' ∧ R r' s'') → Conf n s' e' a' w' → Mv (own s) (own s') w w' → a'.defers = [] ∧ ∃ v, (results fn a'.tmps).run P w' = .ok v w' ∧ ret R s w (.returned v) w' := by
    rintro e' s' a' w' ⟨r, hr, r', s'', hw, hR⟩ hf' hm
    obtain ⟨u, hu, hru⟩ := resOf_sound h5 hf' hr
    obtain ⟨g1, g2, g3⟩ := hw w' (fun _ => u) hf'.st (fun _ => hru)
    exact ⟨hf'.df, u, hu, u, r', s'', rfl, hR, g1, g2 0, hm.trans g3⟩
  cases ex with
  | normal => exact fin hk hf' hm
  | ret => exact fin hk hf' hm
  | exit i => exact hk.elim
  | goto l => exact hk.elim
  | panic ch => exact hk.elim
  | outgrown => exact hk.elim
end Go.Proofs.Ytjoncejabdjekaa.L
