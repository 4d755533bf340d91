/- An own program logic over the kit's walk, part 12: an operation of the program and its abstract one. -/
import Derived.Test.YtjoncejabdjekaaL11
set_option linter.unusedVariables false
set_option linter.unusedSimpArgs false
namespace Go.Proofs.Ytjoncejabdjekaa.L
open Go

/-- The program's operation and the abstract one. -/
inductive OkOp (P : Program) : Op → AOp → Prop where
  | mov {x y} (h : OkOpd x y) : OkOp P (.move x) (.mov y)
  | asg {x y} (h : OkOpd x y) : OkOp P (.assign x) (.mov y)
  | bin {ex op t x y t' x' y'} (h1 : OkOpd x x') (h2 : OkOpd y y') : OkOp P (.binOp op t x y t') (.bin ex op x' y')
  | eql {n t x y t' x' y'} (h : IntS P t n) (h1 : OkOpd x x') (h2 : OkOpd y y') : OkOp P (.binOp .eql t x y t') (.eqs false n x' y')
  | neq {n t x y t' x' y'} (h : IntS P t n) (h1 : OkOpd x x') (h2 : OkOpd y y') : OkOp P (.binOp .neq t x y t') (.eqs true n x' y')
  | unot {t x y} (h : OkOpd x y) : OkOp P (.unOp .not t x) (.unot y)
  | uneg {t x y} (h : OkOpd x y) : OkOp P (.unOp .neg t x) (.uneg y)
  | pick {c x y c' x' y'} (h : OkOpd c c') (h1 : OkOpd x x') (h2 : OkOpd y y') : OkOp P (.pick c x y) (.pick c' x' y')
  | nilc {x y} (h : OkOpd x y) : OkOp P (.nilCheck x) (.nilc y)
  | fld {T x f y off ag n} (h : OkOpd x y) (h1 : FdR P T f off ag n) (h2 : n ≠ 0) : OkOp P (.fieldAddr T x f) (.fld y off)
  | ld1 {T x y fr} (h : OkOpd x y) (h1 : TyR P T false 1) : OkOp P (.load T x) (.ld1 y fr)
  | ldn {T x y n fr} (h : OkOpd x y) (h1 : TyR P T true n) : OkOp P (.load T x) (.ldn y n fr)
  | fldv {T x f y off n ag} (h : OkOpd x y) (h1 : FdR P T f off ag n) (h2 : 0 < n) (h3 : ag = false → n = 1) : OkOp P (.field T x f) (.fldv y off n ag)
  | idx {T x i y j n} (h : OkOpd x y) (h1 : OkOpd i j) (h2 : SlR P T n) : OkOp P (.indexAddr T x i) (.idx y j n)
  | idxs {T x i y j} (h : OkOpd x y) (h1 : OkOpd i j) (h2 : P.underlying T = some .string) : OkOp P (.index T x i) (.idxs y j)
  | len {x y ts t0 E} (h : OkOpd x y) (h1 : ts[0]? = some t0) (h2 : P.underlying t0 = some (.slice E)) : OkOp P (.call { callee := .builtin .len, args := #[x], argTypes := ts }) (.len y)
  | lens {x y ts t0} (h : OkOpd x y) (h1 : ts[0]? = some t0) (h2 : P.underlying t0 = some .string) : OkOp P (.call { callee := .builtin .len, args := #[x], argTypes := ts }) (.lens y)
  | lenm {x y ts t0 kt et fr} (h : OkOpd x y) (h1 : ts[0]? = some t0) (h2 : P.underlying t0 = some (.map kt et)) : OkOp P (.call { callee := .builtin .len, args := #[x], argTypes := ts }) (.lenm y fr)
  | mn {x y x' y' ts} (h : OkOpd x x') (h1 : OkOpd y y') : OkOp P (.call { callee := .builtin .min, args := #[x, y], argTypes := ts }) (.mnx false x' y')
  | mx {x y x' y' ts} (h : OkOpd x x') (h1 : OkOpd y y') : OkOp P (.call { callee := .builtin .max, args := #[x, y], argTypes := ts }) (.mnx true x' y')
  | ext {x y i} (h : OkOpd x y) : OkOp P (.extract x i) (.ext y i)
  | bld {T pl z ps ps'} (h : BldR P T pl z) (h1 : OkParts pl z.length ps.toList ps') : OkOp P (.build T ps) (.bld z ps')
  | mkf {f xs ys} (h : OkOpds xs.toList ys) : OkOp P (.makeFunc (.func f) #[] xs) (.mkf f ys)
  | cvt {t u k d x y} (h : OkOpd x y) (h1 : P.underlying t = some d) (h2 : P.underlying u = some (.int k)) : OkOp P (.convert t u x) (.cvt k y)
  | sl {T n x y lo hi lo' hi'} (h : OkOpd x y) (h1 : SlR P T n) (h2 : OkBound lo lo') (h3 : OkBound hi hi') : OkOp P (.slice T x lo hi none) (.sl y lo' hi' n)
  | sls {T x y lo hi lo' hi'} (h : OkOpd x y) (h1 : P.underlying T = some .string) (h2 : OkBound lo lo') (h3 : OkBound hi hi') : OkOp P (.slice T x lo hi none) (.sls y lo' hi')
  | call {f xs ts ys} (h : OkOpds xs.toList ys) : OkOp P (.call { callee := .value (.func f), args := xs, argTypes := ts }) (.call f ys)
  | callv {c c' xs ts ys} (h : OkOpd c c') (h1 : OkOpds xs.toList ys) : OkOp P (.call { callee := .value c, args := xs, argTypes := ts }) (.callv c' ys)
  | bsl {T E k n ps ys} (h : BslR P T E k) (h1 : OkRow 0 ps.toList ys) (h2 : ys.length = n) (h3 : n * k ≤ 16777216) : OkOp P (.buildSlice T n ps) (.bsl k ys)
  | lkp {T kt et kn m key m' key' ok fr z} (h : P.underlying T = some (.map kt et)) (h1 : KeyR P kt kn) (h2 : ZvR P et z) (h3 : OkOpd m m') (h4 : OkOpd key key') : OkOp P (.lookup T m key ok) (.lkp kn ok z m' key' fr)
  | alc {T z} (h : AlcR P T z) : OkOp P (.alloc T) (.alc z)
  | box {T x y} (h : OkOpd x y) : OkOp P (.box T x) (.box y)
  | sto {T p v p' v' n} (h : ∀ w, (sizeOf T).run P w = .ok n w) (h1 : OkOpd p p') (h2 : OkOpd v v') : OkOp P (.store T p v) (.sto p' v' n)
  | mkm {T kn} : OkOp P (.makeMap T none) (.mkm kn T)
  | mks {T E k by_ z i zv n n'} (h : ElR P T E k by_ z i zv) (h1 : z.length = k) (h2 : OkOpd n n') : OkOp P (.makeSlice T n n) (.mks E k by_ z n')
  | bsr {T E k n ps ys} (h : BslR P T E k) (h1 : OkRow 0 ps.toList ys) (h2 : ys.length = n) (h3 : n * k ≤ 16777216) : OkOp P (.buildSlice T n ps) (.bsr E k ys)
  | app {T E k by_ z i zv x y x' y'} (h : ElR P T E k by_ z i zv) (h1 : OkOpd x x') (h2 : OkOpd y y') : OkOp P (.call { callee := .builtin .append, args := #[x, y], argTypes := #[T, T] }) (.app E k by_ x' y')
  | mup {T kt et kn m key v m' key' v'} (h : P.underlying T = some (.map kt et)) (h1 : KeyR P kt kn) (h2 : OkOpd m m') (h3 : OkOpd key key') (h4 : OkOpd v v') : OkOp P (.mapUpdate T m key v) (.mup kn m' key' v')
  | ins {T kt et kn m key v m' key' v'} (h : P.underlying T = some (.map kt et)) (h1 : KeyR P kt kn) (h2 : OkOpd m m') (h3 : OkOpd key key') (h4 : OkOpd v v') : OkOp P (.insert T m key v) (.mup kn m' key' v')
  | men {T kt et kn z m key m' key'} (h : P.underlying T = some (.map kt et)) (h1 : KeyR P kt kn) (h2 : ZvR P et z) (h3 : OkOpd m m') (h4 : OkOpd key key') : OkOp P (.mapEntry T m key) (.men kn z m' key')
  | ens {T m st v m' st' v'} (h : OkOpd m m') (h1 : OkOpd st st') (h2 : OkOpd v v') : OkOp P (.entryStore T m st v) (.ens m' st' v')
  | isn {ne t E x t' x'} (h : OkOpd x x') (hu : P.underlying t = some (.slice E)) : OkOp P (.binOp (if ne then .neq else .eql) t x (.const (.slice none 0 0)) t') (.isn ne x')
  | xcall {f xs ts ys} (h : OkOpds xs.toList ys) : OkOp P (.call { callee := .value (.func f), args := xs, argTypes := ts }) (.xcall f ys)
  | xcallv {c c' xs ts ys} (h : OkOpd c c') (h1 : OkOpds xs.toList ys) : OkOp P (.call { callee := .value c, args := xs, argTypes := ts }) (.xcallv c' ys)

section
variable {P : Program} {T : Tbl} {R : Nat → Prop} {o : Oper} {a : Act} {s : Store} {w : World} {ρ : Opd → AV}

theorem nop_sound (hT : TblOK P T) (hs : St s w) (hρ : ∀ x y, OkOpd x y → RV (own s) w (ρ y) (a.eval x)) {K : AV → Prop → Prop} {op : Op} {ao : AOp} (hop : o.op = op) (hk : OkOp P op ao) (he : isEff ao = false) (h : nop T R ao ρ s K) : NS P o a s w K := by
  cases hk with
  | mov h1 => exact ns_mov hs (.inl hop) (hρ _ _ h1) h
  | asg h1 => exact ns_mov hs (.inr hop) (hρ _ _ h1) h
  | bin h1 h2 => exact ns_bin hs hop (hρ _ _ h1) (hρ _ _ h2) h
  | eql h0 h1 h2 => exact ns_eqs (ne := false) hs hop rfl h0 (hρ _ _ h1) (hρ _ _ h2) h
  | neq h0 h1 h2 => exact ns_eqs (ne := true) hs hop rfl h0 (hρ _ _ h1) (hρ _ _ h2) h
  | unot h1 => exact ns_unot hs hop (hρ _ _ h1) h
  | uneg h1 => exact ns_uneg hs hop (hρ _ _ h1) h
  | pick h0 h1 h2 => exact ns_pick hs hop (hρ _ _ h0) (hρ _ _ h1) (hρ _ _ h2) h
  | nilc h1 => exact ns_nilc hs hop (hρ _ _ h1) h
  | fld h0 h1 h2 => exact ns_fld hs hop h1 h2 (hρ _ _ h0) h
  | ld1 h0 h1 => exact ns_ld1 hs hop h1 (hρ _ _ h0) h
  | ldn h0 h1 => exact ns_ldn hs hop h1 (hρ _ _ h0) h
  | fldv h0 h1 h2 h3 => exact ns_fldv hs hop h1 h2 h3 (hρ _ _ h0) h
  | idx h0 h1 h2 => exact ns_idx hs hop h2 (hρ _ _ h0) (hρ _ _ h1) h
  | idxs h0 h1 h2 => exact ns_idxs hs hop h2 (hρ _ _ h0) (hρ _ _ h1) h
  | len h0 h1 h2 => exact ns_len hs hop h1 h2 (hρ _ _ h0) h
  | lens h0 h1 h2 => exact ns_lens hs hop h1 h2 (hρ _ _ h0) h
  | lenm h0 h1 h2 => exact ns_lenm hs hop h1 h2 (hρ _ _ h0) h
  | mn h0 h1 => exact ns_mnx (mx := false) hs hop (hρ _ _ h0) (hρ _ _ h1) h
  | mx h0 h1 => exact ns_mnx (mx := true) hs hop (hρ _ _ h0) (hρ _ _ h1) h
  | ext h0 => exact ns_ext hs hop (hρ _ _ h0) h
  | bld h0 h1 => exact ns_bld hs hρ hop h0 h1 h
  | mkf h0 => exact ns_mkf hs hρ hop h0 h
  | cvt h0 h1 h2 => exact ns_cvt hs hop h1 h2 (hρ _ _ h0) h
  | sl h0 h1 h2 h3 => exact ns_sl hs hρ hop h1 h0 h2 h3 h
  | sls h0 h1 h2 h3 => exact ns_sls hs hρ hop h1 h0 h2 h3 h
  | call h0 => exact ns_call hT hs hρ hop h0 h
  | callv h0 h1 => exact ns_callv hT hs hρ hop h0 h1 h
  | bsl h0 h1 h2 h3 => exact ns_bsl hs hρ hop h0 h1 h2 h3 h
  | lkp h0 h1 h2 h3 h4 => exact ns_lkp hs hop h0 h1 h2 (hρ _ _ h3) (hρ _ _ h4) h
  | _ => simp [isEff] at he

theorem eff_sound (hs : St s w) (hR : ∀ b, R b → b < w.heap.size) (hρ : ∀ x y, OkOpd x y → RV (own s) w (ρ y) (a.eval x)) {K : AV → Store → Prop} {op : Op} {ao : AOp} (hop : o.op = op) (hk : OkOp P op ao) (he : isEff ao = true) (h : eff P R ao ρ s K) : YW P o a s w K := by
  cases hk with
  | alc h0 => exact es_alc hs hR hop h0 h
  | box h0 => exact es_box hs hR hop (hρ _ _ h0) h
  | sto h0 h1 h2 => exact es_sto hs hop h0 (hρ _ _ h1) (hρ _ _ h2) h
  | mkm => exact es_mkm hs hR hop h
  | mks h0 h1 h2 => exact es_mks hs hR hop rfl h0 h1 (hρ _ _ h2) h
  | bsr h0 h1 h2 h3 => exact es_bsr hs hR hρ hop h0 h1 h2 h3 h
  | app h0 h1 h2 => exact es_app hs hR hop h0 (hρ _ _ h1) (hρ _ _ h2) h
  | mup h0 h1 h2 h3 h4 => exact es_mup hs (.inl hop) h0 h1 (hρ _ _ h2) (hρ _ _ h3) (hρ _ _ h4) h
  | ins h0 h1 h2 h3 h4 => exact es_mup hs (.inr hop) h0 h1 (hρ _ _ h2) (hρ _ _ h3) (hρ _ _ h4) h
  | men h0 h1 h2 h3 h4 => exact es_men hs hop h0 h1 h2 (hρ _ _ h3) (hρ _ _ h4) h
  | ens h0 h1 h2 => exact es_ens hs hop (hρ _ _ h0) (hρ _ _ h1) (hρ _ _ h2) h
  | isn h0 hu => exact es_isn hs hop hu (hρ _ _ h0) h
  | xcall h0 => exact es_xcall hs hρ hop h0 h
  | xcallv h0 h1 => exact es_xcallv hs hρ hop h0 h1 h
  | _ => simp [isEff] at he
end

/-- Slots behind an operation. -/
theorem Conf.put {n : Nat} {s s' : Store} {e : Env} {a : Act} {w w' : World} (hf : Conf n s e a w) {d : Option Nat} (hd : ∀ x, d = some x → x < n) {r : AV} {v : Value} (hv : RV (own s') w' r v) (hs : St s' w') (hm : Mv (own s) (own s') w w') : Conf n s' (Env.put e d r) (a.put d v) w' := by
  cases d with
  | none => exact ⟨hf.sz, hs, fun t => (hf.env t).mv hm, hf.df⟩
  | some d =>
    have hlt := hd d rfl
    refine ⟨by simpa [Act.put] using hf.sz, hs, fun t => ?_, hf.df⟩
    simp only [Env.put, Env.set, Act.put, Array.getD_eq_getD_getElem?]
    have hsz := hf.sz
    by_cases ht : t = d
    · subst ht
      rw [if_pos rfl, Array.getElem?_setIfInBounds_self_of_lt (by omega)]
      exact hv
    · rw [if_neg ht, Array.getElem?_setIfInBounds_ne (fun e => ht e.symm), ← Array.getD_eq_getD_getElem?]
      exact (hf.env t).mv hm

theorem opd_sound {n : Nat} {s : Store} {e : Env} {a : Act} {w : World} (hf : Conf n s e a w) (x : Operand) (y : Opd) (h : OkOpd x y) : RV (own s) w (opd e y) (a.eval x) := by
  cases x with
  | tmp t => cases y with
    | t t' => cases (show t = t' from h); exact hf.env t
    | c a => exact h.elim
  | const v => cases y with
    | t t' => exact h.elim
    | c a => exact h _ _
  | global g => cases y <;> exact h.elim
  | func f => cases y with
    | t t' => exact h.elim
    | c a => cases a with
      | fn f' cap => cases cap with
        | nil => cases (show f = f' from h); exact .fn _ [] [] rfl (fun j hj => by simp at hj)
        | cons => exact h.elim
      | _ => exact h.elim

structure OkOper (P : Program) (n : Nat) (ops : Array Oper) (o : Oper) (ao : AOper) : Prop where
  dst : o.dst = ao.dst
  lt : ∀ x, o.dst = some x → x < n
  op : OkOp P o.op ao.op
  grd : (o.guard = none ∧ ao.grd = none) ∨ ∃ j c g, o.guard = some (j, c) ∧ (ops[j]?).bind (·.dst) = some g ∧ ao.grd = some (g, c)

theorem xo_sound {P : Program} {T : Tbl} {R : Nat → Prop} (hT : TblOK P T) {n : Nat} {ops : Array Oper} {o : Oper} {ao : AOper} (hok : OkOper P n ops o ao) {s : Store} {e : Env} {a : Act} {w : World} (hf : Conf n s e a w) (hR : ∀ b, R b → b < w.heap.size)
    {K : Env → Store → Prop} (h : xo P T R ao K e s) {next : Act → World → Prop} {Q : Exit → Act → World → Prop} (hn : ∀ e' s' a' w', K e' s' → Conf n s' e' a' w' → Mv (own s) (own s') w w' → next a' w') :
    if Region.wanted o (yielded ops a.tmps) then o.wp P a w next Q else next (a.put o.dst Go.undef) w := by
  have hρ := opd_sound hf
  have effs : ∀ K' : AV → Store → Prop, isEff ao.op = true → eff P R ao.op (opd e) s K' → (∀ r s', K' r s' → K (Env.put e ao.dst r) s') → o.wp P a w next Q := fun K' he hef hk =>
    eff_sound hf.st hR hρ rfl hok.op he hef next Q fun v r s' w' h1 h2 h3 h4 => by
      have := hk r s' h1
      rw [← hok.dst] at this
      exact hn _ _ _ _ this (hf.put hok.lt h2 h3 h4) h4
  rcases hok.grd with ⟨g1, g2⟩ | ⟨j, c, g, g1, g2, g3⟩
  · have hw : Region.wanted o (yielded ops a.tmps) = true := by simp [Region.wanted, g1]
    rw [if_pos hw]
    simp only [xo, g2] at h
    cases he : isEff ao.op with
    | true =>
      rw [he] at h
      exact effs _ he h fun _ _ h => h
    | false =>
      rw [he] at h
      obtain ⟨r, p, ⟨hp, hk⟩, hy⟩ := nop_sound hT hf.st hρ rfl hok.op he h
      refine hy hp next Q fun v r' s' w' h1 h2 h3 h4 => ?_
      obtain ⟨rfl, rfl⟩ := h1
      rw [← hok.dst] at hk
      exact hn _ _ _ _ hk (hf.put hok.lt h2 h3 h4) h4
  · simp only [xo, g3] at h
    split at h
    · rename_i q hq
      have hw : Region.wanted o (yielded ops a.tmps) = q := by
        have hg := hf.env g
        cases heg : e g with
        | bool cb =>
          rw [heg] at hg hq
          have hgv := inv_bool hg
          have hget : a.tmps[g]? = some (.bool cb) := by
            rw [Array.getD_eq_getD_getElem?] at hgv
            cases ht : a.tmps[g]? with
            | none => rw [ht] at hgv; cases hgv
            | some v => rw [ht] at hgv; exact congrArg some hgv
          simp only [grdOf, Option.some.injEq] at hq
          rw [← hq]
          simp only [Region.wanted, g1, yielded, g2, Option.bind_some, hget]
          cases c <;> cases cb <;> rfl
        | whn g' x =>
          rw [heg] at hg hq
          obtain ⟨h1, h2⟩ := inv_whn hg
          cases g' with
          | true =>
            cases x with
            | bool cb =>
              simp only [grdOf, Option.some.injEq] at hq
              have hgv := inv_bool (h1 rfl)
              have hget : a.tmps[g]? = some (.bool cb) := by
                rw [Array.getD_eq_getD_getElem?] at hgv
                cases ht : a.tmps[g]? with
                | none => rw [ht] at hgv; cases hgv
                | some v => rw [ht] at hgv; exact congrArg some hgv
              rw [← hq]
              simp only [Region.wanted, g1, yielded, g2, Option.bind_some, hget]
              cases c <;> cases cb <;> rfl
            | _ => simp [grdOf] at hq
          | false =>
            simp only [grdOf, Option.some.injEq] at hq
            have hgv := h2 rfl
            rw [← hq]
            rw [Array.getD_eq_getD_getElem?] at hgv
            have hy : yielded ops a.tmps j = none := by
              simp only [yielded, g2, Option.bind_some]
              cases ht : a.tmps[g]? with
              | none => rfl
              | some v => rw [ht] at hgv; simp only [Option.getD_some] at hgv; rw [hgv]; rfl
            simp only [Region.wanted, g1, hy]
            cases c <;> rfl
        | _ => rw [heg] at hq; simp [grdOf] at hq
      rw [hw]
      cases hgb : q with
      | true =>
        rw [if_pos rfl]
        cases he : isEff ao.op with
        | true =>
          rw [he] at h
          exact effs _ he (h.1 hgb) fun _ _ h => h
        | false =>
          rw [he] at h
          subst hgb
          obtain ⟨r, p, ⟨hp, hk⟩, hy⟩ := nop_sound hT hf.st hρ rfl hok.op he h
          refine hy hp next Q fun v r' s' w' h1 h2 h3 h4 => ?_
          obtain ⟨rfl, rfl⟩ := h1
          rw [← hok.dst] at hk
          exact hn _ _ _ _ hk (hf.put hok.lt (.whn _ _ _ (fun _ => h2) (fun h => by cases h)) h3 h4) h4
      | false =>
        rw [if_neg (by simp)]
        cases he : isEff ao.op with
        | true =>
          rw [he] at h
          have hk := h.2 hgb
          rw [← hok.dst] at hk
          exact hn _ _ _ _ hk (hf.put hok.lt (.undef _) hf.st (Mv.refl _ _)) (Mv.refl _ _)
        | false =>
          rw [he] at h
          subst hgb
          have hk : K (Env.put e ao.dst (.whn false .undef)) s := h
          rw [← hok.dst] at hk
          exact hn _ _ _ _ hk (hf.put hok.lt (.whn _ _ _ (fun h => by cases h) (fun _ => rfl)) hf.st (Mv.refl _ _)) (Mv.refl _ _)
    · exact h.elim
end Go.Proofs.Ytjoncejabdjekaa.L
