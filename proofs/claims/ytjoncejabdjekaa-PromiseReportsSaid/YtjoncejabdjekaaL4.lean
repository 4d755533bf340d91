/- An own program logic over the kit's walk, part 4: arithmetic, comparisons, structs that are compared, built, sliced; maps that are read. -/
import Derived.Test.YtjoncejabdjekaaL3
import Derived.MapKept
import Derived.Laws.StructEq
import Derived.Laws.Tables
set_option linter.unusedVariables false
set_option linter.unusedSimpArgs false
namespace Go.Proofs.Ytjoncejabdjekaa.L
open Go

section
variable {P : Program} {T : Tbl} {R : Nat → Prop} {o : Oper} {a : Act} {s : Store} {w : World} {ρ : Opd → AV} {K : AV → Prop → Prop}

theorem int_beq (a b : Int) : (a == b) = decide (a = b) := by by_cases h : a = b <;> simp [h]

theorem run_eqGuard_int (op : BinOp) (t : TypeId) (x y : Operand) (k : IntKind) (n : Int) (v : Value) (w : World) : (eqGuard op t x y (.int k n) v).run P w = .ok () w := by
  cases op <;> simp [eqGuard]
theorem run_eqGuard_str (op : BinOp) (t : TypeId) (x y : Operand) (n : ByteArray) (v : Value) (w : World) : (eqGuard op t x y (.string n) v).run P w = .ok () w := by
  cases op <;> simp [eqGuard]

theorem bin_exec {op : BinOp} {t t' : TypeId} {x y : Operand} (ho : o.op = .binOp op t x y t') {u v r : Value} (hx : a.eval x = u) (hy : a.eval y = v) (hg : (eqGuard op t x y u v).run P w = .ok () w) (hb : (binOp op t u v).run P w = .ok r w) :
    (execOp a.eval o).run P w = .ok (.value r) w := by
  simp only [execOp, ho, hx, hy, Sem.run_bind, hg, hb, Result.andThen_ok, Sem.run_pure]

theorem ns_bin (hs : St s w) {op : BinOp} {t t' : TypeId} {x y : Operand} {x' y' : Opd} {ex : Bool} (ho : o.op = .binOp op t x y t') (hx : RV (own s) w (ρ x') (a.eval x)) (hy : RV (own s) w (ρ y') (a.eval y))
    (h : nop T R (.bin ex op x' y') ρ s K) : NS P o a s w K := by
  simp only [nop] at h
  generalize hu : (ρ x').val = u at h
  generalize hv : (ρ y').val = v at h
  have hx' : (ρ x').df → RV (own s) w u (a.eval x) := fun hd => by rw [← hu]; exact RV_val hx hd
  have hy' : (ρ y').df → RV (own s) w v (a.eval y) := fun hd => by rw [← hv]; exact RV_val hy hd
  have ar : ∀ (k : IntKind) (n : Int) (r : AV), True := fun _ _ _ => trivial
  unfold binv at h
  have int2 : ∀ (k k' : IntKind) (m n : Int) (r : AV) (p : Prop) (rv : Value), u = .int k m → v = .int k' n → K r ((ρ x').df ∧ (ρ y').df ∧ p) → RV (own s) w r rv → (p → (binOp op t (.int k m) (.int k' n)).run P w = .ok rv w) → NS P o a s w K := by
    intro k k' m n r p rv e1 e2 hk hr hrun
    refine NS_same hs hk fun hd => ⟨rv, ?_, hr⟩
    have h1 := hx' hd.1
    have h2 := hy' hd.2.1
    rw [e1] at h1
    rw [e2] at h2
    exact bin_exec ho (inv_int h1) (inv_int h2) (run_eqGuard_int ..) (hrun hd.2.2)
  have str2 : ∀ (m n : ByteArray) (r : AV) (p : Prop) (rv : Value), u = .str m → v = .str n → K r ((ρ x').df ∧ (ρ y').df ∧ p) → RV (own s) w r rv → (p → (binOp op t (.string m) (.string n)).run P w = .ok rv w) → NS P o a s w K := by
    intro m n r p rv e1 e2 hk hr hrun
    refine NS_same hs hk fun hd => ⟨rv, ?_, hr⟩
    have h1 := hx' hd.1
    have h2 := hy' hd.2.1
    rw [e1] at h1
    rw [e2] at h2
    exact bin_exec ho (inv_str h1) (inv_str h2) (run_eqGuard_str ..) (hrun hd.2.2)
  split at h
  · obtain ⟨rfl, h⟩ := h
    cases ex
    · exact int2 _ _ _ _ _ _ _ rfl rfl h (.fz _ _ (.int _ _)) fun _ => by simp [binOp, Op.intArith]
    · exact int2 _ _ _ _ _ _ _ rfl rfl h (.fz _ _ (.int _ _)) fun hp => by unfold okk at hp; simp [binOp, Op.intArith, hp]
  · obtain ⟨rfl, h⟩ := h
    cases ex
    · exact int2 _ _ _ _ _ _ _ rfl rfl h (.fz _ _ (.int _ _)) fun _ => by simp [binOp, Op.intArith]
    · exact int2 _ _ _ _ _ _ _ rfl rfl h (.fz _ _ (.int _ _)) fun hp => by unfold okk at hp; simp [binOp, Op.intArith, hp]
  · obtain ⟨rfl, h⟩ := h
    cases ex
    · exact int2 _ _ _ _ _ _ _ rfl rfl h (.fz _ _ (.int _ _)) fun _ => by simp [binOp, Op.intArith]
    · exact int2 _ _ _ _ _ _ _ rfl rfl h (.fz _ _ (.int _ _)) fun hp => by unfold okk at hp; simp [binOp, Op.intArith, hp]
  · obtain ⟨rfl, h⟩ := h
    exact int2 _ _ _ _ _ _ _ rfl rfl h (.fz _ _ (.int _ _)) fun hp => by have := hp.2; unfold okk at this; simp [binOp, Op.intDiv, hp.1, this]
  · obtain ⟨rfl, h⟩ := h
    exact int2 _ _ _ _ _ _ _ rfl rfl h (.fz _ _ (.int _ _)) fun hp => by simp [binOp, Op.intDiv, hp]
  · obtain ⟨rfl, h⟩ := h
    exact int2 _ _ _ _ _ _ _ rfl rfl h (.fz _ _ (.int _ _)) fun hp => by simp [binOp, Op.intBits, band]
  · exact int2 _ _ _ _ _ _ _ rfl rfl h (.fz _ _ (.int _ _)) fun hp => by simp [binOp, Op.shift, Int.not_lt.2 hp]
  · exact int2 _ _ _ _ _ _ _ rfl rfl h (.fz _ _ (.int _ _)) fun hp => by simp [binOp, Op.shift, Int.not_lt.2 hp]
  · obtain ⟨rfl, h⟩ := h
    exact int2 _ _ _ _ _ _ _ rfl rfl h (.fz _ _ (.bool _)) fun _ => by simp [binOp, Op.intCmp, int_beq]
  · obtain ⟨rfl, h⟩ := h
    exact int2 _ _ _ _ _ _ _ rfl rfl h (.fz _ _ (.bool _)) fun _ => by simp [binOp, Op.intCmp, bne, int_beq]
  · obtain ⟨rfl, h⟩ := h
    exact int2 _ _ _ _ _ _ _ rfl rfl h (.fz _ _ (.bool _)) fun _ => by simp [binOp, Op.intCmp]
  · obtain ⟨rfl, h⟩ := h
    exact int2 _ _ _ _ _ _ _ rfl rfl h (.fz _ _ (.bool _)) fun _ => by simp [binOp, Op.intCmp]
  · obtain ⟨rfl, h⟩ := h
    exact int2 _ _ _ _ _ _ _ rfl rfl h (.fz _ _ (.bool _)) fun _ => by simp [binOp, Op.intCmp]
  · obtain ⟨rfl, h⟩ := h
    exact int2 _ _ _ _ _ _ _ rfl rfl h (.fz _ _ (.bool _)) fun _ => by simp [binOp, Op.intCmp]
  · exact str2 _ _ _ _ _ rfl rfl h (.fz _ _ (.str _)) fun hp => by
      have hm : IntKind.i64.max = 9223372036854775807 := by decide
      simp only [binOp, Op.stringOp, Sem.run_ite, hm]
      rw [if_neg (by omega)]
      rfl
  · exact str2 _ _ _ _ _ rfl rfl h (.fz _ _ (.bool _)) fun _ => by simp [binOp, Op.stringOp]
  · exact str2 _ _ _ _ _ rfl rfl h (.fz _ _ (.bool _)) fun _ => by simp [binOp, Op.stringOp]
  · exact str2 _ _ _ _ _ rfl rfl h (.fz _ _ (.bool _)) fun _ => by simp [binOp, Op.stringOp]
  · exact h.elim

/-! Structs of whole numbers. -/
structure IntS (P : Program) (T : TypeId) (n : Nat) : Prop where
  und : P.underlying T = some (.struct (P.fieldsOf T))
  held : P.stoodInHeld T = false
  grd : P.eqGuardType P.depth T = false
  len : (P.fieldsOf T).toList.length = n
  fld : ∀ (i : Nat) (f : Field), (P.fieldsOf T).toList[i]? = some f → f.name ≠ "_" ∧ f.offset = i ∧ P.underlying f.type = some (.int .i64)

theorem run_isAgg_int {P : Program} {t : TypeId} {k : IntKind} (h : P.underlying t = some (.int k)) (w : World) : (isAgg t).run P w = .ok false w := by
  simp [isAgg, run_underlying h]

theorem run_eqFields (d : Nat) (xs ys : List Int) : ∀ (fs : List Field) (i : Nat) (w : World), (∀ j f, fs[j]? = some f → f.name ≠ "_" ∧ f.offset = i + j ∧ P.underlying f.type = some (.int .i64)) → xs.length = i + fs.length → ys.length = i + fs.length →
    (Op.eqFields (d + 1) (xs.map (Value.int .i64)).toArray (ys.map (Value.int .i64)).toArray fs).run P w = .ok (decide (xs.drop i = ys.drop i)) w
  | [], i, w, _, h1, h2 => by simp at h1 h2; simp [Op.eqFields, ← h1, h2]
  | f :: fs, i, w, hf, h1, h2 => by
    obtain ⟨g1, g2, g3⟩ := hf 0 f rfl
    simp at h1 h2
    have hx : i < xs.length := by omega
    have hy : i < ys.length := by omega
    have p1 : ∀ (zs : List Int) (h : i < zs.length) (w : World), (part f.type (zs.map (Value.int .i64)).toArray f.offset).run P w = .ok (.int .i64 zs[i]) w := fun zs h w => by
      simp only [part, Sem.run_bind, run_isAgg_int g3, Result.andThen_ok, Bool.false_eq_true, if_false, g2, Nat.add_zero]
      simp [h]
    simp only [Op.eqFields, if_pos g1, Sem.run_bind, p1 xs hx, p1 ys hy, Result.andThen_ok, run_equalIn_int w d f.type .i64 .i64 _ _ g3]
    have hd1 : xs.drop i = xs[i] :: xs.drop (i + 1) := List.drop_eq_getElem_cons hx
    have hd2 : ys.drop i = ys[i] :: ys.drop (i + 1) := List.drop_eq_getElem_cons hy
    have key : (xs.drop i = ys.drop i) ↔ (xs[i] = ys[i] ∧ xs.drop (i + 1) = ys.drop (i + 1)) := by rw [hd1, hd2, List.cons.injEq]
    have key' : (decide (xs.drop i = ys.drop i) : Bool) = (decide (xs[i] = ys[i]) && decide (xs.drop (i + 1) = ys.drop (i + 1))) := by
      rw [Bool.eq_iff_iff]; simp only [decide_eq_true_eq, Bool.and_eq_true]; exact key
    rw [key']
    have ih := run_eqFields d xs ys fs (i + 1) w (fun j f hj => by have := hf (j + 1) f (by simpa using hj); refine ⟨this.1, by omega, this.2.2⟩) (by omega) (by omega)
    clear key key' hd1 hd2
    generalize xs.drop (i + 1) = u at ih ⊢
    generalize ys.drop (i + 1) = v at ih ⊢
    by_cases he : xs[i] = ys[i]
    · simp only [he, beq_self_eq_true, Bool.not_true, Bool.false_eq_true, if_false, decide_true, Bool.true_and]
      exact ih
    · simp [he]

theorem run_eq_ints {T n : Nat} (hT : IntS P T n) (d : Nat) (xs ys : List Int) (hx : xs.length = n) (hy : ys.length = n) (w : World) :
    (Op.equalIn (d + 2) T (.agg (xs.map (Value.int .i64)).toArray) (.agg (ys.map (Value.int .i64)).toArray)).run P w = .ok (decide (xs = ys)) w := by
  rw [run_equalIn_struct w (d + 1) T _ _ hT.und hT.held, run_eqFields d xs ys _ 0 w (fun j f hj => by have := hT.fld j f hj; simpa using this) (by rw [hT.len]; omega) (by rw [hT.len]; omega)]
  simp

theorem eqInts_lists : ∀ (cs ds : List AV) (acc : Bool) (K : Bool → Prop), eqInts cs ds acc K → ∃ xs ys : List Int, cs = xs.map (AV.int .i64) ∧ ds = ys.map (AV.int .i64) ∧ xs.length = ys.length ∧ K (acc && decide (xs = ys))
  | [], [], acc, K, h => ⟨[], [], rfl, rfl, rfl, by simpa [eqInts] using h⟩
  | c :: cs, d :: ds, acc, K, h => by
    cases c <;> cases d <;> simp only [eqInts] at h
    rename_i k a k' b
    obtain ⟨rfl, rfl, h⟩ := h
    obtain ⟨xs, ys, h1, h2, h3, h4⟩ := eqInts_lists cs ds _ K h
    refine ⟨a :: xs, b :: ys, by simp [h1], by simp [h2], by simp [h3], ?_⟩
    have e : (acc && decide (a :: xs = b :: ys)) = ((acc && decide (a = b)) && decide (xs = ys)) := by
      by_cases e1 : a = b <;> by_cases e2 : xs = ys <;> simp [e1, e2]
    rw [e]; exact h4
  | [], _ :: _, _, _, h => by simp [eqInts] at h
  | _ :: _, [], _, _, h => by simp [eqInts] at h

/-- A struct of whole numbers, as a value. -/
theorem agg_ints {xs : List Int} {v : Value} (h : RV (own s) w (.agg (xs.map (AV.int .i64))) v) : v = .agg (xs.map (Value.int .i64)).toArray := by
  obtain ⟨vs, e1, e2, e3⟩ := inv_agg h
  rw [e1]
  congr 2
  simp at e2 e3
  apply List.ext_getElem (by simp [e2])
  intro i h1 h2
  have := e3 i (by omega)
  have e : at_ (xs.map (AV.int .i64)) i = AV.int .i64 (xs[i]'(by omega)) := by simp [at_, List.getD_eq_getElem?_getD, show i < xs.length by omega]
  rw [e] at this
  have := inv_int this
  simpa [vat, List.getD_eq_getElem?_getD, h1] using this

theorem ns_eqs (hs : St s w) {op : BinOp} {t t' n : Nat} {x y : Operand} {x' y' : Opd} {ne : Bool} (ho : o.op = .binOp op t x y t') (hop : op = if ne then .neq else .eql) (hT : IntS P t n) (hx : RV (own s) w (ρ x') (a.eval x)) (hy : RV (own s) w (ρ y') (a.eval y)) (h : nop T R (.eqs ne n x' y') ρ s K) : NS P o a s w K := by
  simp only [nop] at h
  split at h
  · rename_i cs ds hu hv
    obtain ⟨hn, h⟩ := h
    obtain ⟨xs, ys, rfl, rfl, h3, h4⟩ := eqInts_lists _ _ _ _ h
    have hl : xs.length = n := by simpa using hn
    refine NS_same hs h4 fun hd => ⟨_, ?_, .fz _ _ (.bool _)⟩
    have h1 := RV_val hx hd.1
    rw [hu] at h1
    have h2 := RV_val hy hd.2
    rw [hv] at h2
    have key := run_eq_ints hT 9998 xs ys hl (by omega) w
    refine bin_exec ho (agg_ints h1) (agg_ints h2) (run_eqGuard_agg _ _ _ _ _ _ _ hT.grd) ?_
    subst hop
    cases ne
    · simp only [Bool.false_eq_true, if_false, run_eql_struct, key, Result.andThen_ok, Bool.true_and]
    · simp only [if_true, run_neq_struct, key, Result.andThen_ok, Bool.true_and]
  · exact h.elim
end
end Go.Proofs.Ytjoncejabdjekaa.L
