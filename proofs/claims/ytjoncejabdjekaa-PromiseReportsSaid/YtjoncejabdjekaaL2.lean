/- An own program logic over the kit's walk, part 2: the plain operations do what they say. -/
import Derived.Test.YtjoncejabdjekaaL1
set_option linter.unusedVariables false
set_option linter.unusedSimpArgs false
namespace Go.Proofs.Ytjoncejabdjekaa.L
open Go

/-! ### What a value is, by its abstract one -/
section
variable {o : Nat → Prop} {w : World}
theorem inv_int {k : IntKind} {n : Int} {v : Value} (h : RV o w (.int k n) v) : v = .int k n := by
  cases h with | fz a v h => cases h; rfl
theorem inv_bool {b : Bool} {v : Value} (h : RV o w (.bool b) v) : v = .bool b := by
  cases h with | fz a v h => cases h; rfl
theorem inv_str {b : ByteArray} {v : Value} (h : RV o w (.str b) v) : v = .string b := by
  cases h with | fz a v h => cases h; rfl
theorem inv_nilp {v : Value} (h : RV o w .nilp v) : v = .pointer none := by
  cases h with | fz a v h => cases h; rfl
theorem inv_nilm {v : Value} (h : RV o w .nilm v) : v = .map none := by
  cases h with | fz a v h => cases h; rfl
theorem inv_ptr {b p : Nat} {v : Value} (h : RV o w (.ptr b p) v) : v = .pointer (some ⟨b, p, none⟩) := by
  cases h with
  | fz a v h => cases h
  | ptr => rfl
theorem inv_rptr {b k i j : Nat} {v : Value} (h : RV o w (.rptr b k i j) v) : v = .pointer (some ⟨b, i * k + j, none⟩) := by
  cases h with
  | fz a v h => cases h
  | rptr => rfl
theorem inv_slc {b n c : Nat} {v : Value} (h : RV o w (.slc b n c) v) : v = .slice (some ⟨b, 0, none⟩) n c := by
  cases h with
  | fz a v h => cases h
  | slc => rfl
theorem inv_mp {b : Nat} {v : Value} (h : RV o w (.mp b) v) : v = .map (some b) := by
  cases h with
  | fz a v h => cases h
  | mp => rfl
theorem inv_emp {v : Value} (h : RV o w .emp v) : ∃ a, v = .slice a 0 0 := by
  cases h with | fz a v h => cases h; exact ⟨_, rfl⟩
theorem inv_elm {cs : List AV} {v : Value} (h : RV o w (.elm cs) v) : ∃ (a : Addr) (vf : Nat → Value), v = .pointer (some a) ∧ a.spot = none ∧ ¬ o a.block ∧ a.block < w.heap.size ∧
    (∀ j, j < cs.length → w.cell? (a.add j) = some (vf j)) ∧ (∀ j, j < cs.length → FV o w (at_ cs j) (vf j)) := by
  cases h with | fz a v h => cases h with | elm cs a vf hsp ha hb hc hv => exact ⟨a, vf, rfl, hsp, ha, hb, hc, hv⟩
theorem inv_lst {k n : Nat} {get : Nat → List AV} {v : Value} (h : RV o w (.lst k n get) v) : ∃ a c, v = .slice a n c ∧ n ≤ c ∧ (0 < n → ∃ (ad : Addr) (vf : Nat → Nat → Value), a = some ad ∧ ad.spot = none ∧ ¬ o ad.block ∧ ad.block < w.heap.size ∧
    (∀ i j, i < n → j < k → w.cell? (ad.add (i * k + j)) = some (vf i j)) ∧ (∀ i, i < n → (get i).length = k) ∧ (∀ i j, i < n → j < k → FV o w (at_ (get i) j) (vf i j))) := by
  cases h with
  | fz a v h => cases h with
    | lst0 k get a c => exact ⟨a, c, rfl, Nat.zero_le _, fun h => by omega⟩
    | lst k n get a c vf hn hnc hsp ha hb hc hl hv => exact ⟨some a, c, rfl, hnc, fun _ => ⟨a, vf, rfl, hsp, ha, hb, hc, hl, hv⟩⟩
theorem inv_agg {cs : List AV} {v : Value} (h : RV o w (.agg cs) v) : ∃ vs : List Value, v = .agg vs.toArray ∧ vs.length = cs.length ∧ ∀ j, j < cs.length → RV o w (at_ cs j) (vat vs j) := by
  cases h with
  | fz a v h => cases h
  | agg cs vs hl h => exact ⟨vs, rfl, hl, h⟩
theorem inv_tup {cs : List AV} {v : Value} (h : RV o w (.tup cs) v) : ∃ vs : List Value, v = .tuple vs.toArray ∧ vs.length = cs.length ∧ ∀ j, j < cs.length → RV o w (at_ cs j) (vat vs j) := by
  cases h with
  | fz a v h => cases h
  | tup cs vs hl h => exact ⟨vs, rfl, hl, h⟩
theorem inv_fn {f : FuncId} {cs : List AV} {v : Value} (h : RV o w (.fn f cs) v) : ∃ vs : List Value, v = .func (.func f) #[] vs.toArray ∧ vs.length = cs.length ∧ ∀ j, j < cs.length → RV o w (at_ cs j) (vat vs j) := by
  cases h with
  | fz a v h => cases h
  | fn f cs vs hl h => exact ⟨vs, rfl, hl, h⟩
theorem inv_whn {g : Bool} {a : AV} {v : Value} (h : RV o w (.whn g a) v) : (g = true → RV o w a v) ∧ (g = false → v = Go.undef) := by
  cases h with
  | whn _ _ _ h h' => exact ⟨h, h'⟩
  | fz _ _ h => cases h
theorem RV_val {x : AV} {v : Value} (h : RV o w x v) (hd : x.df) : RV o w x.val v := by
  cases x with
  | whn g a =>
    cases h with
    | fz a v h => cases h
    | whn g a v h h' => exact h hd
  | _ => exact h
theorem RV_one {x : AV} {v : Value} (h : RV o w x v) (h1 : x.one = true) : v.oneCell' = true := by
  cases h with
  | undef => simp [AV.one] at h1
  | fz a v h => cases h <;> rfl
  | agg => simp [AV.one] at h1
  | tup => simp [AV.one] at h1
  | whn => simp [AV.one] at h1
  | _ => rfl

/-- The cells of a value. -/
theorem RV_cells {x : AV} {v : Value} (h : RV o w x v) (h1 : (cellsOf x).all AV.one = true) : v.cells.size = (cellsOf x).length ∧ (∀ j, j < (cellsOf x).length → RV o w (at_ (cellsOf x) j) (v.cells.getD j Go.undef)) ∧ (∀ u ∈ v.cells.toList, u.oneCell' = true) := by
  cases x with
  | agg cs =>
    obtain ⟨vs, rfl, hl, hv⟩ := inv_agg h
    simp only [cellsOf] at *
    refine ⟨by simpa [Value.cells] using hl, fun j hj => by simpa [Value.cells, vat] using hv j hj, fun u hu => ?_⟩
    simp only [Value.cells] at hu
    obtain ⟨j, hj, rfl⟩ := List.getElem_of_mem hu
    have hj' : j < cs.length := by rw [← hl]; simpa using hj
    have := hv j hj'
    have h2 : (at_ cs j).one = true := by
      have := List.all_eq_true.1 h1 (cs[j]) (List.getElem_mem hj')
      simpa [at_, List.getD_eq_getElem?_getD, hj'] using this
    have h3 := RV_one this h2
    simpa [vat, List.getD_eq_getElem?_getD, hl, hj'] using h3
  | _ =>
    have h2 := RV_one h (by simpa [cellsOf] using h1)
    have hc : v.cells = #[v] := by cases v <;> first | rfl | simp [Value.oneCell'] at h2
    rw [hc]
    refine ⟨by simp [cellsOf], fun j hj => ?_, fun u hu => ?_⟩
    · obtain rfl : j = 0 := by simp [cellsOf] at hj; omega
      simpa [cellsOf, at_] using h
    · simp at hu; rw [hu]; exact h2
end

/-! ### One operation of the machine -/
def YW (P : Program) (o : Oper) (a : Act) (s : Store) (w : World) (k : AV → Store → Prop) : Prop :=
  ∀ (next : Act → World → Prop) (Q : Exit → Act → World → Prop), (∀ v r s' w', k r s' → RV (own s') w' r v → St s' w' → Mv (own s) (own s') w w' → next (a.put o.dst v) w') → o.wp P a w next Q

section
variable {P : Program} {o : Oper} {a : Act} {s : Store} {w : World} {k : AV → Store → Prop}
theorem YW_value {v : Value} {r : AV} {s' : Store} {w' : World} (hr : (execOp a.eval o).run P w = .ok (.value v) w') (hk : k r s') (hv : RV (own s') w' r v) (hs : St s' w') (hm : Mv (own s) (own s') w w') : YW P o a s w k := by
  intro next Q h
  unfold Oper.wp
  rw [hr, Oper.upon_value]
  exact h v r s' w' hk hv hs hm

theorem YW_skip {s' : Store} {w' : World} (hr : (execOp a.eval o).run P w = .ok .skip w') (hk : k .undef s') (hs : St s' w') (hm : Mv (own s) (own s') w w') : YW P o a s w k := by
  intro next Q h
  unfold Oper.wp
  rw [hr, Oper.upon_skip]
  exact h _ .undef s' w' hk (.undef _) hs hm

theorem YW_call {f : FuncId} {as : List AV} {vs : List Value} {R : AV → Store → Prop} (hr : (execOp a.eval o).run P w = .ok (.enter f vs.toArray) w) (hc : AC P f as s R) (hk : ∀ r s', R r s' → k r s') (hs : St s w) (hv : RVs (own s) w as vs) : YW P o a s w k := by
  intro next Q h
  unfold Oper.wp
  rw [hr, Oper.upon_enter]
  refine (hc.2 vs w hs hv).mono ?_
  rintro en w' ⟨v, r, s', rfl, h1, h2, h3, h4⟩
  exact h v r s' w' (hk _ _ h1) h3 h2 h4
end

/-- What a neutral operation comes to. -/
def NS (P : Program) (o : Oper) (a : Act) (s : Store) (w : World) (K : AV → Prop → Prop) : Prop :=
  ∃ r p, K r p ∧ (p → YW P o a s w fun r' s' => r' = r ∧ s' = s)

theorem NS_same {P : Program} {o : Oper} {a : Act} {s : Store} {w : World} {K : AV → Prop → Prop} (hs : St s w) {r : AV} {p : Prop} (hk : K r p)
    (h : p → ∃ v, (execOp a.eval o).run P w = .ok (.value v) w ∧ RV (own s) w r v) : NS P o a s w K :=
  ⟨r, p, hk, fun hp => let ⟨v, h1, h2⟩ := h hp; YW_value h1 ⟨rfl, rfl⟩ h2 hs (Mv.refl _ _)⟩

/-! ### Facts of the program's types -/
structure TyR (P : Program) (T : TypeId) (ag : Bool) (n : Nat) : Prop where
  ag : ∀ w, (isAgg T).run P w = .ok ag w
  sz : ∀ w, (sizeOf T).run P w = .ok n w
def SlR (P : Program) (T : TypeId) (n : Nat) : Prop := ∃ E, P.underlying T = some (.slice E) ∧ ∀ w, (sizeOf E).run P w = .ok n w
def FdR (P : Program) (T f off : Nat) (ag : Bool) (n : Nat) : Prop := ∃ fs fd, P.underlying T = some (.struct fs) ∧ fs[f]? = some fd ∧ fd.offset = off ∧ TyR P fd.type ag n

def OkOpd : Operand → Opd → Prop
  | .tmp t, .t t' => t = t'
  | .const v, .c a => ∀ o w, RV o w a v
  | .func f, .c (.fn f' []) => f = f'
  | _, _ => False

section
variable {P : Program} {T : Tbl} {R : Nat → Prop} {o : Oper} {a : Act} {s : Store} {w : World} {ρ : Opd → AV} {K : AV → Prop → Prop}

theorem ns_mov (hs : St s w) {x : Operand} {y : Opd} (ho : o.op = .move x ∨ o.op = .assign x) (hx : RV (own s) w (ρ y) (a.eval x)) (h : nop T R (.mov y) ρ s K) : NS P o a s w K := by
  refine NS_same hs h fun hd => ⟨_, ?_, RV_val hx hd⟩
  rcases ho with ho | ho <;> simp [execOp, ho]

theorem ns_unot (hs : St s w) {t : TypeId} {x : Operand} {y : Opd} (ho : o.op = .unOp .not t x) (hx : RV (own s) w (ρ y) (a.eval x)) (h : nop T R (.unot y) ρ s K) : NS P o a s w K := by
  simp only [nop] at h
  split at h
  · rename_i b hb
    refine NS_same hs h fun hd => ⟨.bool !b, ?_, .fz _ _ (.bool _)⟩
    have := RV_val hx hd
    rw [hb] at this
    simp [execOp, ho, inv_bool this, Op.unary]
  · exact h.elim

theorem ns_uneg (hs : St s w) {t : TypeId} {x : Operand} {y : Opd} (ho : o.op = .unOp .neg t x) (hx : RV (own s) w (ρ y) (a.eval x)) (h : nop T R (.uneg y) ρ s K) : NS P o a s w K := by
  simp only [nop] at h
  split at h
  · rename_i k n hb
    refine NS_same hs h fun hd => ⟨.int k (0 - n), ?_, .fz _ _ (.int _ _)⟩
    have := RV_val hx hd.1
    rw [hb] at this
    have h2 := hd.2
    unfold okk at h2
    simp only [execOp, ho, inv_int this, Op.unary, Op.intArith, h2, Sem.run_bind, Sem.run_pure, Result.andThen_ok]
  · exact h.elim

theorem ns_pick (hs : St s w) {c x y : Operand} {c' x' y' : Opd} (ho : o.op = .pick c x y) (hc : RV (own s) w (ρ c') (a.eval c)) (hx : RV (own s) w (ρ x') (a.eval x)) (hy : RV (own s) w (ρ y') (a.eval y))
    (h : nop T R (.pick c' x' y') ρ s K) : NS P o a s w K := by
  simp only [nop] at h
  split at h
  · rename_i g hg
    have run : (ρ c').df → (execOp a.eval o).run P w = .ok (.value (if g then a.eval x else a.eval y)) w := by
      intro hd
      have := RV_val hc hd
      rw [hg] at this
      simp [execOp, ho, inv_bool this, asBool]
    refine NS_same hs h fun hd => ⟨_, run hd.1, ?_⟩
    cases g
    · simpa using RV_val hy (hd.2.2 rfl)
    · simpa using RV_val hx (hd.2.1 rfl)
  · exact h.elim

theorem ns_nilc (hs : St s w) {x : Operand} {y : Opd} (ho : o.op = .nilCheck x) (hx : RV (own s) w (ρ y) (a.eval x)) (h : nop T R (.nilc y) ρ s K) : NS P o a s w K := by
  simp only [nop] at h
  split at h
  · rename_i b p hb
    refine NS_same hs h fun hd => ?_
    have := RV_val hx hd
    rw [hb] at this
    exact ⟨_, by simp only [execOp, ho, inv_ptr this]; rfl, .ptr _ _⟩
  · rename_i b k i j hb
    refine NS_same hs h fun hd => ?_
    have := RV_val hx hd
    rw [hb] at this
    exact ⟨_, by simp only [execOp, ho, inv_rptr this]; rfl, .rptr _ _ _ _⟩
  · rename_i cs hb
    refine NS_same hs h fun hd => ?_
    have := RV_val hx hd
    rw [hb] at this
    obtain ⟨ad, vf, h1, h2⟩ := inv_elm this
    rw [h1] at this
    exact ⟨_, by simp only [execOp, ho, h1]; rfl, this⟩
  · exact h.elim

theorem add_eq {a : Addr} (h : a.spot = none) (n : Nat) : a.add n = ⟨a.block, a.off + n, none⟩ := by
  obtain ⟨b, p, sp⟩ := a
  subst h
  unfold Addr.add
  split
  · rename_i h; subst h; rfl
  · rfl
theorem add_add {a : Addr} (h : a.spot = none) (n m : Nat) : (a.add n).add m = a.add (n + m) := by
  rw [add_eq (a := a.add n) (by rw [add_eq h]), add_eq h, add_eq h, Nat.add_assoc]

theorem add_at (b p n : Nat) : (⟨b, p, none⟩ : Addr).add n = ⟨b, p + n, none⟩ := by
  unfold Addr.add
  split
  · rename_i h; subst h; rfl
  · rfl

theorem at_drop (cs : List AV) (n j : Nat) : at_ (cs.drop n) j = at_ cs (n + j) := by simp [at_, List.getD_eq_getElem?_getD, List.getElem?_drop]
theorem at_take (cs : List AV) (n j : Nat) (h : j < n) : at_ (cs.take n) j = at_ cs j := by simp [at_, List.getD_eq_getElem?_getD, List.getElem?_take, h]

theorem run_fieldAt {P : Program} {T f off n : Nat} {ag : Bool} (hf : FdR P T f off ag n) (hn : n ≠ 0) (ad : Addr) (w : World) : (Instr.fieldAt T (.pointer (some ad)) f).run P w = .ok (.pointer (some (ad.add off))) w := by
  obtain ⟨fs, fd, h1, h2, h3, h4⟩ := hf
  simp only [Instr.fieldAt, Sem.run_bind, run_underlying h1, Result.andThen_ok, h2]
  simp only [Instr.sureAddr, fieldPlace, Sem.run_bind, Sem.run_pure, Result.andThen_ok, h4.sz, if_neg hn, h3]

theorem ns_fld {T0 : Tbl} (hs : St s w) {T f off n : Nat} {ag : Bool} {x : Operand} {y : Opd} (ho : o.op = .fieldAddr T x f) (hf : FdR P T f off ag n) (hn : n ≠ 0) (hx : RV (own s) w (ρ y) (a.eval x)) (h : nop T0 R (.fld y off) ρ s K) : NS P o a s w K := by
  have run : ∀ ad, a.eval x = .pointer (some ad) → (execOp a.eval o).run P w = .ok (.value (.pointer (some (ad.add off)))) w := fun ad he => by
    simp only [execOp, ho, he, Sem.run_bind, run_fieldAt hf hn, Result.andThen_ok, Sem.run_pure]
  simp only [nop] at h
  split at h
  · rename_i b p hb
    refine NS_same hs h fun hd => ?_
    have := RV_val hx hd
    rw [hb] at this
    exact ⟨_, run _ (inv_ptr this), by rw [add_at]; exact .ptr _ _⟩
  · rename_i b k i j hb
    refine NS_same hs h fun hd => ?_
    have := RV_val hx hd
    rw [hb] at this
    exact ⟨_, run _ (inv_rptr this), by rw [add_at, Nat.add_assoc]; exact .rptr _ _ _ _⟩
  · rename_i cs hb
    refine NS_same hs h fun hd => ?_
    have := RV_val hx hd
    rw [hb] at this
    obtain ⟨ad, vf, h1, h0, h2, h3, h4, h5⟩ := inv_elm this
    refine ⟨_, run _ h1, .fz _ _ (.elm _ _ (fun j => vf (off + j)) (by rw [add_eq h0]) (by rwa [add_block]) (by rwa [add_block]) (fun j hj => ?_) fun j hj => ?_)⟩
    · rw [add_add h0]; exact h4 _ (by simp at hj; omega)
    · rw [at_drop]; exact h5 _ (by simp at hj; omega)
  · exact h.elim
end
end Go.Proofs.Ytjoncejabdjekaa.L
