/- An own program logic over the kit's walk, part 3: loads, indexes, calls and the rest of what leaves the store alone. -/
import Derived.Test.YtjoncejabdjekaaL2
set_option linter.unusedVariables false
set_option linter.unusedSimpArgs false
namespace Go.Proofs.Ytjoncejabdjekaa.L
open Go

section
variable {P : Program} {T : Tbl} {R : Nat → Prop} {o : Oper} {a : Act} {s : Store} {w : World} {ρ : Opd → AV} {K : AV → Prop → Prop}

theorem run_loadAt1 {P : Program} {T n : Nat} (hT : TyR P T false n) {ad : Addr} {v : Value} {w : World} (h : w.cell? ad = some v) : (Instr.loadAt T (.pointer (some ad))).run P w = .ok v w := by
  simp only [Instr.loadAt, Instr.sureAddr, loadVar, Sem.run_bind, Sem.run_pure, Result.andThen_ok, hT.ag, Bool.false_eq_true, if_false, run_load, h]

theorem run_loadAtn {P : Program} {T n : Nat} (hT : TyR P T true n) {ad : Addr} {vs : List Value} {w : World} (hl : vs.length = n) (h : ∀ j, j < n → w.cell? (ad.add j) = some (vat vs j)) : (Instr.loadAt T (.pointer (some ad))).run P w = .ok (.agg vs.toArray) w := by
  have h1 : (loadCells ad n).run P w = .ok vs.toArray w := by
    have := run_loadCells_list (P := P) (w := w) ad vs (fun j v hv => by
      have hj : j < vs.length := (List.getElem?_eq_some_iff.1 hv).1
      rw [h j (by omega)]
      simp [vat, List.getD_eq_getElem?_getD, hv])
    rwa [hl] at this
  simp only [Instr.loadAt, Instr.sureAddr, loadVar, Sem.run_bind, Sem.run_pure, Result.andThen_ok, hT.ag, if_true, hT.sz, h1]

/-- A box's cells. -/
theorem box_cell {b : Nat} {cs : List AV} (h : ObjR (own s) w b (.box cs)) {j : Nat} (hj : j < cs.length) : ∃ v, w.cell? ⟨b, j, none⟩ = some v ∧ RV (own s) w (at_ cs j) v := by
  obtain ⟨vs, T, h1, h2, h3⟩ := h
  refine ⟨vs.getD j Go.undef, ?_, h3 j hj⟩
  rw [cell_of_row w b j vs T (0, 0) h1, Array.getD_eq_getD_getElem?, Array.getElem?_eq_getElem (by omega)]
  rfl

theorem row_cell {b T k c : Nat} {xs : List (List AV)} (h : ObjR (own s) w b (.row T k c xs)) {i j : Nat} (hi : i < xs.length) (hj : j < k) : ∃ v, w.cell? ⟨b, i * k + j, none⟩ = some v ∧ RV (own s) w (at_ (xs.getD i []) j) v := by
  obtain ⟨vs, h1, h2, h3, h3', h4, h5⟩ := h
  refine ⟨vs.getD (i * k + j) Go.undef, ?_, (h5 i j hi hj).1⟩
  have hlt : i * k + j < vs.size := by
    rw [h2]
    have : (i + 1) * k ≤ c * k := Nat.mul_le_mul_right k (by omega)
    rw [Nat.add_mul] at this
    omega
  rw [cell_of_row w b _ vs T (0, 0) h1, Array.getD_eq_getD_getElem?, Array.getElem?_eq_getElem hlt]
  rfl

/-- n cells that stand for these: a struct. -/
theorem cells_agg {ad : Addr} {n : Nat} {cs : List AV} (hn : cs.length = n) (h : ∀ j, j < n → ∃ v, w.cell? (ad.add j) = some v ∧ RV (own s) w (at_ cs j) v) :
    ∃ vs : List Value, vs.length = n ∧ (∀ j, j < n → w.cell? (ad.add j) = some (vat vs j)) ∧ RV (own s) w (.agg cs) (.agg vs.toArray) := by
  have hf : ∃ f : Nat → Value, ∀ j, j < n → w.cell? (ad.add j) = some (f j) ∧ RV (own s) w (at_ cs j) (f j) :=
    ⟨fun j => if hj : j < n then Classical.choose (h j hj) else Go.undef, fun j hj => by simp only [dif_pos hj]; exact Classical.choose_spec (h j hj)⟩
  obtain ⟨f, hf⟩ := hf
  have hv : ∀ j, j < n → vat ((List.range n).map f) j = f j := fun j hj => by simp [vat, List.getD_eq_getElem?_getD, hj]
  exact ⟨(List.range n).map f, by simp, fun j hj => by rw [hv j hj]; exact (hf j hj).1, .agg _ _ (by simp [hn]) (fun j hj => by rw [hv j (by omega)]; exact (hf j (by omega)).2)⟩

theorem ns_ld1 (hs : St s w) {Ty : Nat} {x : Operand} {y : Opd} {fr : Bool} (ho : o.op = .load Ty x) (hT : TyR P Ty false 1) (hx : RV (own s) w (ρ y) (a.eval x)) (h : nop T R (.ld1 y fr) ρ s K) : NS P o a s w K := by
  have run : ∀ ad v, a.eval x = .pointer (some ad) → w.cell? ad = some v → (execOp a.eval o).run P w = .ok (.value v) w := fun ad v he hc => by
    simp only [execOp, ho, he, Sem.run_bind, run_loadAt1 hT hc, Result.andThen_ok, Sem.run_pure]
  simp only [nop] at h
  split at h
  · rename_i cs hb
    refine NS_same hs h fun hd => ?_
    have := RV_val hx hd.1
    rw [hb] at this
    obtain ⟨ad, vf, h1, h0, h2, h3, h4, h5⟩ := inv_elm this
    have hc := h4 0 (by omega)
    rw [show ad.add 0 = ad from rfl] at hc
    exact ⟨_, run _ _ h1 hc, .fz _ _ (h5 0 (by omega))⟩
  · rename_i b p hb
    split at h
    · rename_i cs hsb
      refine NS_same hs h fun hd => ?_
      have := RV_val hx hd.1
      rw [hb] at this
      obtain ⟨v, hc, hv⟩ := box_cell (hs _ _ hsb) (show p < cs.length by omega)
      exact ⟨v, run _ _ (inv_ptr this) hc, hv⟩
    · exact h.elim
  · rename_i b k i j hb
    split at h
    · rename_i T' k' c xs hsb
      obtain ⟨rfl, h⟩ := h
      refine NS_same hs h fun hd => ?_
      have := RV_val hx hd.1
      rw [hb] at this
      obtain ⟨v, hc, hv⟩ := row_cell (hs _ _ hsb) hd.2.1 (show j < k by omega)
      exact ⟨v, run _ _ (inv_rptr this) hc, hv⟩
    · exact h.elim
  · exact h.elim

theorem ns_ldn (hs : St s w) {Ty n : Nat} {x : Operand} {y : Opd} {fr : Bool} (ho : o.op = .load Ty x) (hT : TyR P Ty true n) (hx : RV (own s) w (ρ y) (a.eval x)) (h : nop T R (.ldn y n fr) ρ s K) : NS P o a s w K := by
  have run : ∀ ad (vs : List Value), a.eval x = .pointer (some ad) → vs.length = n → (∀ j, j < n → w.cell? (ad.add j) = some (vat vs j)) → (execOp a.eval o).run P w = .ok (.value (.agg vs.toArray)) w := fun ad vs he hl hc => by
    simp only [execOp, ho, he, Sem.run_bind, run_loadAtn hT hl hc, Result.andThen_ok, Sem.run_pure]
  simp only [nop] at h
  split at h
  · rename_i cs hb
    refine NS_same hs h fun hd => ?_
    have := RV_val hx hd.1
    rw [hb] at this
    obtain ⟨ad, vf, h1, h0, h2, h3, h4, h5⟩ := inv_elm this
    obtain ⟨vs, e1, e2, e3⟩ := cells_agg (s := s) (w := w) (ad := ad) (n := n) (cs := cs.take n) (by simp; omega) (fun j hj => ⟨vf j, h4 j (by omega), by rw [at_take _ _ _ hj]; exact .fz _ _ (h5 j (by omega))⟩)
    exact ⟨_, run _ vs h1 e1 e2, e3⟩
  · rename_i b p hb
    split at h
    · rename_i cs hsb
      refine NS_same hs h fun hd => ?_
      have := RV_val hx hd.1
      rw [hb] at this
      obtain ⟨vs, e1, e2, e3⟩ := cells_agg (s := s) (w := w) (ad := ⟨b, p, none⟩) (n := n) (cs := (cs.drop p).take n) (by simp; omega) (fun j hj => by
        rw [add_at, at_take _ _ _ hj, at_drop]; exact box_cell (hs _ _ hsb) (by omega))
      exact ⟨_, run _ vs (inv_ptr this) e1 e2, e3⟩
    · exact h.elim
  · rename_i b k i j hb
    split at h
    · rename_i T' k' c xs hsb
      obtain ⟨rfl, h⟩ := h
      refine NS_same hs h fun hd => ?_
      have := RV_val hx hd.1
      rw [hb] at this
      have hl : (xs.getD i []).length = k := by obtain ⟨_, _, _, _, _, h4, _⟩ := hs _ _ hsb; exact h4 i hd.2.1
      obtain ⟨vs, e1, e2, e3⟩ := cells_agg (s := s) (w := w) (ad := ⟨b, i * k + j, none⟩) (n := n) (cs := ((xs.getD i []).drop j).take n) (by simp only [List.length_take, List.length_drop, hl]; omega) (fun l hj => by
        rw [add_at, at_take _ _ _ hj, at_drop, Nat.add_assoc]; exact row_cell (hs _ _ hsb) hd.2.1 (by omega))
      exact ⟨_, run _ vs (inv_rptr this) e1 e2, e3⟩
    · exact h.elim
  · exact h.elim

theorem ns_idx (hs : St s w) {Ty n : Nat} {x i : Operand} {y j : Opd} (ho : o.op = .indexAddr Ty x i) (hT : SlR P Ty n) (hx : RV (own s) w (ρ y) (a.eval x)) (hi : RV (own s) w (ρ j) (a.eval i)) (h : nop T R (.idx y j n) ρ s K) : NS P o a s w K := by
  obtain ⟨E, hE, hn⟩ := hT
  have run : ∀ ad l c kk z, a.eval x = .slice (some ad) l c → a.eval i = .int kk z → 0 ≤ z → z < l → (execOp a.eval o).run P w = .ok (.value (.pointer (some (ad.add (z.toNat * n))))) w := fun ad l c kk z h1 h2 h3 h4 => by
    simp only [execOp, ho, h1, h2, Instr.indexAt, asIntOf, Sem.run_bind, Sem.run_pure, Result.andThen_ok, run_underlying hE]
    simp only [Sem.run_ite, if_pos (show 0 ≤ z ∧ z < (l : Int) from ⟨h3, h4⟩), Sem.run_bind, hn, Result.andThen_ok, Sem.run_pure]
  simp only [nop] at h
  split at h
  · rename_i k l get kk z hb hz
    obtain ⟨rfl, h⟩ := h
    refine NS_same hs h fun hd => ?_
    have h1 := RV_val hx hd.1
    rw [hb] at h1
    have h2 := RV_val hi hd.2.1
    rw [hz] at h2
    obtain ⟨ad, c, e1, -, e2⟩ := inv_lst h1
    obtain ⟨ad, vf, rfl, e0, e3, e4, e5, e6, e7⟩ := e2 (by omega)
    have hlt : z.toNat < l := by omega
    refine ⟨_, run _ _ _ _ _ e1 (inv_int h2) hd.2.2.1 hd.2.2.2, .fz _ _ (.elm _ _ (fun j => vf z.toNat j) (by rw [add_eq e0]) (by rwa [add_block]) (by rwa [add_block]) (fun j hj => ?_) fun j hj => ?_)⟩
    · rw [add_add e0]; exact e5 _ _ hlt (by rw [← e6 _ hlt]; exact hj)
    · exact e7 _ _ hlt (by rw [← e6 _ hlt]; exact hj)
  · rename_i b l c kk z hb hz
    refine NS_same hs h fun hd => ?_
    have h1 := RV_val hx hd.1
    rw [hb] at h1
    have h2 := RV_val hi hd.2.1
    rw [hz] at h2
    refine ⟨_, run _ _ _ _ _ (inv_slc h1) (inv_int h2) hd.2.2.1 hd.2.2.2, ?_⟩
    rw [add_at, Nat.zero_add]
    exact .rptr _ _ _ 0
  · exact h.elim

theorem ns_len (hs : St s w) {x : Operand} {ts : Array TypeId} {t0 E : Nat} {y : Opd} (ho : o.op = .call { callee := .builtin .len, args := #[x], argTypes := ts }) (ht : ts[0]? = some t0) (hE : P.underlying t0 = some (.slice E)) (hx : RV (own s) w (ρ y) (a.eval x)) (h : nop T R (.len y) ρ s K) : NS P o a s w K := by
  have run : ∀ ad l c, a.eval x = .slice ad l c → (execOp a.eval o).run P w = .ok (.value (.int .i64 l)) w := fun ad l c h1 => by
    simp [execOp, ho, h1, resolve, invoke, builtin, Builtin.len_, ht, run_underlying hE, goInt]
  simp only [nop] at h
  split at h
  · rename_i k n get hb
    refine NS_same hs h fun hd => ?_
    have h1 := RV_val hx hd
    rw [hb] at h1
    obtain ⟨ad, c, e1, e2⟩ := inv_lst h1
    exact ⟨_, run _ _ _ e1, .fz _ _ (.int _ _)⟩
  · rename_i b n c hb
    refine NS_same hs h fun hd => ?_
    have h1 := RV_val hx hd
    rw [hb] at h1
    exact ⟨_, run _ _ _ (inv_slc h1), .fz _ _ (.int _ _)⟩
  · rename_i hb
    refine NS_same hs h fun hd => ?_
    have h1 := RV_val hx hd
    rw [hb] at h1
    obtain ⟨ad, e1⟩ := inv_emp h1
    exact ⟨_, run _ _ _ e1, .fz _ _ (.int _ _)⟩
  · exact h.elim

theorem ns_lens (hs : St s w) {x : Operand} {ts : Array TypeId} {t0 : Nat} {y : Opd} (ho : o.op = .call { callee := .builtin .len, args := #[x], argTypes := ts }) (ht : ts[0]? = some t0) (hE : P.underlying t0 = some .string) (hx : RV (own s) w (ρ y) (a.eval x)) (h : nop T R (.lens y) ρ s K) : NS P o a s w K := by
  simp only [nop] at h
  split at h
  · rename_i t hb
    refine NS_same hs h fun hd => ⟨.int .i64 t.size, ?_, .fz _ _ (.int _ _)⟩
    have h1 := RV_val hx hd
    rw [hb] at h1
    simp [execOp, ho, inv_str h1, resolve, invoke, builtin, Builtin.len_, ht, run_underlying hE, goInt]
  · exact h.elim

theorem ns_ext (hs : St s w) {x : Operand} {i : Nat} {y : Opd} (ho : o.op = .extract x i) (hx : RV (own s) w (ρ y) (a.eval x)) (h : nop T R (.ext y i) ρ s K) : NS P o a s w K := by
  simp only [nop] at h
  split at h
  · rename_i vs hb
    refine NS_same hs h fun hd => ?_
    have h1 := RV_val hx hd.1
    rw [hb] at h1
    obtain ⟨us, e1, e2, e3⟩ := inv_tup h1
    have hi : i < us.length := by omega
    refine ⟨vat us i, ?_, e3 i hd.2⟩
    simp [execOp, ho, e1, Instr.extract, vat, List.getD_eq_getElem?_getD, hi]
  · exact h.elim

theorem run_part {P : Program} {T n : Nat} {ag : Bool} (hT : TyR P T ag n) (cs : Array Value) (off : Nat) (w : World) (h : off + n ≤ cs.size) (hn : 0 < n) :
    (part T cs off).run P w = .ok (if ag then .agg (cs.extract off (off + n)) else cs.getD off Go.undef) w := by
  unfold part
  simp only [Sem.run_bind, hT.ag, Result.andThen_ok]
  cases ag with
  | true => simp only [if_true, Sem.run_bind, hT.sz, Result.andThen_ok, Sem.run_pure]
  | false =>
    simp only [Bool.false_eq_true, if_false]
    rw [Array.getElem?_eq_getElem (by omega)]
    simp [Array.getD_eq_getD_getElem?, Array.getElem?_eq_getElem (show off < cs.size by omega)]

theorem vat_extract (vs : List Value) (off n j : Nat) (hj : j < n) : vat (vs.toArray.extract off (off + n)).toList j = vat vs (off + j) := by
  simp [vat, List.getD_eq_getElem?_getD, List.getElem?_take, hj, List.getElem?_drop]

theorem ns_fldv (hs : St s w) {Ty f off n : Nat} {ag : Bool} {x : Operand} {y : Opd} (ho : o.op = .field Ty x f) (hf : FdR P Ty f off ag n) (hn : 0 < n) (h1 : ag = false → n = 1) (hx : RV (own s) w (ρ y) (a.eval x)) (h : nop T R (.fldv y off n ag) ρ s K) : NS P o a s w K := by
  simp only [nop] at h
  split at h
  · rename_i cs hb
    refine NS_same hs h fun hd => ?_
    have hv := RV_val hx hd.1
    rw [hb] at hv
    obtain ⟨us, e1, e2, e3⟩ := inv_agg hv
    obtain ⟨fs, fd, g1, g2, g3, g4⟩ := hf
    have hle := hd.2
    have hrun := run_part g4 us.toArray off w (by simp; omega) hn
    cases ag with
    | true =>
      refine ⟨.agg (us.toArray.extract off (off + n)), ?_, ?_⟩
      · simp only [execOp, ho, e1, Instr.field, Sem.run_bind, run_underlying g1, Result.andThen_ok, g2, asAgg, Sem.run_pure, g3, hrun, if_true]
      · have := RV.agg (own := own s) (w := w) ((cs.drop off).take n) (us.toArray.extract off (off + n)).toList (by simp; omega) (fun j hj => by
          have hj' : j < n := by simp at hj; omega
          rw [vat_extract _ _ _ _ hj', at_take _ _ _ hj', at_drop]; exact e3 _ (by omega))
        simpa using this
    | false =>
      obtain rfl := h1 rfl
      refine ⟨us.toArray.getD off Go.undef, ?_, ?_⟩
      · simp only [execOp, ho, e1, Instr.field, Sem.run_bind, run_underlying g1, Result.andThen_ok, g2, asAgg, Sem.run_pure, g3, hrun, Bool.false_eq_true, if_false]
      · have := e3 off (by omega)
        simpa [vat, Array.getD_eq_getD_getElem?, List.getD_eq_getElem?_getD] using this
  · exact h.elim

theorem ns_mnx (hs : St s w) {x y : Operand} {ts : Array TypeId} {x' y' : Opd} {mx : Bool} (ho : o.op = .call { callee := .builtin (if mx then .max else .min), args := #[x, y], argTypes := ts }) (hx : RV (own s) w (ρ x') (a.eval x)) (hy : RV (own s) w (ρ y') (a.eval y)) (h : nop T R (.mnx mx x' y') ρ s K) : NS P o a s w K := by
  simp only [nop] at h
  split at h
  · rename_i k u k' v hu hv
    obtain ⟨rfl, h⟩ := h
    refine NS_same hs h fun hd => ⟨_, ?_, .fz _ _ (.int _ _)⟩
    have h1 := RV_val hx hd.1
    rw [hu] at h1
    have h2 := RV_val hy hd.2
    rw [hv] at h2
    cases mx
    · have e : (if v < u then v else u) = min u v := by rw [Int.min_def]; split <;> split <;> omega
      simp [execOp, ho, inv_int h1, inv_int h2, resolve, invoke, builtin, Builtin.min_, Builtin.min2, e]
    · have e : (if u < v then v else u) = max u v := by rw [Int.max_def]; split <;> split <;> omega
      simp [execOp, ho, inv_int h1, inv_int h2, resolve, invoke, builtin, Builtin.max_, Builtin.max2, e]
  · exact h.elim

theorem map_arr (f : Operand → Value) (xs : Array Operand) : xs.map f = (xs.toList.map f).toArray := by cases xs; simp

/-! The arguments of a call, one by one. -/
def OkOpds : List Operand → List Opd → Prop
  | [], [] => True
  | x :: l, y :: l' => OkOpd x y ∧ OkOpds l l'
  | _, _ => False

theorem RVs_vals (hρ : ∀ x y, OkOpd x y → RV (own s) w (ρ y) (a.eval x)) : ∀ (xs : List Operand) (ys : List Opd), OkOpds xs ys → dfs ρ ys → RVs (own s) w (vals ρ ys) (xs.map a.eval)
  | [], [], _, _ => ⟨rfl, fun j hj => by simp [vals] at hj⟩
  | x :: xs, y :: ys, h, hd => by
    obtain ⟨h1, h2⟩ := RVs_vals hρ xs ys h.2 hd.2
    refine ⟨by simp [vals] at h1 ⊢; exact h1, fun j hj => ?_⟩
    cases j with
    | zero => simpa [vals, at_, vat] using RV_val (hρ _ _ h.1) hd.1
    | succ j => simpa [vals, at_, vat] using h2 j (by simpa [vals] using hj)
  | [], _ :: _, h, _ => h.elim
  | _ :: _, [], h, _ => h.elim

theorem RVs_append {o : Nat → Prop} {as bs : List AV} {vs us : List Value} (h : RVs o w as vs) (k : RVs o w bs us) : RVs o w (as ++ bs) (vs ++ us) := by
  refine ⟨by simp [h.1, k.1], fun j hj => ?_⟩
  by_cases hj' : j < as.length
  · have := h.2 j hj'
    simpa [at_, vat, List.getD_eq_getElem?_getD, List.getElem?_append_left, hj', h.1] using this
  · have := k.2 (j - as.length) (by simp at hj; omega)
    simpa [at_, vat, List.getD_eq_getElem?_getD, List.getElem?_append_right, Nat.le_of_not_lt hj', h.1] using this

theorem ns_mkf (hs : St s w) (hρ : ∀ x y, OkOpd x y → RV (own s) w (ρ y) (a.eval x)) {f : FuncId} {xs : Array Operand} {ys : List Opd} (ho : o.op = .makeFunc (.func f) #[] xs) (hx : OkOpds xs.toList ys) (h : nop T R (.mkf f ys) ρ s K) : NS P o a s w K := by
  simp only [nop] at h
  refine NS_same hs h fun hd => ?_
  obtain ⟨h1, h2⟩ := RVs_vals hρ _ _ hx hd
  refine ⟨.func (.func f) #[] (xs.toList.map a.eval).toArray, ?_, .fn _ _ _ h1 h2⟩
  rw [← map_arr]
  simp [execOp, ho, Instr.makeFunc]

theorem ns_cvt (hs : St s w) {t u : TypeId} {k : IntKind} {d : TypeDesc} {x : Operand} {y : Opd} (ho : o.op = .convert t u x) (ht : P.underlying t = some d) (hu : P.underlying u = some (.int k)) (hx : RV (own s) w (ρ y) (a.eval x)) (h : nop T R (.cvt k y) ρ s K) : NS P o a s w K := by
  simp only [nop] at h
  split at h
  · rename_i k' n hb
    refine NS_same hs h fun hd => ⟨.int k n, ?_, .fz _ _ (.int _ _)⟩
    have h1 := RV_val hx hd.1
    rw [hb] at h1
    have h2 := hd.2
    unfold okk at h2
    simp only [execOp, ho, inv_int h1, convert, Sem.run_bind, run_underlying ht, run_underlying hu, Result.andThen_ok, Conv.intToInt, Sem.run_pure, h2]
  · exact h.elim

theorem callR_run {f : FuncId} (hf : CallR P f) (args : Array Value) (w : World) : (callFunc f args).run P w = .ok (.enter f args) w := by
  obtain ⟨fn, h1, h2, h3⟩ := hf
  simp only [callFunc, Sem.run_bind, run_program, Result.andThen_ok, h1, h2, h3, Bool.false_eq_true, if_false, Sem.run_pure]

theorem call_run {f : FuncId} {xs : Array Operand} {ts : Array TypeId} (ho : o.op = .call { callee := .value (.func f), args := xs, argTypes := ts }) (hf : CallR P f) : (execOp a.eval o).run P w = .ok (.enter f (xs.toList.map a.eval).toArray) w := by
  rw [← map_arr]
  simp [execOp, ho, resolve, Deferred.ofValue, Act.eval, invoke, callR_run hf]

theorem callv_run {f : FuncId} {c : Operand} {cs : List Value} {xs : Array Operand} {ts : Array TypeId} (ho : o.op = .call { callee := .value c, args := xs, argTypes := ts }) (hc : a.eval c = .func (.func f) #[] cs.toArray) (hf : CallR P f) : (execOp a.eval o).run P w = .ok (.enter f (xs.toList.map a.eval ++ cs).toArray) w := by
  have e : (xs.toList.map a.eval ++ cs).toArray = xs.map a.eval ++ cs.toArray := by rw [map_arr]; simp
  rw [e]
  simp [execOp, ho, resolve, Deferred.ofValue, hc, invoke, callR_run hf]

/-- A table of contracts. -/
def TblOK (P : Program) (T : Tbl) : Prop := ∀ f sp, Tbl.get T f = some sp → ∀ as s, sp.pre as s → AC P f as s fun r s' => r = sp.val as s ∧ s' = s

theorem TblOK_nil (P : Program) : TblOK P [] := fun f sp h => by simp [Tbl.get] at h
theorem TblOK_cons {P : Program} {T : Tbl} {f : FuncId} {sp : Spec} (h : ∀ as s, sp.pre as s → AC P f as s fun r s' => r = sp.val as s ∧ s' = s) (hT : TblOK P T) : TblOK P ((f, sp) :: T) := by
  intro g sp' hg
  simp only [Tbl.get] at hg
  split at hg
  · rename_i e; cases hg; subst e; exact h
  · exact hT g sp' hg

theorem ns_call (hT : TblOK P T) (hs : St s w) (hρ : ∀ x y, OkOpd x y → RV (own s) w (ρ y) (a.eval x)) {f : FuncId} {xs : Array Operand} {ts : Array TypeId} {ys : List Opd} (ho : o.op = .call { callee := .value (.func f), args := xs, argTypes := ts }) (hx : OkOpds xs.toList ys) (h : nop T R (.call f ys) ρ s K) : NS P o a s w K := by
  simp only [nop] at h
  split at h
  · rename_i sp hsp
    have hc := hT f sp hsp
    exact ⟨_, _, h, fun hp => YW_call (call_run ho (hc _ _ hp.2).1) (hc _ _ hp.2) (fun _ _ h => h) hs (RVs_vals hρ _ _ hx hp.1)⟩
  · exact h.elim

theorem ns_callv (hT : TblOK P T) (hs : St s w) (hρ : ∀ x y, OkOpd x y → RV (own s) w (ρ y) (a.eval x)) {c : Operand} {c' : Opd} {xs : Array Operand} {ts : Array TypeId} {ys : List Opd} (ho : o.op = .call { callee := .value c, args := xs, argTypes := ts }) (hc : OkOpd c c') (hx : OkOpds xs.toList ys) (h : nop T R (.callv c' ys) ρ s K) : NS P o a s w K := by
  simp only [nop] at h
  split at h
  · rename_i f caps hfn
    split at h
    · rename_i sp hsp
      have hcon := hT f sp hsp
      refine ⟨_, _, h, fun hp => ?_⟩
      have hv := RV_val (hρ _ _ hc) hp.1
      rw [hfn] at hv
      obtain ⟨us, e1, e2, e3⟩ := inv_fn hv
      exact YW_call (callv_run ho e1 (hcon _ _ hp.2.2).1) (hcon _ _ hp.2.2) (fun _ _ h => h) hs (RVs_append (RVs_vals hρ _ _ hx hp.2.1) ⟨e2, e3⟩)
    · exact h.elim
  · exact h.elim
end
end Go.Proofs.Ytjoncejabdjekaa.L
