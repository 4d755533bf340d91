/- An own program logic over the kit's walk, part 6: slices that are written out, maps that are read. -/
import Derived.Test.YtjoncejabdjekaaL5
set_option linter.unusedVariables false
set_option linter.unusedSimpArgs false
namespace Go.Proofs.Ytjoncejabdjekaa.L
open Go

/-! New blocks. -/
theorem St.fresh {s : Store} {w : World} (h : St s w) : s w.heap.size = none := by
  cases hs : s w.heap.size with
  | none => rfl
  | some x => exact absurd (h _ _ hs).lt (Nat.lt_irrefl _)
theorem Mv.alloc {o : Nat → Prop} (w : World) (x : Obj) : Mv o o w (w.alloc x) :=
  ⟨rfl, rfl, rfl, by simp, fun b hb _ => RowKit.Below.heap_alloc w x b hb, fun b h => .inl h⟩
theorem St.mv {s : Store} {w w' : World} (h : St s w) (hm : Mv (own s) (own s) w w') (hb : ∀ b, own s b → w'.heap[b]? = w.heap[b]?) : St s w' := fun b x hx =>
  (h b x hx).mv hm (hb b (by unfold own; rw [hx]; simp))
theorem St.alloc {s : Store} {w : World} (h : St s w) (x : Obj) : St s (w.alloc x) :=
  h.mv (Mv.alloc w x) fun b hb => RowKit.Below.heap_alloc w x b (h.lt hb)

theorem FV_of_frz {o : Nat → Prop} {w : World} {x : AV} {v : Value} (h : RV o w x v) (hf : x.frz = true) : FV o w x v := by
  cases h with
  | fz a v h => exact h
  | _ => simp [AV.frz] at hf
theorem one_of_frz {x : AV} (hf : x.frz = true) : x.one = true := by cases x <;> first | rfl | simp [AV.frz] at hf

/-! A row's cells, part by part. -/
theorem fill_row (k : Nat) : ∀ (vs : List Value) (i0 : Nat) (cs : Array Value), (i0 + vs.length) * k ≤ cs.size → (∀ v ∈ vs, v.cells.size = k) →
    ∃ cs', Instr.fill (fun i => some (i * k, k)) cs ((vs.zipIdx i0).map fun x => (x.2, x.1)) = some cs' ∧ cs'.size = cs.size ∧ (∀ i j, i < vs.length → j < k → cs'.getD ((i0 + i) * k + j) Go.undef = (vat vs i).cells.getD j Go.undef) ∧ (∀ p, p < i0 * k → cs'.getD p Go.undef = cs.getD p Go.undef)
  | [], i0, cs, _, _ => ⟨cs, rfl, rfl, fun i j hi => by simp at hi, fun _ _ => rfl⟩
  | v :: vs, i0, cs, h, hv => by
    simp only [List.length_cons] at h
    have hk : v.cells.size = k := hv v (by simp)
    have h' : (i0 + 1 + vs.length) * k ≤ cs.size := by rw [show i0 + 1 + vs.length = i0 + (vs.length + 1) from by omega]; exact h
    have hle : i0 * k + k ≤ cs.size := by
      have : (i0 + 1) * k ≤ (i0 + 1 + vs.length) * k := Nat.mul_le_mul_right k (by omega)
      rw [Nat.add_mul, Nat.one_mul] at this
      omega
    have e : v.cells.zipIdx.foldl (fun (cs : Array Value) (x : Value × Nat) => cs.setIfInBounds (i0 * k + x.2) x.1) cs = (v.cells.toList.zipIdx 0).foldl (fun (cs : Array Value) (x : Value × Nat) => cs.setIfInBounds (i0 * k + x.2) x.1) cs := by
      rw [← Array.foldl_toList, Array.toList_zipIdx]
    obtain ⟨f1, f2⟩ := foldl_set (i0 * k) v.cells.toList 0 cs (by rw [Array.length_toList, hk]; omega)
    obtain ⟨cs', g1, g2, g3, g4⟩ := fill_row k vs (i0 + 1) ((v.cells.toList.zipIdx 0).foldl (fun (cs : Array Value) (x : Value × Nat) => cs.setIfInBounds (i0 * k + x.2) x.1) cs) (by rw [f1]; exact h') (fun u hu => hv u (by simp [hu]))
    refine ⟨cs', ?_, by rw [g2, f1], fun i j hi hj => ?_, fun p hp => ?_⟩
    · simp only [List.zipIdx_cons, List.map_cons, Instr.fill]
      rw [if_neg (by rw [hk]; simp; omega)]
      have e' : (v.cells.zipIdx.foldl (fun cs (x : Value × Nat) => cs.setIfInBounds (i0 * k + x.2) x.1) cs) = (v.cells.toList.zipIdx 0).foldl (fun (cs : Array Value) (x : Value × Nat) => cs.setIfInBounds (i0 * k + x.2) x.1) cs := e
      rw [e']
      exact g1
    · cases i with
      | zero =>
        rw [g4 _ (by rw [Nat.add_zero, Nat.add_mul]; omega), f2, Nat.add_zero, Nat.add_zero, if_pos (by rw [Array.length_toList, hk]; omega)]
        simp [vat, Array.getD_eq_getD_getElem?, List.getD_eq_getElem?_getD]
      | succ i =>
        simp only [List.length_cons] at hi
        rw [show i0 + (i + 1) = i0 + 1 + i from by omega, g3 i j (by omega) hj]
        simp [vat]
    · rw [g4 p (by rw [Nat.add_mul]; omega), f2, if_neg (by omega)]

/-- What a row's element type must be. -/
def BslR (P : Program) (T E k : Nat) : Prop := P.underlying T = some (.slice E) ∧ ∃ ie z, P.info? E = some ie ∧ ie.size = k ∧ 0 < k ∧ ie.zero = some z ∧ z.cells.size = k

def OkRow : Nat → List (Nat × Operand) → List Opd → Prop
  | _, [], [] => True
  | i, (i', x) :: l, y :: l' => i' = i ∧ OkOpd x y ∧ OkRow (i + 1) l l'
  | _, _, _ => False

section
variable {P : Program} {T : Tbl} {R : Nat → Prop} {o : Oper} {a : Act} {s : Store} {w : World} {ρ : Opd → AV} {K : AV → Prop → Prop}

theorem okRow_spec : ∀ (l : List (Nat × Operand)) (l' : List Opd) (i : Nat), OkRow i l l' → OkOpds (l.map (·.2)) l' ∧ l.length = l'.length ∧ ∀ f : Operand → Value, (l.map fun x => (x.1, f x.2)) = (((l.map (·.2)).map f).zipIdx i).map fun x => (x.2, x.1)
  | [], [], _, _ => ⟨trivial, rfl, fun _ => rfl⟩
  | (i', x) :: l, y :: l', i, h => by
    obtain ⟨rfl, h1, h2⟩ := h
    obtain ⟨g1, g2, g3⟩ := okRow_spec l l' _ h2
    exact ⟨⟨h1, g1⟩, by simp [g2], fun f => by simp [g3 f]⟩
  | [], _ :: _, _, h => h.elim
  | _ :: _, [], _, h => h.elim

theorem rowok_at {p : AV → Bool} {k : Nat} : ∀ (l : List AV), rowok p k l → ∀ i, i < l.length → (cellsOf (at_ l i)).length = k ∧ (cellsOf (at_ l i)).all p = true
  | [], _, i, hi => by simp at hi
  | v :: l, h, 0, _ => ⟨h.1, h.2.1⟩
  | v :: l, h, i + 1, hi => by
    have := rowok_at l h.2.2 i (by simpa using hi)
    simpa [at_] using this

/-- The block that a slice's parts make. -/
theorem row_built (hρ : ∀ x y, OkOpd x y → RV (own s) w (ρ y) (a.eval x)) {Ty E k : Nat} {ps : Array (Nat × Operand)} {n : Nat} {ys : List Opd} (hB : BslR P Ty E k) (hk : OkRow 0 ps.toList ys) (hn : ys.length = n) (h0 : 0 < n) (hsm : n * k ≤ 16777216) (hd : dfs ρ ys) (hr : rowok AV.one k (vals ρ ys)) :
    ∃ cs : Array Value, (Instr.buildSlice Ty n (ps.map fun (i, x) => (i, a.eval x))).run P w = .ok (.slice (some ⟨w.heap.size, 0, none⟩) n n) (w.alloc (.cells cs E)) ∧ cs.size = n * k ∧ ∀ i j, i < n → j < k → RV (own s) w (at_ (cellsOf (at_ (vals ρ ys) i)) j) (cs.getD (i * k + j) Go.undef) := by
  obtain ⟨hE, ie, z, b1, rfl, b3, b4, b5⟩ := hB
  obtain ⟨g1, g2, g3⟩ := okRow_spec _ _ _ hk
  obtain ⟨v1, v2⟩ := RVs_vals hρ _ _ g1 hd
  have hlen : (ps.toList.map (·.2)).length = n := by rw [List.length_map, g2, hn]
  have hcell : ∀ i, i < n → (vat ((ps.toList.map (·.2)).map a.eval) i).cells.size = ie.size ∧ ∀ j, j < ie.size → RV (own s) w (at_ (cellsOf (at_ (vals ρ ys) i)) j) ((vat ((ps.toList.map (·.2)).map a.eval) i).cells.getD j Go.undef) := fun i hi => by
    have hi' : i < (vals ρ ys).length := by rw [← v1, List.length_map, hlen]; exact hi
    obtain ⟨r1, r2⟩ := rowok_at _ hr i hi'
    obtain ⟨c1, c2, c3⟩ := RV_cells (v2 i hi') r2
    exact ⟨by rw [c1, r1], fun j hj => c2 j (by omega)⟩
  obtain ⟨cs, f1, f2, f3, f4⟩ := fill_row ie.size ((ps.toList.map (·.2)).map a.eval) 0 ((Array.range (n * ie.size)).map (z.cells[· % z.cells.size]!)) (by simp [hlen, ← hn, g2]) (fun v hv => by
    obtain ⟨i, hi, rfl⟩ := List.getElem_of_mem hv
    have hi' : i < n := by simpa [hlen, ← hn, g2] using hi
    have := (hcell i hi').1
    rwa [vat, List.getD_eq_getElem?_getD, List.getElem?_eq_getElem hi] at this)
  have hfill : Instr.fill (fun i => some (i * ie.size, ie.size)) ((Array.range (n * ie.size)).map (z.cells[· % z.cells.size]!)) (ps.map fun (i, x) => (i, a.eval x)).toList = some cs := by
    have e : (ps.map fun (i, x) => (i, a.eval x)).toList = ps.toList.map fun x => (x.1, a.eval x.2) := by simp
    rw [e, g3 a.eval]
    exact f1
  have hpos : 0 < n * ie.size := Nat.mul_pos h0 b3
  refine ⟨cs, ?_, by rw [f2]; simp, fun i j hi hj => ?_⟩
  · have hz : (zeroValue E).run P w = .ok z w := by simp [zeroValue, typeInfo, b1, b4]
    have hsz : (sizeOf E).run P w = .ok ie.size w := by simp [sizeOf, typeInfo, b1]
    simp only [Instr.buildSlice, Sem.run_bind, run_underlying hE, Result.andThen_ok, hsz]
    rw [if_neg (by omega), if_neg (by omega)]
    simp only [Sem.run_bind, hz, Result.andThen_ok, Sem.run_pure, hfill, newRow, run_newObj]
    rfl
  · have := (hcell i hi).2 j hj
    rw [show i * ie.size + j = (0 + i) * ie.size + j from by simp, f3 i j (by simp [hlen, ← hn, g2] at *; omega) hj]
    exact this

theorem ns_bsl (hs : St s w) (hρ : ∀ x y, OkOpd x y → RV (own s) w (ρ y) (a.eval x)) {Ty E k n : Nat} {ps : Array (Nat × Operand)} {ys : List Opd} (ho : o.op = .buildSlice Ty n ps) (hB : BslR P Ty E k) (hk : OkRow 0 ps.toList ys) (hn : ys.length = n) (hsm : n * k ≤ 16777216)
    (h : nop T R (.bsl k ys) ρ s K) : NS P o a s w K := by
  simp only [nop] at h
  refine ⟨_, _, h, fun hd => ?_⟩
  by_cases h0 : n = 0
  · rw [if_pos (by omega)]
    obtain ⟨hE, ie, z, b1, rfl, b3, b4, b5⟩ := hB
    subst h0
    have hps : ps = #[] := by
      obtain ⟨g1, g2, g3⟩ := okRow_spec _ _ _ hk
      rw [hn] at g2
      exact Array.eq_empty_of_size_eq_zero (by simpa using g2)
    subst hps
    have hsz : (sizeOf E).run P w = .ok ie.size w := by simp [sizeOf, typeInfo, b1]
    refine YW_value (v := .slice (some ⟨w.heap.size, 0, none⟩) 0 0) (w' := w.alloc (.cells #[] E)) ?_ ⟨rfl, rfl⟩ (.fz _ _ (.emp _)) (hs.alloc _) (Mv.alloc _ _)
    have e0 : ∀ f : Nat → Value, (Array.range 0).map f = #[] := fun f => Array.eq_empty_of_size_eq_zero (by simp)
    simp [execOp, ho, Instr.buildSlice, run_underlying hE, hsz, Instr.fill, newRow, e0]
  · rw [if_neg (by omega)]
    have hone : rowok AV.one k (vals ρ ys) := by
      have : ∀ l, rowok AV.frz k l → rowok AV.one k l := by
        intro l
        induction l with
        | nil => exact fun h => h
        | cons v l ih => exact fun h => ⟨h.1, by rw [List.all_eq_true] at *; exact fun x hx => one_of_frz (List.all_eq_true.1 h.2.1 x hx), ih h.2.2⟩
      exact this _ hd.2
    obtain ⟨cs, e1, e2, e3⟩ := row_built hρ hB hk hn (by omega) hsm hd.1 hone
    refine YW_value (v := .slice (some ⟨w.heap.size, 0, none⟩) n n) (w' := w.alloc (.cells cs E)) ?_ ⟨rfl, rfl⟩ ?_ (hs.alloc _) (Mv.alloc _ _)
    · simp only [execOp, ho, Sem.run_bind, e1, Result.andThen_ok, Sem.run_pure]
    · rw [hn]
      have hfresh : ¬ own s w.heap.size := by unfold own; rw [hs.fresh]; simp
      have hvl : (vals ρ ys).length = n := by simp [vals, hn]
      refine .fz _ _ (.lst _ _ _ _ _ (fun i j => cs.getD (i * k + j) Go.undef) (by omega) (Nat.le_refl _) rfl hfresh (by simp) (fun i j hi hj => ?_) (fun i hi => (rowok_at _ hd.2 i (by omega)).1) fun i j hi hj => ?_)
      · rw [add_at, Nat.zero_add, World.cell?_alloc_new]
        have hlt : i * k + j < cs.size := by
          rw [e2]
          have : (i + 1) * k ≤ n * k := Nat.mul_le_mul_right k hi
          rw [Nat.add_mul, Nat.one_mul] at this
          omega
        simp [Array.getD_eq_getD_getElem?, hlt]
      · obtain ⟨r1, r2⟩ := rowok_at _ hd.2 i (by omega)
        refine FV.mv (Mv.alloc w _) (FV_of_frz (e3 i j hi hj) ?_)
        rw [List.all_eq_true] at r2
        refine r2 _ ?_
        have hj' : j < (cellsOf (at_ (vals ρ ys) i)).length := by omega
        generalize cellsOf (at_ (vals ρ ys) i) = l at hj' ⊢
        rw [at_, List.getD_eq_getElem?_getD, List.getElem?_eq_getElem hj']
        exact List.getElem_mem hj'
end
end Go.Proofs.Ytjoncejabdjekaa.L
