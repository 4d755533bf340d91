/- An own program logic over the kit's walk, part 9: slices that are made and appended to, maps that are written, calls. -/
import Derived.Test.YtjoncejabdjekaaL8
set_option linter.unusedVariables false
set_option linter.unusedSimpArgs false
namespace Go.Proofs.Ytjoncejabdjekaa.L
open Go

/-- What a made slice's element type must be. -/
structure ElR (P : Program) (T E k by_ : Nat) (z : List AV) (i : TypeInfo) (zv : Value) : Prop where
  und : P.underlying T = some (.slice E)
  info : P.info? E = some i
  sz : i.size = k
  bys : i.bytes = by_
  zero : i.zero = some zv
  zs : zv.cells.size = k
  pos : 0 < k
  bpos : 0 < by_
  one : ∀ u ∈ zv.cells.toList, u.oneCell' = true
  zr : z.length = k → ZR z zv.cells

section
variable {P : Program} {R : Nat → Prop} {o : Oper} {a : Act} {s : Store} {w : World} {ρ : Opd → AV} {K : AV → Store → Prop}

theorem es_mkm (hs : St s w) (hR : ∀ b, R b → b < w.heap.size) {Ty kn : Nat} (ho : o.op = .makeMap Ty none) (h : eff P R (.mkm kn Ty) ρ s K) : YW P o a s w K := by
  simp only [eff] at h
  have hm := Mv.alloc (o := own s) w (.map #[] 0)
  obtain ⟨g1, g2⟩ := St_new (x := .imap kn [] none) hs hm (fun c hc => RowKit.Below.heap_alloc w _ c hc) ⟨#[], 0, heap_alloc_new w _, rfl, fun i hi => by simp at hi, fun i hi => by simp at hi, fun i j hi => by simp at hi, fun x i h => by simp at h⟩
  refine YW_value (v := .map (some w.heap.size)) (w' := w.alloc (.map #[] 0)) ?_ (h w.heap.size hs.fresh (fun h => absurd (hR _ h) (Nat.lt_irrefl _))) (.mp _) g1 g2
  simp [execOp, ho, Instr.makeMap]

theorem row_new (hs : St s w) {cs : Array Value} {T k n : Nat} {xs : List (List AV)} (h2 : cs.size = n * k) (hn : xs.length = n) (h3 : n ≤ 9223372036854775807) (h4 : ∀ i, i < xs.length → (xs.getD i []).length = k)
    (h5 : ∀ i j, i < xs.length → j < k → RV (own s) w (at_ (xs.getD i []) j) (cs.getD (i * k + j) Go.undef) ∧ (cs.getD (i * k + j) Go.undef).oneCell' = true) :
    St (upd s w.heap.size (.row T k n xs)) (w.alloc (.cells cs T)) ∧ Mv (own s) (own (upd s w.heap.size (.row T k n xs))) w (w.alloc (.cells cs T)) := by
  have hm := Mv.alloc (o := own s) w (.cells cs T)
  refine St_new hs hm (fun c hc => RowKit.Below.heap_alloc w _ c hc) ⟨cs, heap_alloc_new w _, h2, by omega, h3, h4, fun i j hi hj => ⟨(h5 i j hi hj).1.mv ?_, (h5 i j hi hj).2⟩⟩
  exact ⟨hm.os, hm.tape, hm.output, hm.size, hm.block, fun c hc => by
    rcases own_upd hc with rfl | h
    · exact .inr (Nat.le_refl _)
    · exact .inl h⟩

theorem madeCells_at {zv : Array Value} {k n i j : Nat} (hz : zv.size = k) (hi : i < n) (hj : j < k) : (madeCells zv (n * k)).getD (i * k + j) Go.undef = zv.getD j Go.undef := by
  have hlt : i * k + j < n * k := by
    have : (i + 1) * k ≤ n * k := Nat.mul_le_mul_right k hi
    rw [Nat.add_mul, Nat.one_mul] at this
    omega
  have hmod : (i * k + j) % zv.size = j := by rw [hz, Nat.add_comm, Nat.add_mul_mod_self_right, Nat.mod_eq_of_lt hj]
  simp only [madeCells, Array.getD_eq_getD_getElem?]
  simp [hlt, hmod, show j < zv.size by omega]

theorem es_mks (hs : St s w) (hR : ∀ b, R b → b < w.heap.size) {Ty E k by_ : Nat} {z : List AV} {i : TypeInfo} {zv : Value} {n c : Operand} {n' : Opd} (ho : o.op = .makeSlice Ty n c) (hnc : a.eval c = a.eval n) (hE : ElR P Ty E k by_ z i zv) (hz : z.length = k) (hn : RV (own s) w (ρ n') (a.eval n))
    (h : eff P R (.mks E k by_ z n') ρ s K) : YW P o a s w K := by
  simp only [eff] at h
  obtain ⟨hd, h⟩ := h
  have hv := RV_val hn hd
  split at h
  · rename_i kk m hb
    obtain ⟨h0, hby, h⟩ := h
    rw [hb] at hv
    have hZ := hE.zr hz (own s) w
    have hle : m ≤ 9223372036854775807 := by
      have h2 : (1 : Int) * m ≤ by_ * m := Int.mul_le_mul_of_nonneg_right (by have := hE.bpos; omega) h0
      omega
    obtain ⟨g1, g2⟩ := row_new (T := E) (k := k) (n := m.toNat) (xs := List.replicate m.toNat z) (cs := madeCells zv.cells (m.toNat * k)) hs (size_madeCells _ _) (by simp) (by omega) (fun i hi => by
        have hi' : i < m.toNat := by simpa using hi
        simp [List.getD_eq_getElem?_getD, hi', hz]) (fun i j hi hj => by
        have hi' : i < m.toNat := by simpa using hi
        rw [madeCells_at hE.zs hi' hj]
        refine ⟨?_, ?_⟩
        · have := hZ.2 j (by omega)
          simpa [List.getD_eq_getElem?_getD, hi'] using this
        · refine hE.one _ ?_
          have := hE.zs
          simp [Array.getD_eq_getD_getElem?, show j < zv.cells.size by omega])
    refine YW_value (v := .slice (some ⟨w.heap.size, 0, none⟩) m.toNat m.toNat) (w' := w.alloc (.cells (madeCells zv.cells (m.toNat * k)) E)) ?_ (h w.heap.size hs.fresh (fun h => absurd (hR _ h) (Nat.lt_irrefl _))) (.slc _ _ _) g1 g2
    have hrun := run_make (P := P) w Ty E i zv hE.und hE.info hE.zero kk kk m m h0 (Int.le_refl _) (by rw [hE.bys]; omega) hle
    rw [hE.sz] at hrun
    simp only [execOp, ho, hnc, inv_int hv, Sem.run_bind, hrun, Result.andThen_ok, Sem.run_pure]
  · exact h.elim

theorem es_bsr (hs : St s w) (hR : ∀ b, R b → b < w.heap.size) (hρ : ∀ x y, OkOpd x y → RV (own s) w (ρ y) (a.eval x)) {Ty E k n : Nat} {ps : Array (Nat × Operand)} {ys : List Opd} (ho : o.op = .buildSlice Ty n ps) (hB : BslR P Ty E k) (hk : OkRow 0 ps.toList ys) (hn : ys.length = n) (hsm : n * k ≤ 16777216)
    (h : eff P R (.bsr E k ys) ρ s K) : YW P o a s w K := by
  simp only [eff] at h
  obtain ⟨hd, hr, h⟩ := h
  have hvl : (vals ρ ys).length = n := by simp [vals, hn]
  have hget : ∀ i, i < n → ((vals ρ ys).map cellsOf).getD i [] = cellsOf (at_ (vals ρ ys) i) := fun i hi => by
    simp [List.getD_eq_getElem?_getD, at_, show i < (vals ρ ys).length by omega]
  have hpos : 0 < k := by obtain ⟨_, ie, z, _, rfl, h, _⟩ := hB; exact h
  have hnle : n ≤ n * k := Nat.le_mul_of_pos_right n hpos
  by_cases h0 : n = 0
  · obtain ⟨hE, ie, z, b1, rfl, b3, b4, b5⟩ := hB
    subst h0
    have hps : ps = #[] := by
      obtain ⟨g1, g2, g3⟩ := okRow_spec _ _ _ hk
      rw [hn] at g2
      exact Array.eq_empty_of_size_eq_zero (by simpa using g2)
    subst hps
    have hys : ys = [] := List.eq_nil_of_length_eq_zero hn
    subst hys
    have hsz : (sizeOf E).run P w = .ok ie.size w := by simp [sizeOf, typeInfo, b1]
    obtain ⟨g1, g2⟩ := row_new (T := E) (k := ie.size) (n := 0) (xs := []) (cs := #[]) hs (by simp) rfl (by omega) (fun i hi => by simp at hi) (fun i j hi => by simp at hi)
    refine YW_value (v := .slice (some ⟨w.heap.size, 0, none⟩) 0 0) (w' := w.alloc (.cells #[] E)) ?_ (h w.heap.size hs.fresh (fun h => absurd (hR _ h) (Nat.lt_irrefl _))) (.slc _ _ _) g1 g2
    have e0 : ∀ f : Nat → Value, (Array.range 0).map f = #[] := fun f => Array.eq_empty_of_size_eq_zero (by simp)
    simp [execOp, ho, Instr.buildSlice, run_underlying hE, hsz, Instr.fill, newRow, e0]
  · obtain ⟨cs, e1, e2, e3⟩ := row_built hρ hB hk hn (by omega) hsm hd hr
    obtain ⟨g1, g2⟩ := row_new (T := E) (k := k) (n := n) (xs := (vals ρ ys).map cellsOf) (cs := cs) hs e2 (by simp [hvl]) (by omega) (fun i hi => by
        have hi' : i < n := by simpa [hvl] using hi
        rw [hget i hi']; exact (rowok_at _ hr i (by omega)).1) (fun i j hi hj => by
        have hi' : i < n := by simpa [hvl] using hi
        rw [hget i hi']
        refine ⟨e3 i j hi' hj, RV_one (e3 i j hi' hj) ?_⟩
        obtain ⟨r1, r2⟩ := rowok_at _ hr i (by omega)
        rw [List.all_eq_true] at r2
        refine r2 _ ?_
        have hj' : j < (cellsOf (at_ (vals ρ ys) i)).length := by omega
        generalize cellsOf (at_ (vals ρ ys) i) = l at hj' ⊢
        rw [at_, List.getD_eq_getElem?_getD, List.getElem?_eq_getElem hj']
        exact List.getElem_mem hj')
    refine YW_value (v := .slice (some ⟨w.heap.size, 0, none⟩) n n) (w' := w.alloc (.cells cs E)) ?_ (by have := h w.heap.size hs.fresh (fun h => absurd (hR _ h) (Nat.lt_irrefl _)); rw [hn] at this; exact this) (.slc _ _ _) g1 g2
    simp only [execOp, ho, Sem.run_bind, e1, Result.andThen_ok, Sem.run_pure]

theorem es_xcall (hs : St s w) (hρ : ∀ x y, OkOpd x y → RV (own s) w (ρ y) (a.eval x)) {f : FuncId} {xs : Array Operand} {ts : Array TypeId} {ys : List Opd} (ho : o.op = .call { callee := .value (.func f), args := xs, argTypes := ts }) (hx : OkOpds xs.toList ys) (h : eff P R (.xcall f ys) ρ s K) : YW P o a s w K := by
  simp only [eff] at h
  exact YW_call (call_run ho h.2.1) h.2 (fun _ _ h => h.2) hs (RVs_vals hρ _ _ hx h.1)

theorem es_xcallv (hs : St s w) (hρ : ∀ x y, OkOpd x y → RV (own s) w (ρ y) (a.eval x)) {c : Operand} {c' : Opd} {xs : Array Operand} {ts : Array TypeId} {ys : List Opd} (ho : o.op = .call { callee := .value c, args := xs, argTypes := ts }) (hc : OkOpd c c') (hx : OkOpds xs.toList ys)
    (h : eff P R (.xcallv c' ys) ρ s K) : YW P o a s w K := by
  simp only [eff] at h
  obtain ⟨h1, h2, h⟩ := h
  split at h
  · rename_i f caps hfn
    have hv := RV_val (hρ _ _ hc) h1
    rw [hfn] at hv
    obtain ⟨us, e1, e2, e3⟩ := inv_fn hv
    exact YW_call (callv_run ho e1 h.1) h (fun _ _ h => h.2) hs (RVs_append (RVs_vals hρ _ _ hx h2) ⟨e2, e3⟩)
  · exact h.elim
end
end Go.Proofs.Ytjoncejabdjekaa.L
