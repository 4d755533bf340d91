/- An own program logic over the kit's walk, part 8: operations that turn the store. -/
import Derived.Test.YtjoncejabdjekaaL7
import Derived.Laws.AppendOwn
import Derived.Laws.MakeOwn
set_option linter.unusedVariables false
set_option linter.unusedSimpArgs false
namespace Go.Proofs.Ytjoncejabdjekaa.L
open Go

theorem upd_same (s : Store) (b : Nat) (x : AObj) : upd s b x b = some x := by simp [upd]
theorem upd_ne (s : Store) {b c : Nat} (x : AObj) (h : c ≠ b) : upd s b x c = s c := by simp [upd, h]
theorem own_upd {s : Store} {b : Nat} {x : AObj} {c : Nat} (h : own (upd s b x) c) : c = b ∨ own s c := by
  by_cases hc : c = b
  · exact .inl hc
  · right; unfold own at *; rwa [upd_ne _ _ hc] at h

/-- A new object. -/
theorem St_new {s : Store} {w w' : World} (hs : St s w) {x : AObj} (hm : Mv (own s) (own s) w w') (hold : ∀ c, c < w.heap.size → w'.heap[c]? = w.heap[c]?) (hx : ObjR (own (upd s w.heap.size x)) w' w.heap.size x) :
    St (upd s w.heap.size x) w' ∧ Mv (own s) (own (upd s w.heap.size x)) w w' := by
  have hm' : Mv (own s) (own (upd s w.heap.size x)) w w' := ⟨hm.os, hm.tape, hm.output, hm.size, hm.block, fun c hc => by
    rcases own_upd hc with rfl | h
    · exact .inr (Nat.le_refl _)
    · exact .inl h⟩
  refine ⟨fun c y hc => ?_, hm'⟩
  by_cases h : c = w.heap.size
  · subst h
    rw [upd_same] at hc
    cases hc
    exact hx
  · rw [upd_ne _ _ h] at hc
    exact (hs c y hc).mv hm' (hold c (hs c y hc).lt)

/-- An object is turned. -/
theorem St_set {s : Store} {w w' : World} (hs : St s w) {b : Nat} {x : AObj} (hb : own s b) (h1 : w'.os = w.os) (h2 : w'.tape = w.tape) (h3 : w'.output = w.output) (h4 : w'.heap.size = w.heap.size) (hold : ∀ c, c ≠ b → w'.heap[c]? = w.heap[c]?)
    (hx : Mv (own s) (own (upd s b x)) w w' → ObjR (own (upd s b x)) w' b x) : St (upd s b x) w' ∧ Mv (own s) (own (upd s b x)) w w' := by
  have hm' : Mv (own s) (own (upd s b x)) w w' := ⟨h1, h2, h3, by omega, fun c _ hc => hold c (fun e => hc (e ▸ hb)), fun c hc => by
    rcases own_upd hc with rfl | h
    · exact .inl hb
    · exact .inl h⟩
  refine ⟨fun c y hc => ?_, hm'⟩
  by_cases h : c = b
  · subst h
    rw [upd_same] at hc
    cases hc
    exact hx hm'
  · rw [upd_ne _ _ h] at hc
    exact (hs c y hc).mv hm' (hold c h)

theorem own_some {s : Store} {b : Nat} {x : AObj} (h : s b = some x) : own s b := by unfold own; rw [h]; simp

section
variable {P : Program} {R : Nat → Prop} {o : Oper} {a : Act} {s : Store} {w : World} {ρ : Opd → AV} {K : AV → Store → Prop}

/-- A new variable: its cells. -/
theorem box_new (hs : St s w) {cs : Array Value} {T : TypeId} {z : List AV} (h : CR (own s) w z cs) : St (upd s w.heap.size (.box z)) (w.alloc (.cells cs T)) ∧ Mv (own s) (own (upd s w.heap.size (.box z))) w (w.alloc (.cells cs T)) := by
  have hm := Mv.alloc (o := own s) w (.cells cs T)
  refine St_new hs hm (fun c hc => RowKit.Below.heap_alloc w _ c hc) ⟨cs, T, heap_alloc_new w _, h.1, fun j hj => (h.2 j hj).mv ?_⟩
  exact ⟨hm.os, hm.tape, hm.output, hm.size, hm.block, fun c hc => by
    rcases own_upd hc with rfl | h
    · exact .inr (Nat.le_refl _)
    · exact .inl h⟩

def AlcR (P : Program) (T : TypeId) (z : List AV) : Prop := ∃ zv, (∀ w, (zeroValue T).run P w = .ok zv w) ∧ ZR z zv.cells

theorem es_alc (hs : St s w) (hR : ∀ b, R b → b < w.heap.size) {Ty : Nat} {z : List AV} (ho : o.op = .alloc Ty) (hz : AlcR P Ty z) (h : eff P R (.alc z) ρ s K) : YW P o a s w K := by
  obtain ⟨zv, z1, z2⟩ := hz
  simp only [eff] at h
  obtain ⟨g1, g2⟩ := box_new (T := Ty) hs (z2 (own s) w)
  refine YW_value (v := .pointer (some ⟨w.heap.size, 0, none⟩)) (w' := w.alloc (.cells zv.cells Ty)) ?_ (h w.heap.size hs.fresh (fun h => absurd (hR _ h) (Nat.lt_irrefl _))) (.ptr _ _) g1 g2
  simp only [execOp, ho, Instr.alloc, Sem.run_bind, z1, Result.andThen_ok, newVar, newRow, run_newObj, Sem.run_pure]
  rfl

theorem es_box (hs : St s w) (hR : ∀ b, R b → b < w.heap.size) {Ty : Nat} {x : Operand} {y : Opd} (ho : o.op = .box Ty x) (hx : RV (own s) w (ρ y) (a.eval x)) (h : eff P R (.box y) ρ s K) : YW P o a s w K := by
  simp only [eff] at h
  obtain ⟨hd, h1, h⟩ := h
  have hv := RV_val hx hd
  obtain ⟨c1, c2, c3⟩ := RV_cells hv h1
  obtain ⟨g1, g2⟩ := box_new (T := Ty) hs (z := cellsOf (ρ y).val) (cs := (a.eval x).cells) ⟨c1, c2⟩
  refine YW_value (v := .pointer (some ⟨w.heap.size, 0, none⟩)) (w' := w.alloc (.cells (a.eval x).cells Ty)) ?_ (h w.heap.size hs.fresh (fun h => absurd (hR _ h) (Nat.lt_irrefl _))) (.ptr _ _) g1 g2
  simp only [execOp, ho, Instr.box, Sem.run_bind, Result.andThen_ok, newVar, newRow, run_newObj, Sem.run_pure]
  rfl

/-- The cells behind a store. -/
theorem getD_seg (cs : List Value) (p : Nat) (vs : List Value) (j : Nat) (h : p + vs.length ≤ cs.length) :
    (cs.take p ++ vs ++ cs.drop (p + vs.length)).toArray.getD j Go.undef = if p ≤ j ∧ j < p + vs.length then vat vs (j - p) else cs.toArray.getD j Go.undef := by
  simp only [Array.getD_eq_getD_getElem?, List.getElem?_toArray, vat, List.getD_eq_getElem?_getD, List.append_assoc]
  have hl : (cs.take p).length = p := by simp; omega
  by_cases h1 : j < p
  · rw [if_neg (by omega), List.getElem?_append_left (by omega), List.getElem?_take, if_pos h1]
  · rw [List.getElem?_append_right (by omega), hl]
    by_cases h2 : j < p + vs.length
    · rw [if_pos ⟨by omega, h2⟩, List.getElem?_append_left (by omega)]
    · rw [if_neg (by omega), List.getElem?_append_right (by omega), List.getElem?_drop]
      congr 2
      omega

theorem es_sto (hs : St s w) {Ty n : Nat} {p v : Operand} {p' v' : Opd} (ho : o.op = .store Ty p v) (hT : ∀ w, (sizeOf Ty).run P w = .ok n w) (hp : RV (own s) w (ρ p') (a.eval p)) (hv : RV (own s) w (ρ v') (a.eval v)) (h : eff P R (.sto p' v' n) ρ s K) : YW P o a s w K := by
  simp only [eff] at h
  obtain ⟨hd1, hd2, hl, h1, h⟩ := h
  have hvv := RV_val hv hd2
  obtain ⟨c1, c2, c3⟩ := RV_cells hvv h1
  have hpv := RV_val hp hd1
  have hlen : (a.eval v).cells.toList.length = n := by rw [Array.length_toList, c1, hl]
  have run : ∀ b q (cur : Array Value) (t : TypeId), a.eval p = .pointer (some ⟨b, q, none⟩) → w.heap[b]? = some (.cells cur t (0, 0)) → q + n ≤ cur.size →
      (execOp a.eval o).run P w = .ok .skip (w.setRow b (cur.toList.take q ++ (a.eval v).cells.toList ++ cur.toList.drop (q + (a.eval v).cells.toList.length)).toArray) := fun b q cur t he hb hq => by
    have hst := run_storeCells_at P b q t (a.eval v).cells.toList 0 cur w hb (by rw [hlen]; omega) c3
    simp only [Nat.add_zero] at hst
    simp only [execOp, ho, he, Instr.storeAt, Instr.sureAddr, storeVar, Sem.run_bind, Sem.run_pure, Result.andThen_ok, hT]
    rw [if_neg (by rw [c1, hl]; simp), hst]
    rfl
  have cell : ∀ j, j < n → RV (own s) w (at_ (cellsOf (ρ v').val) j) (vat (a.eval v).cells.toList j) := fun j hj => by
    have := c2 j (by omega)
    simpa [vat, Array.getD_eq_getD_getElem?, List.getD_eq_getElem?_getD] using this
  split at h
  · rename_i b q hb
    split at h
    · rename_i cs hsb
      obtain ⟨-, hle, h⟩ := h
      rw [hb] at hpv
      obtain ⟨vs, t, e1, e2, e3⟩ := hs _ _ hsb
      have hr := run b q vs t (inv_ptr hpv) e1 (by omega)
      generalize hw' : w.setRow b _ = w' at hr
      have hS := St_set (x := .box (splice cs q (cellsOf (ρ v').val))) (w' := w') hs (own_some hsb) (by rw [← hw']; rfl) (by rw [← hw']; rfl) (by rw [← hw']; rfl) (by rw [← hw']; simp) (fun c hc => by rw [← hw']; exact setRow_other w b c _ hc) (fun hm => by
        refine ⟨_, t, by rw [← hw']; exact setRow_heap w b vs _ t _ e1, ?_, fun j hj => ?_⟩
        · rw [splice_length _ _ _ (by omega), ← e2]
          simp only [List.size_toArray, List.length_append, List.length_take, List.length_drop, Array.length_toList] at hlen ⊢
          omega
        · rw [splice_length _ _ _ (by omega)] at hj
          rw [getD_seg _ _ _ _ (by rw [hlen, Array.length_toList]; omega), at_splice _ _ _ _ (by omega), hlen, hl]
          by_cases hc : q ≤ j ∧ j < q + n
          · rw [if_pos hc, if_pos hc]; exact (cell _ (by omega)).mv hm
          · rw [if_neg hc, if_neg hc]; simpa using (e3 j hj).mv hm)
      exact YW_skip hr h hS.1 hS.2
    · exact h.elim
  · rename_i b k i j hb
    split at h
    · rename_i T' k' c xs hsb
      obtain ⟨rfl, -, hi, hle, h⟩ := h
      rw [hb] at hpv
      obtain ⟨vs, e1, e2, e3, e3', e4, e5⟩ := hs _ _ hsb
      have hbound : i * k + k ≤ vs.size := by
        rw [e2]
        have : (i + 1) * k ≤ c * k := Nat.mul_le_mul_right k (by omega)
        rw [Nat.add_mul] at this
        omega
      have hr := run b (i * k + j) vs T' (inv_rptr hpv) e1 (by omega)
      generalize hw' : w.setRow b _ = w' at hr
      have hxi : (xs.getD i []).length = k := e4 i hi
      have hS := St_set (x := .row T' k c (xs.set i (splice (xs.getD i []) j (cellsOf (ρ v').val)))) (w' := w') hs (own_some hsb) (by rw [← hw']; rfl) (by rw [← hw']; rfl) (by rw [← hw']; rfl) (by rw [← hw']; simp) (fun c hc => by rw [← hw']; exact setRow_other w b c _ hc) (fun hm => by
        have hget : ∀ i', i' < xs.length → (xs.set i (splice (xs.getD i []) j (cellsOf (ρ v').val))).getD i' [] = if i' = i then splice (xs.getD i []) j (cellsOf (ρ v').val) else xs.getD i' [] := fun i' hi' => by
          simp only [List.getD_eq_getElem?_getD, List.getElem?_set]
          by_cases hh : i = i'
          · subst hh; simp [hi]
          · rw [if_neg hh, if_neg (fun e => hh e.symm)]
        refine ⟨_, by rw [← hw']; exact setRow_heap w b vs _ T' _ e1, ?_, by simpa using e3, e3', fun i' hi' => ?_, fun i' j' hi' hj' => ?_⟩
        · rw [← e2]
          simp only [List.size_toArray, List.length_append, List.length_take, List.length_drop, Array.length_toList] at hlen ⊢
          omega
        · simp only [List.length_set] at hi'
          rw [hget i' hi']
          split
          · rw [splice_length _ _ _ (by omega)]; exact hxi
          · exact e4 i' hi'
        · simp only [List.length_set] at hi'
          rw [hget i' hi', getD_seg _ _ _ _ (by rw [hlen, Array.length_toList]; omega), hlen]
          by_cases hh : i' = i
          · subst hh
            rw [if_pos rfl, at_splice _ _ _ _ (by omega), hl]
            by_cases hc : j ≤ j' ∧ j' < j + n
            · rw [if_pos hc, if_pos (by omega)]
              rw [show i' * k + j' - (i' * k + j) = j' - j from by omega]
              refine ⟨(cell _ (by omega)).mv hm, ?_⟩
              have : j' - j < (a.eval v).cells.toList.length := by omega
              exact c3 _ (by rw [vat, List.getD_eq_getElem?_getD, List.getElem?_eq_getElem this]; exact List.getElem_mem this)
            · rw [if_neg hc, if_neg (by omega)]
              have := e5 i' j' hi' hj'
              exact ⟨by simpa using this.1.mv hm, by simpa using this.2⟩
          · rw [if_neg hh, if_neg ?_]
            · have := e5 i' j' hi' hj'
              exact ⟨by simpa using this.1.mv hm, by simpa using this.2⟩
            · intro hc
              rcases Nat.lt_or_gt_of_ne hh with hlt | hlt
              · have : (i' + 1) * k ≤ i * k := Nat.mul_le_mul_right k hlt
                rw [Nat.add_mul] at this
                omega
              · have : (i + 1) * k ≤ i' * k := Nat.mul_le_mul_right k hlt
                rw [Nat.add_mul] at this
                omega)
      exact YW_skip hr h hS.1 hS.2
    · exact h.elim
  · exact h.elim
end
end Go.Proofs.Ytjoncejabdjekaa.L
