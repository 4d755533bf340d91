/- An own program logic over the kit's walk, part 10: append, and maps that are written. -/
import Derived.Test.YtjoncejabdjekaaL9
set_option linter.unusedVariables false
set_option linter.unusedSimpArgs false
namespace Go.Proofs.Ytjoncejabdjekaa.L
open Go

theorem FV_one {o : Nat → Prop} {w : World} {x : AV} {v : Value} (h : FV o w x v) : v.oneCell' = true := by cases h <;> rfl

/-- The cells of elements, one after the other. -/
def flat (f : Nat → Nat → Value) (m k : Nat) : List Value := (List.range (m * k)).map fun p => f (p / k) (p % k)
theorem flat_length (f : Nat → Nat → Value) (m k : Nat) : (flat f m k).length = m * k := by simp [flat]
theorem flat_at (f : Nat → Nat → Value) {m k i j : Nat} (hi : i < m) (hj : j < k) : vat (flat f m k) (i * k + j) = f i j := by
  have hlt : i * k + j < m * k := by
    have : (i + 1) * k ≤ m * k := Nat.mul_le_mul_right k hi
    rw [Nat.add_mul, Nat.one_mul] at this
    omega
  have hk : 0 < k := by omega
  have h1 : (i * k + j) / k = i := by rw [Nat.add_comm, Nat.add_mul_div_right _ _ hk, Nat.div_eq_of_lt hj, Nat.zero_add]
  have h2 : (i * k + j) % k = j := by rw [Nat.add_comm, Nat.add_mul_mod_self_right, Nat.mod_eq_of_lt hj]
  simp [vat, flat, List.getD_eq_getElem?_getD, hlt, h1, h2]
theorem flat_mem (f : Nat → Nat → Value) {m k : Nat} {u : Value} (hu : u ∈ flat f m k) : ∃ i j, i < m ∧ j < k ∧ u = f i j := by
  simp only [flat, List.mem_map, List.mem_range] at hu
  obtain ⟨p, hp, rfl⟩ := hu
  have hk : 0 < k := by
    rcases Nat.eq_zero_or_pos k with h | h
    · subst h; simp at hp
    · exact h
  exact ⟨p / k, p % k, (Nat.div_lt_iff_lt_mul hk).2 hp, Nat.mod_lt _ hk, rfl⟩
theorem flat_get {f : Nat → Nat → Value} {m k q : Nat} {u : Value} (hu : (flat f m k)[q]? = some u) : q / k < m ∧ q % k < k ∧ u = f (q / k) (q % k) ∧ q / k * k + q % k = q := by
  have hq : q < m * k := by
    have := (List.getElem?_eq_some_iff.1 hu).1
    rwa [flat_length] at this
  have hk : 0 < k := by
    rcases Nat.eq_zero_or_pos k with h | h
    · subst h; simp at hq
    · exact h
  simp [flat, hq] at hu
  exact ⟨(Nat.div_lt_iff_lt_mul hk).2 hq, Nat.mod_lt _ hk, hu.symm, by rw [Nat.mul_comm]; exact Nat.div_add_mod q k⟩

section
variable {P : Program} {R : Nat → Prop} {o : Oper} {a : Act} {s : Store} {w : World} {ρ : Opd → AV} {K : AV → Store → Prop}

/-- What is appended: where its cells lie. -/
theorem elems_spec (hs : St s w) {k : Nat} {y : AV} {v : Value} {Q : List (List AV) → Prop} (hv : RV (own s) w y v) (h : elems k s y Q) :
    ∃ ys, Q ys ∧ ∃ ad c, v = .slice ad ys.length c ∧ (∀ i, i < ys.length → (ys.getD i []).length = k) ∧ (0 < ys.length → ∃ (b : Addr) (f : Nat → Nat → Value), ad = some b ∧
      (∀ i j, i < ys.length → j < k → w.cell? (b.add (i * k + j)) = some (f i j)) ∧ ∀ i j, i < ys.length → j < k → RV (own s) w (at_ (ys.getD i []) j) (f i j) ∧ (f i j).oneCell' = true) := by
  unfold elems at h
  split at h
  · obtain ⟨ad, e⟩ := inv_emp hv
    exact ⟨[], h, ad, 0, e, fun i hi => by simp at hi, fun hi => by simp at hi⟩
  · rename_i k' n get
    obtain ⟨rfl, h⟩ := h
    obtain ⟨ad, c, e1, e2, e3⟩ := inv_lst hv
    have hget : ∀ i, i < n → ((List.range n).map get).getD i [] = get i := fun i hi => by simp [List.getD_eq_getElem?_getD, hi]
    refine ⟨_, h, ad, c, by simpa using e1, fun i hi => ?_, fun hi => ?_⟩
    · have hi' : i < n := by simpa using hi
      obtain ⟨b, vf, _, _, _, _, _, g, _⟩ := e3 (by omega)
      rw [hget i hi']; exact g i hi'
    · obtain ⟨b, vf, rfl, g0, g1, g2, g3, g4, g5⟩ := e3 (by simpa using hi)
      refine ⟨b, vf, rfl, fun i j hi hj => g3 i j (by simpa using hi) hj, fun i j hi hj => ?_⟩
      have hi' : i < n := by simpa using hi
      rw [hget i hi']
      exact ⟨.fz _ _ (g5 i j hi' hj), FV_one (g5 i j hi' hj)⟩
  · rename_i b n c
    split at h
    · rename_i T k' c' xs hsb
      obtain ⟨rfl, rfl, rfl, h⟩ := h
      have hb := hs _ _ hsb
      obtain ⟨vs, e1, e2, e3, e3', e4, e5⟩ := hb
      refine ⟨xs, h, some ⟨b, 0, none⟩, c', inv_slc hv, e4, fun _ => ⟨⟨b, 0, none⟩, fun i j => vs.getD (i * k' + j) Go.undef, rfl, fun i j hi hj => ?_, e5⟩⟩
      rw [add_at, Nat.zero_add, cell_of_row w b _ vs T (0, 0) e1]
      have hlt : i * k' + j < vs.size := by
        rw [e2]
        have : (i + 1) * k' ≤ c' * k' := Nat.mul_le_mul_right k' (by omega)
        rw [Nat.add_mul] at this
        omega
      simp [Array.getD_eq_getD_getElem?, hlt]
    · exact h.elim
  · exact h.elim

theorem own_del {s : Store} {b : Nat} {x : AObj} {b' c : Nat} (h : own (upd (del s b) b' x) c) : c = b' ∨ own s c := by
  by_cases hc : c = b'
  · exact .inl hc
  · right
    unfold own upd del at h
    simp only [hc, if_false] at h
    by_cases hb : c = b
    · simp [hb] at h
    · unfold own; simpa [hb] using h

/-- An object that is laid down anew. -/
theorem St_move {s : Store} {w w' : World} (hs : St s w) {b : Nat} {x : AObj} (h1 : w'.os = w.os) (h2 : w'.tape = w.tape) (h3 : w'.output = w.output) (h4 : w.heap.size ≤ w'.heap.size) (hold : ∀ c, c < w.heap.size → w'.heap[c]? = w.heap[c]?)
    (hx : Mv (own s) (own (upd (del s b) w.heap.size x)) w w' → ObjR (own (upd (del s b) w.heap.size x)) w' w.heap.size x) : St (upd (del s b) w.heap.size x) w' ∧ Mv (own s) (own (upd (del s b) w.heap.size x)) w w' := by
  have hm : Mv (own s) (own (upd (del s b) w.heap.size x)) w w' := ⟨h1, h2, h3, h4, fun c hc _ => hold c hc, fun c hc => by
    rcases own_del hc with rfl | h
    · exact .inr (Nat.le_refl _)
    · exact .inl h⟩
  refine ⟨fun c y hc => ?_, hm⟩
  by_cases h : c = w.heap.size
  · subst h
    rw [upd_same] at hc
    cases hc
    exact hx hm
  · rw [upd_ne _ _ h] at hc
    unfold del at hc
    split at hc
    · cases hc
    · exact (hs c y hc).mv hm (hold c (hs c y hc).lt)

theorem upd_del_same (s : Store) (b : Nat) (x : AObj) : upd (del s b) b x = upd s b x := by
  funext c; unfold upd del; split <;> rfl

theorem getD_app (xs ys : List (List AV)) (i : Nat) : (xs ++ ys).getD i [] = if i < xs.length then xs.getD i [] else ys.getD (i - xs.length) [] := by
  simp only [List.getD_eq_getElem?_getD]
  split
  · rename_i h; rw [List.getElem?_append_left h]
  · rename_i h; rw [List.getElem?_append_right (by omega)]

/-- The new block behind an append that moves. -/
theorem app_moved {T k c' n : Nat} {xs ys : List (List AV)} {w' : World} {olds news rest : List Value} {o' : Nat → Prop} (hm : Mv (own s) o' w w')
    (hb : w'.heap[w.heap.size]? = some (.cells (olds ++ news ++ rest).toArray T (0, 0))) (hsz : (olds ++ news ++ rest).length = c' * k) (hn : xs.length + ys.length ≤ c') (hc : c' ≤ 9223372036854775807)
    (ho : olds.length = xs.length * k) (hw : news.length = ys.length * k) (hxl : ∀ i, i < xs.length → (xs.getD i []).length = k) (hyl : ∀ i, i < ys.length → (ys.getD i []).length = k)
    (hx : ∀ i j, i < xs.length → j < k → RV (own s) w (at_ (xs.getD i []) j) (vat olds (i * k + j)) ∧ (vat olds (i * k + j)).oneCell' = true)
    (hy : ∀ i j, i < ys.length → j < k → RV (own s) w (at_ (ys.getD i []) j) (vat news (i * k + j)) ∧ (vat news (i * k + j)).oneCell' = true) :
    ObjR o' w' w.heap.size (.row T k c' (xs ++ ys)) := by
  refine ⟨_, hb, by simpa using hsz, by simpa using hn, hc, fun i hi => ?_, fun i j hi hj => ?_⟩
  · rw [getD_app]
    split
    · exact hxl i (by assumption)
    · exact hyl _ (by simp at hi; omega)
  · rw [getD_app]
    simp only [Array.getD_eq_getD_getElem?, List.getElem?_toArray]
    by_cases h : i < xs.length
    · rw [if_pos h]
      have hlt : i * k + j < olds.length := by
        rw [ho]
        have : (i + 1) * k ≤ xs.length * k := Nat.mul_le_mul_right k h
        rw [Nat.add_mul, Nat.one_mul] at this
        omega
      have := hx i j h hj
      rw [List.append_assoc, List.getElem?_append_left hlt]
      simp only [vat, List.getD_eq_getElem?_getD] at this
      exact ⟨this.1.mv hm, this.2⟩
    · rw [if_neg h]
      have hi' : i - xs.length < ys.length := by simp at hi; omega
      have e : i * k + j = olds.length + ((i - xs.length) * k + j) := by
        rw [ho, ← Nat.add_assoc, ← Nat.add_mul, Nat.add_sub_cancel' (by omega)]
      have hlt : (i - xs.length) * k + j < news.length := by
        rw [hw]
        have : (i - xs.length + 1) * k ≤ ys.length * k := Nat.mul_le_mul_right k hi'
        rw [Nat.add_mul, Nat.one_mul] at this
        omega
      have := hy (i - xs.length) j hi' hj
      rw [e, List.append_assoc, List.getElem?_append_right (by omega), Nat.add_sub_cancel_left, List.getElem?_append_left hlt]
      simp only [vat, List.getD_eq_getElem?_getD] at this
      exact ⟨this.1.mv hm, this.2⟩

theorem es_app (hs : St s w) (hR : ∀ b, R b → b < w.heap.size) {Ty E k by_ : Nat} {z : List AV} {i : TypeInfo} {zv : Value} {x y : Operand} {x' y' : Opd} (ho : o.op = .call { callee := .builtin .append, args := #[x, y], argTypes := #[Ty, Ty] }) (hE : ElR P Ty E k by_ z i zv)
    (hx : RV (own s) w (ρ x') (a.eval x)) (hy : RV (own s) w (ρ y') (a.eval y)) (h : eff P R (.app E k by_ x' y') ρ s K) : YW P o a s w K := by
  simp only [eff] at h
  obtain ⟨hd1, hd2, h⟩ := h
  have hxv := RV_val hx hd1
  have hyv := RV_val hy hd2
  obtain ⟨ys, h, ad, cy, ey, hyl, hyc⟩ := elems_spec hs hyv h
  have exec : ∀ r w', (Builtin.append_ #[Ty, Ty] o.type #[a.eval x, a.eval y]).run P w = .ok r w' → (execOp a.eval o).run P w = .ok (.value r) w' := fun r w' hr => by
    obtain ⟨cs, e1⟩ : ∃ cs, (resolve a.eval { callee := .builtin .append, args := #[x, y], argTypes := #[Ty, Ty] } o.type).run P w = .ok { target := .builtin .append #[Ty, Ty] o.type cs, args := #[a.eval x, a.eval y] } w := by
      have ea : Array.map a.eval #[x, y] = #[a.eval x, a.eval y] := by simp
      have e0 : (resolve a.eval { callee := .builtin .append, args := #[x, y], argTypes := #[Ty, Ty] } o.type).run P w = .ok { target := .builtin .append #[Ty, Ty] o.type (#[x, y].map fun z => match z with | .const _ => true | _ => false), args := #[x, y].map a.eval } w := rfl
      rw [ea] at e0
      exact ⟨_, e0⟩
    simp only [execOp, ho, Sem.run_bind, e1, Result.andThen_ok, invoke, builtin, hr, Sem.run_pure]
  have hszr : ∀ w, (sizeOf E).run P w = .ok k w := fun w => by simp [sizeOf, typeInfo, hE.info, hE.sz]
  have hkp := hE.pos
  have hbp := hE.bpos
  have hin : E = E := rfl
  split at h
  · rename_i hb
    obtain ⟨hby, h0, h1⟩ := h
    rw [hb] at hxv
    obtain ⟨ax, ex⟩ := inv_emp hxv
    by_cases hm : ys.length = 0
    · refine YW_value (v := .slice ax 0 0) (w' := w) (exec _ _ ?_) (h0 hm) (.fz _ _ (.emp _)) hs (Mv.refl _ _)
      rw [ex, ey, hm]
      cases ax with
      | none => simp [Builtin.append_, run_underlying hE.und, hszr, Builtin.lenOf]; cases ad <;> simp [Builtin.firstCells, loadCells, loadCellsFrom]
      | some b => simp [Builtin.append_, run_underlying hE.und, hszr, Builtin.lenOf]; cases ad <;> simp [Builtin.firstCells, loadCells, loadCellsFrom, storeCells]
    · obtain ⟨b, f, rfl, f1, f2⟩ := hyc (by omega)
      have hnews : ∀ j v, (flat f ys.length k)[j]? = some v → w.cell? (b.add j) = some v := fun j v hj => by
        obtain ⟨g1, g2, g3, g4⟩ := flat_get hj
        rw [g3, ← f1 _ _ g1 g2, g4]
      have hle : ys.length ≤ 140737488355328 := by
        have : 1 * ys.length ≤ by_ * ys.length := Nat.mul_le_mul_right _ hbp
        omega
      have hcap := grownCap_ge w ys.length 0 E
      have hcap2 := grownCap_le_maxLen w ys.length 0 E (by simp only [maxLen]; omega)
      have hrun : (Builtin.append_ #[Ty, Ty] o.type #[a.eval x, a.eval y]).run P w = .ok (.slice (some ⟨w.heap.size, 0, none⟩) ys.length (grownCap w ys.length 0 E)) (w.drew.alloc (.cells ((flat f ys.length k).toArray ++ Builtin.zeroCells zv.cells (grownCap w ys.length 0 E - ys.length)) E)) := by
        rw [ex, ey]
        cases ax with
        | none => exact run_append_nil (P := P) w Ty o.type E i zv hE.und hE.info hE.zero b ys.length cy (flat f ys.length k) (by rw [flat_length, hE.sz]) hnews (by omega) (by omega) (by rw [hE.bys, Nat.mul_comm]; omega)
        | some b0 =>
          have := run_append_grow (P := P) w Ty o.type E i zv hE.und hE.info hE.zero b0 0 0 [] (by simp) (fun j v hj => by simp at hj) b ys.length cy (flat f ys.length k) (by rw [flat_length, hE.sz]) hnews (by omega) (by omega) (growslice_fits (by omega) (by rw [hE.bys, Nat.mul_comm, Nat.zero_add]; omega))
          simpa using this
      have hS := St_move (s := s) (w := w) (b := w.heap.size) (x := .row E k (grownCap w ys.length 0 E) ys) (w' := w.drew.alloc (.cells ((flat f ys.length k).toArray ++ Builtin.zeroCells zv.cells (grownCap w ys.length 0 E - ys.length)) E)) hs rfl rfl rfl (by simp) (fun c hc => RowKit.Below.heap_alloc w.drew _ c hc) (fun hm => by
        have := app_moved (s := s) (w := w) (T := E) (k := k) (c' := grownCap w ys.length 0 E) (n := 0) (xs := []) (ys := ys) (olds := []) (news := flat f ys.length k) (rest := (Builtin.zeroCells zv.cells (grownCap w ys.length 0 E - ys.length)).toList) hm (by
            have e := heap_alloc_new w.drew (.cells ((flat f ys.length k).toArray ++ Builtin.zeroCells zv.cells (grownCap w ys.length 0 E - ys.length)) E)
            rw [show w.drew.heap.size = w.heap.size from rfl] at e
            rw [e]; simp) (by simp [flat_length, size_zeroCells, hE.zs, ← Nat.add_mul]; congr 1; omega) (by simpa using hcap) (by simpa [maxLen] using hcap2) (by simp) (flat_length _ _ _) (fun i hi => by simp at hi) hyl (fun i j hi => by simp at hi) (fun i j hi hj => by rw [flat_at f hi hj]; exact f2 i j hi hj)
        simpa using this)
      rw [upd_del_same] at hS
      exact YW_value (exec _ _ hrun) (h1 (by omega) w.heap.size _ hs.fresh (fun h => absurd (hR _ h) (Nat.lt_irrefl _)) hcap) (.slc _ _ _) hS.1 hS.2
  · rename_i b n c hb
    split at h
    · rename_i T' k' c' xs hsb
      obtain ⟨rfl, rfl, rfl, rfl, hRb, hby, h⟩ := h
      rw [hb] at hxv
      have ex := inv_slc hxv
      obtain ⟨vs, e1, e2, e3, e3', e4, e5⟩ := hs _ _ hsb
      have hown := own_some hsb
      by_cases hm : ys.length = 0
      · obtain rfl : ys = [] := List.eq_nil_of_length_eq_zero hm
        have hk := h b c' (by simp [del]) hRb (by simpa using e3)
        have hsame : upd (del s b) b (.row T' k' c' (xs ++ [])) = s := by
          rw [upd_del_same]
          funext q
          by_cases hq : q = b
          · subst hq; rw [upd_same, List.append_nil, hsb]
          · rw [upd_ne _ _ hq]
        rw [hsame] at hk
        refine YW_value (v := .slice (some ⟨b, 0, none⟩) xs.length c') (w' := w) (exec _ _ ?_) hk (.slc _ _ _) hs (Mv.refl _ _)
        rw [ex, ey]
        simp [Builtin.append_, run_underlying hE.und, hszr, Builtin.lenOf, e3]
        cases ad <;> simp [Builtin.firstCells, loadCells, loadCellsFrom, storeCells]
      · obtain ⟨ab, f, rfl, f1, f2⟩ := hyc (by omega)
        have hnews : ∀ j v, (flat f ys.length k')[j]? = some v → w.cell? (ab.add j) = some v := fun j v hj => by
          obtain ⟨g1, g2, g3, g4⟩ := flat_get hj
          rw [g3, ← f1 _ _ g1 g2, g4]
        have hle : xs.length + ys.length ≤ 140737488355328 := by
          have : 1 * (xs.length + ys.length) ≤ by_ * (xs.length + ys.length) := Nat.mul_le_mul_right _ hbp
          omega
        have hxk : xs.length * k' ≤ vs.size := by rw [e2]; exact Nat.mul_le_mul_right _ e3
        by_cases hroom : xs.length + ys.length ≤ c'
        · have hsum : xs.length * k' + ys.length * k' ≤ vs.size := by rw [e2, ← Nat.add_mul]; exact Nat.mul_le_mul_right _ hroom
          have hrun := run_append_room (P := P) w Ty o.type T' i hE.und hE.info b xs.length c' vs e1 ab ys.length cy (flat f ys.length k') (by rw [flat_length, hE.sz]) hnews (fun u hu => by
            obtain ⟨i, j, hi, hj, rfl⟩ := flat_mem f hu; exact (f2 i j hi hj).2) hroom (by rw [flat_length, hE.sz]; exact hsum)
          rw [hE.sz] at hrun
          have hk := h b c' (by simp [del]) hRb hroom
          rw [upd_del_same] at hk
          generalize hw' : w.setRow b _ = w' at hrun
          have hS := St_set (x := .row T' k' c' (xs ++ ys)) (w' := w') hs hown (by rw [← hw']; rfl) (by rw [← hw']; rfl) (by rw [← hw']; rfl) (by rw [← hw']; simp) (fun c hc => by rw [← hw']; exact setRow_other w b c _ hc) (fun hmv => by
            refine ⟨_, by rw [← hw']; exact setRow_heap w b vs _ T' _ e1, ?_, by simpa using hroom, e3', fun i hi => ?_, fun i j hi hj => ?_⟩
            · rw [← e2]
              simp only [List.size_toArray, List.length_append, List.length_take, List.length_drop, Array.length_toList, flat_length]
              omega
            · rw [getD_app]
              split
              · exact e4 i (by assumption)
              · exact hyl _ (by simp at hi; omega)
            · rw [getD_app, getD_seg _ _ _ _ (by rw [flat_length, Array.length_toList]; exact hsum), flat_length]
              by_cases hc : i < xs.length
              · have hlt : i * k' + j < xs.length * k' := by
                  have : (i + 1) * k' ≤ xs.length * k' := Nat.mul_le_mul_right k' hc
                  rw [Nat.add_mul, Nat.one_mul] at this
                  omega
                rw [if_pos hc, if_neg (by omega)]
                have := e5 i j hc hj
                exact ⟨by simpa using this.1.mv hmv, by simpa using this.2⟩
              · have hi' : i - xs.length < ys.length := by simp at hi; omega
                have e : i * k' + j = xs.length * k' + ((i - xs.length) * k' + j) := by
                  rw [← Nat.add_assoc, ← Nat.add_mul, Nat.add_sub_cancel' (by omega)]
                have hlt : (i - xs.length) * k' + j < ys.length * k' := by
                  have : (i - xs.length + 1) * k' ≤ ys.length * k' := Nat.mul_le_mul_right k' hi'
                  rw [Nat.add_mul, Nat.one_mul] at this
                  omega
                rw [if_neg hc, e, if_pos (by omega), Nat.add_sub_cancel_left, flat_at f hi' hj]
                exact ⟨(f2 _ _ hi' hj).1.mv hmv, (f2 _ _ hi' hj).2⟩)
          exact YW_value (exec _ _ (by rw [ex, ey]; exact hrun)) hk (.slc _ _ _) hS.1 hS.2
        · have hcap := grownCap_ge w (xs.length + ys.length) c' T'
          have hcap2 := grownCap_le_maxLen w (xs.length + ys.length) c' T' (by simp only [maxLen]; omega)
          have hol : (vs.toList.take (xs.length * k')).length = xs.length * k' := by simp; omega
          have hov : ∀ p, p < xs.length * k' → vat (vs.toList.take (xs.length * k')) p = vs.getD p Go.undef := fun p hp => by
            simp [vat, List.getD_eq_getElem?_getD, List.getElem?_take, hp, Array.getD_eq_getD_getElem?]
          have hrun := run_append_grow (P := P) w Ty o.type T' i zv hE.und hE.info hE.zero ⟨b, 0, none⟩ xs.length c' (vs.toList.take (xs.length * k')) (by rw [hol, hE.sz]) (fun j v hj => by
              have hlt : j < xs.length * k' := by have := (List.getElem?_eq_some_iff.1 hj).1; rwa [hol] at this
              rw [add_at, Nat.zero_add, cell_of_row w b _ vs T' (0, 0) e1]
              rw [List.getElem?_take, if_pos hlt] at hj
              simpa using hj) ab ys.length cy (flat f ys.length k') (by rw [flat_length, hE.sz]) hnews (by omega) (by omega) (growslice_fits (by omega) (by rw [hE.bys, Nat.mul_comm]; exact hby))
          have hk := h w.heap.size (grownCap w (xs.length + ys.length) c' T') (by unfold del; split; rfl; exact hs.fresh) (fun h => absurd (hR _ h) (Nat.lt_irrefl _)) hcap
          have hS := St_move (s := s) (w := w) (b := b) (x := .row T' k' (grownCap w (xs.length + ys.length) c' T') (xs ++ ys)) (w' := w.drew.alloc (.cells ((vs.toList.take (xs.length * k')).toArray ++ (flat f ys.length k').toArray ++ Builtin.zeroCells zv.cells (grownCap w (xs.length + ys.length) c' T' - (xs.length + ys.length))) T')) hs rfl rfl rfl (by simp) (fun c hc => RowKit.Below.heap_alloc w.drew _ c hc) (fun hmv =>
            app_moved (s := s) (w := w) (n := 0) (olds := vs.toList.take (xs.length * k')) (news := flat f ys.length k') (rest := (Builtin.zeroCells zv.cells (grownCap w (xs.length + ys.length) c' T' - (xs.length + ys.length))).toList) hmv (by
              have e := heap_alloc_new w.drew (.cells ((vs.toList.take (xs.length * k')).toArray ++ (flat f ys.length k').toArray ++ Builtin.zeroCells zv.cells (grownCap w (xs.length + ys.length) c' T' - (xs.length + ys.length))) T')
              rw [show w.drew.heap.size = w.heap.size from rfl] at e
              rw [e]; simp) (by
              simp only [List.length_append, hol, flat_length, Array.length_toList, size_zeroCells, hE.zs, ← Nat.add_mul]
              congr 1; omega) hcap (by simpa [maxLen] using hcap2) hol (flat_length _ _ _) e4 hyl (fun i j hi hj => by
              have hlt : i * k' + j < xs.length * k' := by
                have : (i + 1) * k' ≤ xs.length * k' := Nat.mul_le_mul_right k' hi
                rw [Nat.add_mul, Nat.one_mul] at this
                omega
              rw [hov _ hlt]; exact e5 i j hi hj) (fun i j hi hj => by rw [flat_at f hi hj]; exact f2 i j hi hj))
          exact YW_value (exec _ _ (by rw [ex, ey]; exact hrun)) hk (.slc _ _ _) hS.1 hS.2
    · exact h.elim
  · exact h.elim
end
end Go.Proofs.Ytjoncejabdjekaa.L
