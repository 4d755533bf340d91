/- An own program logic over the kit's walk, part 5: structs that are built, slices that are cut or written out, maps that are read. -/
import Derived.Test.YtjoncejabdjekaaL4
set_option linter.unusedVariables false
set_option linter.unusedSimpArgs false
namespace Go.Proofs.Ytjoncejabdjekaa.L
open Go

theorem splice_length (cs vs : List AV) (o : Nat) (h : o + vs.length ≤ cs.length) : (splice cs o vs).length = cs.length := by
  simp [splice]; omega
theorem at_splice (cs vs : List AV) (o j : Nat) (h : o + vs.length ≤ cs.length) : at_ (splice cs o vs) j = if o ≤ j ∧ j < o + vs.length then at_ vs (j - o) else at_ cs j := by
  simp only [at_, splice, List.getD_eq_getElem?_getD]
  have hl : (cs.take o).length = o := by simp; omega
  by_cases h1 : j < o
  · rw [if_neg (by omega), List.getElem?_append_left (by omega), List.getElem?_take, if_pos h1]
  · rw [List.getElem?_append_right (by omega), hl]
    by_cases h2 : j < o + vs.length
    · rw [if_pos ⟨by omega, h2⟩, List.getElem?_append_left (by omega)]
    · rw [if_neg (by omega), List.getElem?_append_right (by omega), List.getElem?_drop]
      congr 2
      omega

theorem foldl_set (off : Nat) : ∀ (vs : List Value) (i : Nat) (cs : Array Value), off + i + vs.length ≤ cs.size →
    ((vs.zipIdx i).foldl (fun (cs : Array Value) (x : Value × Nat) => cs.setIfInBounds (off + x.2) x.1) cs).size = cs.size ∧
    ∀ j, ((vs.zipIdx i).foldl (fun (cs : Array Value) (x : Value × Nat) => cs.setIfInBounds (off + x.2) x.1) cs).getD j Go.undef = if off + i ≤ j ∧ j < off + i + vs.length then vat vs (j - (off + i)) else cs.getD j Go.undef
  | [], i, cs, h => ⟨rfl, fun j => by rw [if_neg (by simp)]; rfl⟩
  | v :: vs, i, cs, h => by
    simp only [List.length_cons] at h
    obtain ⟨h1, h2⟩ := foldl_set off vs (i + 1) (cs.setIfInBounds (off + i) v) (by simp; omega)
    simp only [List.zipIdx_cons, List.foldl_cons]
    refine ⟨by rw [h1]; simp, fun j => ?_⟩
    rw [h2]
    simp only [List.length_cons]
    by_cases hj : j = off + i
    · subst hj
      rw [if_neg (by omega), if_pos (by omega)]
      simp only [Nat.sub_self, vat, List.getD_cons_zero]
      rw [Array.getD_eq_getD_getElem?, Array.getElem?_setIfInBounds_self_of_lt (by omega)]
      rfl
    · by_cases hj2 : off + (i + 1) ≤ j ∧ j < off + (i + 1) + vs.length
      · rw [if_pos hj2, if_pos (by omega)]
        simp only [vat]
        rw [show j - (off + i) = (j - (off + (i + 1))) + 1 from by omega, List.getD_cons_succ]
      · rw [if_neg hj2, if_neg (by omega)]
        simp only [Array.getD_eq_getD_getElem?]
        rw [Array.getElem?_setIfInBounds_ne (by omega)]

/-- Cells stand for cells. -/
def CR (o : Nat → Prop) (w : World) (z : List AV) (cs : Array Value) : Prop := cs.size = z.length ∧ ∀ j, j < z.length → RV o w (at_ z j) (cs.getD j Go.undef)

theorem CR_splice {o : Nat → Prop} {w : World} {z : List AV} {cs : Array Value} (h : CR o w z cs) {off : Nat} {x : AV} {v : Value} (hx : RV o w x v) (h1 : (cellsOf x).all AV.one = true) (hle : off + (cellsOf x).length ≤ z.length) :
    CR o w (splice z off (cellsOf x)) (v.cells.zipIdx.foldl (fun (cs : Array Value) (x : Value × Nat) => cs.setIfInBounds (off + x.2) x.1) cs) := by
  obtain ⟨g1, g2, g3⟩ := RV_cells hx h1
  have hl : v.cells.toList.length = (cellsOf x).length := by rw [Array.length_toList]; exact g1
  have e : v.cells.zipIdx.foldl (fun (cs : Array Value) (x : Value × Nat) => cs.setIfInBounds (off + x.2) x.1) cs = (v.cells.toList.zipIdx 0).foldl (fun (cs : Array Value) (x : Value × Nat) => cs.setIfInBounds (off + x.2) x.1) cs := by
    rw [← Array.foldl_toList, Array.toList_zipIdx]
  rw [e]
  obtain ⟨f1, f2⟩ := foldl_set off v.cells.toList 0 cs (by rw [hl, h.1]; omega)
  refine ⟨by rw [f1, splice_length _ _ _ hle]; exact h.1, fun j hj => ?_⟩
  rw [f2, at_splice _ _ _ _ hle, hl, Nat.add_zero]
  by_cases hc : off ≤ j ∧ j < off + (cellsOf x).length
  · rw [if_pos hc, if_pos hc]
    have := g2 (j - off) (by omega)
    simpa [vat, Array.getD_eq_getD_getElem?, List.getD_eq_getElem?_getD] using this
  · rw [if_neg hc, if_neg hc]
    exact h.2 j (by rw [splice_length _ _ _ hle] at hj; exact hj)

/-- Zero cells. -/
def ZR (z : List AV) (zv : Array Value) : Prop := ∀ o w, CR o w z zv

def BldR (P : Program) (T : TypeId) (pl : List (Nat × Nat)) (z : List AV) : Prop := ∃ it fs zv, P.info? T = some it ∧ P.underlying T = some (.struct fs) ∧ it.zero = some zv ∧ ZR z zv.cells ∧
  fs.toList.mapM (fun f => (P.info? f.type).map fun i => (f.offset, i.size)) = some pl

def OkParts (pl : List (Nat × Nat)) (m : Nat) : List (Nat × Operand) → List (Nat × Nat × Opd) → Prop
  | [], [] => True
  | (i, x) :: l, (off, n, y) :: l' => pl[i]? = some (off, n) ∧ off + n ≤ m ∧ OkOpd x y ∧ OkParts pl m l l'
  | _, _ => False

section
variable {P : Program} {T : Tbl} {R : Nat → Prop} {o : Oper} {a : Act} {s : Store} {w : World} {ρ : Opd → AV} {K : AV → Prop → Prop}

theorem fill_parts (hρ : ∀ x y, OkOpd x y → RV (own s) w (ρ y) (a.eval x)) (pl : List (Nat × Nat)) : ∀ (l : List (Nat × Operand)) (l' : List (Nat × Nat × Opd)) (z : List AV) (cs : Array Value), OkParts pl z.length l l' → pok ρ l' → CR (own s) w z cs →
    ∃ cs', Instr.fill (pl.toArray[·]?) cs (l.map fun x => (x.1, a.eval x.2)) = some cs' ∧ CR (own s) w (fillA z (pvals ρ l')) cs'
  | [], [], z, cs, _, _, h => ⟨cs, rfl, h⟩
  | (i, x) :: l, (off, n, y) :: l', z, cs, hk, hp, h => by
    obtain ⟨k1, k2, k3, k4⟩ := hk
    obtain ⟨p1, p2, p3, p4⟩ := hp
    have hx := RV_val (hρ _ _ k3) p1
    obtain ⟨g1, g2, g3⟩ := RV_cells hx p3
    have hle : off + (cellsOf (ρ y).val).length ≤ z.length := by omega
    have hC := CR_splice h hx p3 hle
    obtain ⟨cs', e1, e2⟩ := fill_parts hρ pl l l' _ _ (by rw [splice_length _ _ _ hle]; exact k4) p4 hC
    refine ⟨cs', ?_, e2⟩
    simp only [List.map_cons, Instr.fill, List.getElem?_toArray, k1]
    rw [if_neg (by rw [g1, p2, h.1]; simp; omega)]
    simpa using e1
  | [], _ :: _, _, _, h, _, _ => h.elim
  | _ :: _, [], _, _, h, _, _ => h.elim

theorem ns_bld (hs : St s w) (hρ : ∀ x y, OkOpd x y → RV (own s) w (ρ y) (a.eval x)) {Ty : Nat} {pl : List (Nat × Nat)} {z : List AV} {ps : Array (Nat × Operand)} {ps' : List (Nat × Nat × Opd)} (ho : o.op = .build Ty ps) (hB : BldR P Ty pl z) (hk : OkParts pl z.length ps.toList ps')
    (h : nop T R (.bld z ps') ρ s K) : NS P o a s w K := by
  simp only [nop] at h
  obtain ⟨it, fs, zv, b1, b2, b3, b4, b5⟩ := hB
  refine NS_same hs h fun hp => ?_
  obtain ⟨cs', e1, e2⟩ := fill_parts hρ pl _ _ _ _ hk hp (b4 _ _)
  have hb : P.built Ty (ps.toList.map fun x => (x.1, a.eval x.2)) = some cs' := by
    unfold Program.built
    simp only [b1, b2, b3, b5]
    exact e1
  refine ⟨.agg cs', ?_, ?_⟩
  · have e : (ps.map fun (i, x) => (i, a.eval x)).toList = ps.toList.map fun x => (x.1, a.eval x.2) := by simp
    have := run_build w Ty (ps.map fun (i, x) => (i, a.eval x)) cs' (by rw [e]; exact hb)
    simp only [execOp, ho, Sem.run_bind, this, Result.andThen_ok, Sem.run_pure]
  · have := RV.agg (own := own s) (w := w) (fillA z (pvals ρ ps')) cs'.toList (by rw [Array.length_toList]; exact e2.1) (fun j hj => by
      have := e2.2 j hj
      simpa [vat, Array.getD_eq_getD_getElem?, List.getD_eq_getElem?_getD] using this)
    simpa using this

/-! Slices that are cut. -/
theorem lo_spec {d : Int} {x : Option Opd} {K : Int → Prop → Prop} (h : lo_ ρ d x K) : ∃ n p, K n p ∧ ((x = none ∧ n = d) ∨ ∃ y kk, x = some y ∧ (ρ y).val = .int kk n ∧ p = (ρ y).df) := by
  unfold lo_ at h
  split at h
  · exact ⟨_, _, h, .inl ⟨rfl, rfl⟩⟩
  · rename_i y
    split at h
    · rename_i kk n hn; exact ⟨_, _, h, .inr ⟨y, kk, rfl, hn, rfl⟩⟩
    · exact h.elim

def OkBound : Option Operand → Option Opd → Prop
  | none, none => True
  | some x, some y => OkOpd x y
  | _, _ => False

theorem sliceBound_run {P : Program} {kk : IntKind} {n : Int} {m : Nat} {cd : BoundsCode} (h0 : 0 ≤ n) (h1 : n ≤ m) (w : World) : (Instr.sliceBound (.int kk n) m cd).run P w = .ok n.toNat w := by
  simp [Instr.sliceBound, asIntOf, h0, h1]

theorem sliceBounds_run (hρ : ∀ x y, OkOpd x y → RV (own s) w (ρ y) (a.eval x)) {sl : Bool} {n c : Nat} {lo hi : Option Operand} {lo' hi' : Option Opd} {l h : Int} {p q : Prop} (hlo : OkBound lo lo') (hhi : OkBound hi hi')
    (e1 : (lo' = none ∧ l = 0) ∨ ∃ y kk, lo' = some y ∧ (ρ y).val = .int kk l ∧ p = (ρ y).df) (e2 : (hi' = none ∧ h = n) ∨ ∃ y kk, hi' = some y ∧ (ρ y).val = .int kk h ∧ q = (ρ y).df) (hp : p) (hq : q) (h0 : 0 ≤ l) (h1 : l ≤ h) (h2 : h ≤ n) (h3 : n ≤ c) :
    (Instr.sliceBounds sl n c (lo.map a.eval) (hi.map a.eval) none).run P w = .ok (l.toNat, h.toNat, c) w := by
  have hi_run : ∀ v kk, hi.map a.eval = some v → v = .int kk h → ∀ cd, (Instr.sliceBound v c cd).run P w = .ok h.toNat w := fun v kk _ e cd => by
    rw [e]; exact sliceBound_run (by omega) (by omega) w
  rcases e1 with ⟨rfl, rfl⟩ | ⟨y, kk, rfl, g1, rfl⟩
  · obtain rfl : lo = none := by cases lo <;> first | rfl | exact hlo.elim
    rcases e2 with ⟨rfl, rfl⟩ | ⟨y', kk', rfl, g2, rfl⟩
    · obtain rfl : hi = none := by cases hi <;> first | rfl | exact hhi.elim
      simp [Instr.sliceBounds]
    · obtain ⟨x', rfl⟩ : ∃ x', hi = some x' := by cases hi <;> first | exact ⟨_, rfl⟩ | exact hhi.elim
      have hv := RV_val (hρ _ _ hhi) hq
      rw [g2] at hv
      simp only [Instr.sliceBounds, Option.map_none, Option.map_some, inv_int hv, Sem.run_bind, Sem.run_pure, Result.andThen_ok, sliceBound_run (P := P) (kk := kk') (n := h) (m := c) (w := w) (by omega) (by omega)]
      rfl
  · obtain ⟨x, rfl⟩ : ∃ x, lo = some x := by cases lo <;> first | exact ⟨_, rfl⟩ | exact hlo.elim
    have hv := RV_val (hρ _ _ hlo) hp
    rw [g1] at hv
    rcases e2 with ⟨rfl, rfl⟩ | ⟨y', kk', rfl, g2, rfl⟩
    · obtain rfl : hi = none := by cases hi <;> first | rfl | exact hhi.elim
      simp only [Instr.sliceBounds, Option.map_none, Option.map_some, inv_int hv, Sem.run_bind, Sem.run_pure, Result.andThen_ok, sliceBound_run (P := P) (kk := kk) (n := l) (m := n) (w := w) (by omega) (by omega)]
      simp
    · obtain ⟨x', rfl⟩ : ∃ x', hi = some x' := by cases hi <;> first | exact ⟨_, rfl⟩ | exact hhi.elim
      have hv' := RV_val (hρ _ _ hhi) hq
      rw [g2] at hv'
      simp only [Instr.sliceBounds, Option.map_some, inv_int hv, inv_int hv', Sem.run_bind, Sem.run_pure, Result.andThen_ok, sliceBound_run (P := P) (kk := kk') (n := h) (m := c) (w := w) (by omega) (by omega), sliceBound_run (P := P) (kk := kk) (n := l) (m := h.toNat) (w := w) (by omega) (by omega)]

theorem ns_sls (hs : St s w) (hρ : ∀ x y, OkOpd x y → RV (own s) w (ρ y) (a.eval x)) {Ty : Nat} {x : Operand} {y : Opd} {lo hi : Option Operand} {lo' hi' : Option Opd} (ho : o.op = .slice Ty x lo hi none) (hT : P.underlying Ty = some .string)
    (hx : OkOpd x y) (hlo : OkBound lo lo') (hhi : OkBound hi hi') (h : nop T R (.sls y lo' hi') ρ s K) : NS P o a s w K := by
  simp only [nop] at h
  split at h
  · rename_i t hb
    obtain ⟨l, p, h, e1⟩ := lo_spec h
    obtain ⟨hh, q, h, e2⟩ := lo_spec h
    refine NS_same hs h fun hd => ?_
    obtain ⟨d1, d2, d3, d4, d5, d6⟩ := hd
    have hv := RV_val (hρ _ _ hx) d1
    rw [hb] at hv
    have run := sliceBounds_run (P := P) (sl := false) (n := t.size) (c := t.size) hρ hlo hhi e1 e2 d2 d3 d4 d5 d6 (Nat.le_refl _)
    refine ⟨.string (t.extract l.toNat hh.toNat), ?_, .fz _ _ (.str _)⟩
    simp only [execOp, ho, inv_str hv, Option.map_none, Instr.sliceAt, Instr.slice, Sem.run_bind, run_underlying hT, Result.andThen_ok, Option.isSome_none, Bool.false_eq_true, if_false, run, Sem.run_pure]
  · exact h.elim

theorem ns_sl (hs : St s w) (hρ : ∀ x y, OkOpd x y → RV (own s) w (ρ y) (a.eval x)) {Ty n : Nat} {x : Operand} {y : Opd} {lo hi : Option Operand} {lo' hi' : Option Opd} (ho : o.op = .slice Ty x lo hi none) (hT : SlR P Ty n)
    (hx : OkOpd x y) (hlo : OkBound lo lo') (hhi : OkBound hi hi') (h : nop T R (.sl y lo' hi' n) ρ s K) : NS P o a s w K := by
  obtain ⟨E, hE, hn⟩ := hT
  have main : ∀ (k m : Nat) (get : Nat → List AV), k = n → ((ρ y).df → RV (own s) w (.lst k m get) (a.eval x)) →
      (lo_ ρ 0 lo' fun l p => lo_ ρ m hi' fun h q => K (cutA k m get l.toNat (h - l).toNat) ((ρ y).df ∧ p ∧ q ∧ 0 ≤ l ∧ l ≤ h ∧ h ≤ m)) → NS P o a s w K := by
    intro k m get hkn hval h0
    clear h
    subst hkn
    obtain ⟨l, p, h0, e1⟩ := lo_spec h0
    obtain ⟨hh, q, h0, e2⟩ := lo_spec h0
    refine NS_same hs h0 fun hd => ?_
    obtain ⟨d1, d2, d3, d4, d5, d6⟩ := hd
    have hv := hval d1
    obtain ⟨ad, c, f1, hc, f2⟩ := inv_lst hv
    have run := sliceBounds_run (P := P) (sl := true) (n := m) (c := c) hρ hlo hhi e1 e2 d2 d3 d4 d5 d6 hc
    have ex : (execOp a.eval o).run P w = .ok (.value (.slice (if c = l.toNat then ad else ad.map (·.add (l.toNat * k))) (hh.toNat - l.toNat) (c - l.toNat))) w := by
      simp only [execOp, ho, f1, Option.map_none, Instr.sliceAt, Instr.slice, Sem.run_bind, run_underlying hE, Result.andThen_ok, run, hn, Sem.run_pure]
    refine ⟨_, ex, ?_⟩
    have hs1 : (hh - l).toNat = hh.toNat - l.toNat := by omega
    have hs2 : hh.toNat ≤ m := by omega
    have hs3 : l.toNat ≤ hh.toNat := by omega
    rw [hs1]
    unfold cutA
    rw [show min (hh.toNat - l.toNat) (m - l.toNat) = hh.toNat - l.toNat by omega]
    generalize l.toNat = L at *
    generalize hh.toNat = H at *
    clear d4 d5 d6 hs1 h0 run ex e1 e2
    by_cases h0 : 0 < H - L
    · obtain ⟨ad, vf, rfl, g0, g1, g2, g3, g4, g5⟩ := f2 (by omega)
      clear f2
      rw [if_neg (by omega)]
      refine .fz _ _ (.lst _ _ _ (ad.add (L * k)) _ (fun i j => vf (L + i) j) h0 (by omega) (by rw [add_eq g0]) (by rwa [add_block]) (by rwa [add_block]) (fun i j hi hj => ?_) (fun i hi => by rw [if_pos hi]; exact g4 _ (by omega)) fun i j hi hj => by rw [if_pos hi]; exact g5 _ _ (by omega) hj)
      rw [add_add g0, ← Nat.add_assoc, ← Nat.add_mul]
      exact g3 _ _ (by omega) hj
    · have e : H - L = 0 := by omega
      rw [e]
      exact .fz _ _ (.lst0 _ _ _ _)
  simp only [nop] at h
  split at h
  · rename_i k m get hb
    exact main k m get h.1 (fun d1 => by have hv := RV_val (hρ _ _ hx) d1; rwa [hb] at hv) h.2
  · rename_i hb
    refine main n 0 (fun _ => []) rfl (fun d1 => ?_) h
    have hv := RV_val (hρ _ _ hx) d1
    rw [hb] at hv
    obtain ⟨ad, e⟩ := inv_emp hv
    rw [e]
    exact .fz _ _ (.lst0 _ _ _ _)
  · exact h.elim
end
end Go.Proofs.Ytjoncejabdjekaa.L
