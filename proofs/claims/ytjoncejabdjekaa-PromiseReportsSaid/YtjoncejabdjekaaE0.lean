/- A row's end, part 0: what a row's arguments read as typed values. -/
import Derived.Test.YtjoncejabdjekaaD11
import Derived.ProofKit
import Derived.OpenShut
import Derived.ShutString
import Derived.ChangeOld
import Derived.Below
import Derived.Carry
import Derived.SizedLaws
set_option linter.unusedVariables false
set_option linter.unusedSimpArgs false
namespace Go.Proofs.Ytjoncejabdjekaa.D
open Go Go.Proofs.Ytjoncejabdjekaa.L

def foldT (t : Ty) : List Ty → Ty
  | [] => t
  | u :: us => .pair t (foldT u us)
/-- What the numbers, strings and slices of an argument keep to. -/
def Wf : (t : Ty) → t.den → Prop
  | .int k, n => (Lit.int k n).wf = true
  | .str, s => s.size ≤ maxLen
  | .sl t, l => l.length ≤ maxLen ∧ ∀ i, i < l.length → Wf t (at0 t l i)
  | .pair a b, x => Wf a x.1 ∧ Wf b x.2
  | _, _ => True
def fieldsAt (P : Program) (rec : TypeId → Option (List Ty)) : Nat → List Field → Option (List Ty)
  | _, [] => some []
  | off, f :: fs => match rec f.type with
    | some ts => bif Nat.beq f.offset off && Nat.beq (P.cellsOf f.type) ts.length then (match fieldsAt P rec (off + ts.length) fs with
      | some us => some (ts ++ us)
      | none => none) else none
    | none => none
/-- A type's cells. -/
def tyCells (P : Program) : Nat → TypeId → Option (List Ty)
  | 0, _ => none
  | n + 1, t => match P.underlying t with
    | some (.int k) => some [.int k]
    | some .bool => some [.bool]
    | some .string => some [.str]
    | some (.slice e) => match tyCells P n e with
      | some (u :: us) => bif Nat.beq (P.cellsOf e) (us.length + 1) then some [.sl (foldT u us)] else none
      | _ => none
    | some (.struct fs) => match fieldsAt P (tyCells P n) 0 fs.toList with
      | some ts => bif Nat.beq (P.cellsOf t) ts.length then some ts else none
      | none => none
    | _ => none

/-- Leaves and the cells that hold them. -/
def LCs (w : World) : List Leaf → List Value → Prop
  | [], cs => cs = []
  | l :: ls, cs => ∃ a v cs', cs = v :: cs' ∧ CR l.t l.x [a] ∧ FV (fun _ => False) w a v ∧ Wf l.t l.x ∧ LCs w ls cs'
theorem LCs_app {w : World} : ∀ {l l' : List Leaf} {cs cs' : List Value}, LCs w l cs → LCs w l' cs' → LCs w (l ++ l') (cs ++ cs')
  | [], _, _, _, h, h' => by cases h; exact h'
  | x :: l, _, _, _, ⟨a, v, c, e, h1, h2, h3, h4⟩, h' => by subst e; exact ⟨a, v, _, rfl, h1, h2, h3, LCs_app h4 h'⟩
theorem LCs_len {w : World} : ∀ {l : List Leaf} {cs : List Value}, LCs w l cs → cs.length = l.length
  | [], _, h => by cases h; rfl
  | x :: l, _, ⟨a, v, c, e, h1, h2, h3, h4⟩ => by subst e; simp [LCs_len h4]
theorem at_succ (a : AV) (as : List AV) (j : Nat) : at_ (a :: as) (j + 1) = at_ as j := by simp [at_]
theorem foldT_w : ∀ (t : Ty) (ts : List Ty), (∀ u ∈ t :: ts, u.w = 1) → (foldT t ts).w = ts.length + 1
  | t, [], h => by simp [foldT, h t (by simp)]
  | t, u :: us, h => by
    simp only [foldT, Ty.w, h t (by simp), foldT_w u us (fun v hv => h v (by simp at hv ⊢; exact .inr hv)), List.length_cons]; omega
/-- Leaves together. -/
theorem pack {w : World} : ∀ {t : Ty} {ts : List Ty} {l : List Leaf} {cs : List Value}, l.map (·.t) = t :: ts → LCs w l cs →
    ∃ (x : (foldT t ts).den) (as : List AV), CR (foldT t ts) x as ∧ Wf (foldT t ts) x ∧ as.length = cs.length ∧ ∀ j, j < cs.length → FV (fun _ => False) w (at_ as j) (vat cs j)
  | t, [], [], _, h, _ => by simp at h
  | t, u :: us, [], _, h, _ => by simp at h
  | t, [], ⟨t', x⟩ :: l, cs, h, hc => by
    simp only [List.map_cons, List.cons.injEq, List.map_eq_nil_iff] at h
    obtain ⟨h1, rfl⟩ := h
    subst h1
    obtain ⟨a, v, c, rfl, k1, k2, k3, k4⟩ := hc
    cases k4
    refine ⟨x, [a], k1, k3, rfl, fun j hj => ?_⟩
    have : j = 0 := by simpa using hj
    subst this
    exact k2
  | t, u :: us, ⟨t', x⟩ :: l, cs, h, hc => by
    simp only [List.map_cons, List.cons.injEq] at h
    obtain ⟨h1, h⟩ := h
    subst h1
    obtain ⟨a, v, c, rfl, k1, k2, k3, k4⟩ := hc
    obtain ⟨y, as, g1, g2, g3, g4⟩ := pack (t := u) (ts := us) (by simpa using h) k4
    refine ⟨(x, y), a :: as, ⟨[a], as, rfl, k1, g1⟩, ⟨k3, g2⟩, by simp [g3], fun j hj => ?_⟩
    cases j with
    | zero => exact k2
    | succ j => rw [at_succ]; exact g4 j (by simpa using hj)

section
variable {H : Type} {enc : TypeId × Value → H} {P : Program} {w : World} {base : Nat} {spare : Nat → Bool} {held : Bool}

theorem getD_range_map {α : Type} (g : Nat → α) (d : α) {i n : Nat} (h : i < n) : ((List.range n).map g).getD i d = g i := by
  simp [List.getD_eq_getElem?_getD, h]

theorem fields_cells {n : Nat} {rec : TypeId → Option (List Ty)} {cs : List Value} (hrec : ∀ {t ts}, rec t = some ts → ∀ {cs x}, DataW.trod enc P w base spare held n t cs = some x → ∃ l : List Leaf, l.map (·.t) = ts ∧ LCs w l cs) :
    ∀ (fs : List Field) (off : Nat) (ts : List Ty), fieldsAt P rec off fs = some ts → (∀ f ∈ fs, ∃ x, DataW.trod enc P w base spare held n f.type ((cs.drop f.offset).take (P.cellsOf f.type)) = some x) →
      ∃ l : List Leaf, l.map (·.t) = ts ∧ LCs w l ((cs.drop off).take ts.length)
  | [], off, ts, h, _ => by
    simp only [fieldsAt, Option.some.injEq] at h; subst h
    exact ⟨[], rfl, by simp [LCs]⟩
  | f :: fs, off, ts, h, hf => by
    simp only [fieldsAt] at h
    cases hr : rec f.type with
    | none => rw [hr] at h; cases h
    | some us =>
      rw [hr] at h
      cases hb : (Nat.beq f.offset off && Nat.beq (P.cellsOf f.type) us.length) with
      | false => simp only [hb, cond_false] at h; cases h
      | true =>
        simp only [hb, cond_true] at h
        simp only [Bool.and_eq_true, beq_iff] at hb
        obtain ⟨e1, e2⟩ := hb
        cases hr2 : fieldsAt P rec (off + us.length) fs with
        | none => rw [hr2] at h; cases h
        | some vs =>
          rw [hr2] at h
          simp only [Option.some.injEq] at h; subst h
          obtain ⟨x, hx⟩ := hf f (by simp)
          obtain ⟨l, g1, g2⟩ := hrec hr hx
          obtain ⟨l', g3, g4⟩ := fields_cells hrec fs _ _ hr2 (fun f' hf' => hf f' (by simp [hf']))
          refine ⟨l ++ l', by simp [g1, g3], ?_⟩
          rw [e1, e2] at g2
          have : (cs.drop off).take (us ++ vs).length = (cs.drop off).take us.length ++ (cs.drop (off + us.length)).take vs.length := by
            rw [List.length_append, List.take_add, List.drop_drop]
          rw [this]
          exact LCs_app g2 g4

theorem cell_lt {w : World} {a : Addr} {v : Value} (h : w.cell? a = some v) : a.block < w.heap.size := World.block_lt_of_cell? w a h

/-- What a reading says of the cells. -/
theorem trod_cells : ∀ (n : Nat) {t : TypeId} {ts : List Ty}, tyCells P n t = some ts → ∀ {fuel : Nat} {cs : List Value} {x : DataW H × List MemPlace}, DataW.trod enc P w base spare held fuel t cs = some x → ∃ l : List Leaf, l.map (·.t) = ts ∧ LCs w l cs
  | 0, _, _, h, _, _, _, _ => by cases h
  | n + 1, t, ts, h, fuel, cs, x, ht => by
    unfold tyCells at h
    split at h
    · rename_i k hu
      cases h
      obtain ⟨m, rfl, _, hw⟩ := DataW.trod_int hu ht
      exact ⟨[⟨.int k, m⟩], rfl, _, _, _, rfl, rfl, .int k m, hw, rfl⟩
    · rename_i hu
      cases h
      obtain ⟨b, rfl, _⟩ := DataW.trod_bool hu ht
      exact ⟨[⟨.bool, b⟩], rfl, _, _, _, rfl, rfl, .bool b, trivial, rfl⟩
    · rename_i hu
      cases h
      obtain ⟨s, rfl, _, hs⟩ := DataW.trod_string hu ht
      exact ⟨[⟨.str, s⟩], rfl, _, _, _, rfl, rfl, .str s, hs, rfl⟩
    · rename_i e hu
      cases hr : tyCells P n e with
      | none => rw [hr] at h; cases h
      | some us =>
        rw [hr] at h
        cases us with
        | nil => cases h
        | cons u us =>
          cases hb : Nat.beq (P.cellsOf e) (us.length + 1) with
          | false => simp only [hb, cond_false] at h; cases h
          | true =>
            simp only [hb, cond_true, Option.some.injEq] at h
            subst h
            have hce := beq_iff.1 hb
            rcases DataW.trod_slice hu ht with ⟨rfl, _⟩ | ⟨a, len, cap, elems, rest, m, rfl, rfl, _, _, hlc, hcm, hel, hcell, _, _⟩
            · exact ⟨[⟨.sl (foldT u us), []⟩], rfl, .emp, _, _, rfl, .inl ⟨rfl, rfl⟩, .emp none, ⟨by simp, by simp⟩, rfl⟩
            · have key : ∀ i, i < len → ∃ (c : List Value) (x : (foldT u us).den) (as : List AV), (c.length = P.cellsOf e ∧ ∀ j, j < P.cellsOf e → w.cell? ((a.add (i * P.cellsOf e)).add j) = c[j]?) ∧
                  CR (foldT u us) x as ∧ Wf (foldT u us) x ∧ as.length = c.length ∧ ∀ j, j < c.length → FV (fun _ => False) w (at_ as j) (vat c j) := by
                intro i hi
                have h1 := hcell i hi
                have h2 : ∃ y, elems[i]? = some y := ⟨_, List.getElem?_eq_getElem (by omega)⟩
                obtain ⟨y, hy⟩ := h2
                rw [hy] at h1
                cases hc : w.cells? base (a.add (i * P.cellsOf e)) (P.cellsOf e) with
                | none => rw [hc] at h1; cases h1
                | some c =>
                  rw [hc] at h1
                  obtain ⟨_, g1, g2⟩ := World.cells?_some hc
                  obtain ⟨l, g3, g4⟩ := trod_cells n hr (show DataW.trod enc P w base spare held m e c = some y from h1)
                  obtain ⟨x, as, k⟩ := pack g3 g4
                  exact ⟨c, x, as, ⟨g1, g2⟩, k⟩
              by_cases h0 : len = 0
              · subst h0
                exact ⟨[⟨.sl (foldT u us), []⟩], rfl, .lst (foldT u us).w 0 (fun _ => []), _, _, rfl, .inr ⟨fun _ => [], rfl, fun i hi => by simp at hi⟩, .lst0 _ _ _ _, ⟨by simp, by simp⟩, rfl⟩
              have hsp : a.spot = none := by
                obtain ⟨c, x, as, ⟨g1, g2⟩, _⟩ := key 0 (by omega)
                have g3 := g2 0 (by omega)
                rw [List.getElem?_eq_getElem (by omega)] at g3
                simpa [Addr.add] using World.cell?_spot g3
              obtain ⟨ab, ao, as⟩ := a
              have hsp' : as = none := hsp
              subst hsp'
              let F : Nat → (List Value × (foldT u us).den) × List AV := fun i => if hi : i < len then ((Classical.choose (key i hi), Classical.choose (Classical.choose_spec (key i hi))), Classical.choose (Classical.choose_spec (Classical.choose_spec (key i hi)))) else (([], Ty.zero _), [])
              have hF : ∀ i, i < len → ((F i).1.1.length = P.cellsOf e ∧ ∀ j, j < P.cellsOf e → w.cell? (((⟨ab, ao, none⟩ : Addr).add (i * P.cellsOf e)).add j) = (F i).1.1[j]?) ∧
                  CR (foldT u us) (F i).1.2 (F i).2 ∧ Wf (foldT u us) (F i).1.2 ∧ (F i).2.length = (F i).1.1.length ∧ ∀ j, j < (F i).1.1.length → FV (fun _ => False) w (at_ (F i).2 j) (vat (F i).1.1 j) := by
                intro i hi
                have := Classical.choose_spec (Classical.choose_spec (Classical.choose_spec (key i hi)))
                simp only [F, dif_pos hi]
                exact this
              have hw : (foldT u us).w = P.cellsOf e := by
                have g := hF 0 (by omega)
                rw [← CR_len g.2.1, g.2.2.2.1, g.1.1]
              have hc : ∀ i j, i < len → j < (foldT u us).w → w.cell? ((⟨ab, ao, none⟩ : Addr).add (i * (foldT u us).w + j)) = some (vat (F i).1.1 j) := by
                intro i j hi hj
                have g := (hF i hi).1.2 j (by omega)
                rw [hw]
                rw [Go.WideShapes.add_plain, Go.WideShapes.add_plain] at g
                rw [Go.WideShapes.add_plain, ← Nat.add_assoc, g]
                have hl := (hF i hi).1.1
                rw [List.getElem?_eq_getElem (by omega)]
                simp [vat, List.getD_eq_getElem?_getD, List.getElem?_eq_getElem (show j < (F i).1.1.length by omega)]
              have hlen : ((List.range len).map fun i => (F i).1.2).length = len := by simp
              refine ⟨[⟨.sl (foldT u us), (List.range len).map fun i => (F i).1.2⟩], rfl, .lst (foldT u us).w len (fun i => (F i).2), _, _, rfl, .inr ⟨fun i => (F i).2, by rw [hlen], fun i hi => ?_⟩, ?_, ⟨by rw [hlen]; omega, fun i hi => ?_⟩, rfl⟩
              · rw [hlen] at hi
                rw [at0, getD_range_map _ _ hi]
                exact (hF i hi).2.1
              · refine .lst _ _ _ _ _ (fun i j => vat (F i).1.1 j) (by omega) hlc rfl (fun h => h) ?_ hc (fun i hi => CR_len (hF i hi).2.1) (fun i j hi hj => (hF i hi).2.2.2.2 j (by rw [(hF i hi).1.1]; omega))
                have := cell_lt (hc 0 0 (by omega) (by rw [hw, hce]; omega))
                rwa [add_block] at this
              · rw [hlen] at hi
                rw [at0, getD_range_map _ _ hi]
                exact (hF i hi).2.2.1
    · rename_i fs hu
      obtain ⟨xs, m, rfl, _, hcl, hxl, hx⟩ := DataW.trod_struct hu ht
      cases hr : fieldsAt P (tyCells P n) 0 fs.toList with
      | none => rw [hr] at h; cases h
      | some us =>
        rw [hr] at h
        cases hb : Nat.beq (P.cellsOf t) us.length with
        | false => simp only [hb, cond_false] at h; cases h
        | true =>
          simp only [hb, cond_true, Option.some.injEq] at h
          subst h
          obtain ⟨l, g1, g2⟩ := fields_cells (cs := cs) (n := m) (fun {t ts} hr {cs x} hx => trod_cells n hr hx) fs.toList 0 us hr (fun f hf => by
            obtain ⟨i, hi, e⟩ := List.mem_iff_getElem.1 hf
            have hi' : i < fs.size := by simpa using hi
            have := hx i f (by rw [Array.getElem?_eq_getElem hi']; simpa using e)
            rw [this]
            exact ⟨_, List.getElem?_eq_getElem (by omega)⟩)
          refine ⟨l, g1, ?_⟩
          rw [List.drop_zero, List.take_of_length_le (by rw [hcl, beq_iff.1 hb]; exact Nat.le_refl _)] at g2
          exact g2
    · cases h
end
end Go.Proofs.Ytjoncejabdjekaa.D
