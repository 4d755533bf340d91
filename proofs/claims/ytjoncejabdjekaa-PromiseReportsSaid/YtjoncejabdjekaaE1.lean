/- A row's end, part 1: from a function's contract to the row's call. -/
import Derived.Test.YtjoncejabdjekaaE0
set_option linter.unusedVariables false
set_option linter.unusedSimpArgs false
namespace Go.Proofs.Ytjoncejabdjekaa.D
open Go Go.Proofs.Ytjoncejabdjekaa.L

def pi0 : Pi := fun _ => none
def plainU : Option TypeDesc → Bool
  | some (.int _) | some .bool | some .string | some (.slice _) => true
  | _ => false

section
variable {H : Type} {enc : TypeId × Value → H} {P : Program} {w : World} {base : Nat} {spare : Nat → Bool} {held : Bool}

theorem arg_st {n : Nat} {t : TypeId} {u : Ty} {us : List Ty} {fs : Array Field} {r : Reach} {b0 : Nat} {v : Value} {d : DataW H} {ps : List MemPlace} (hu : P.underlying t = some (.struct fs)) (hc : tyCells P n t = some (u :: us))
    (hval : Value.okWide P w r b0 t v) (h : DataW.Trod enc P w base spare held t v d ps) :
    ∃ (x : (foldT u us).den) (a : AV), Wf (foldT u us) x ∧ RelV pi0 (.agg (cellsD (foldT u us) x)) a ∧ RV (fun _ => False) w a v := by
  obtain ⟨cs, rfl, _⟩ := Go.WideShapes.okWide_struct hu hval
  obtain ⟨fuel, hf⟩ := h
  obtain ⟨l, g1, g2⟩ := trod_cells n hc hf
  obtain ⟨x, as, k1, k2, k3, k4⟩ := pack g1 g2
  refine ⟨x, .agg as, k2, ?_, ?_⟩
  · simp only [RelV]; exact ⟨as, rfl, CR_cells k1⟩
  · have e : (Value.agg cs).cells.toList = cs.toList := rfl
    rw [e] at k3 k4
    have h1 := RV.agg (own := fun _ => False) (w := w) as cs.toList k3.symm (fun j hj => .fz _ _ (k4 j (by omega)))
    simpa using h1

theorem arg_v {n : Nat} {t : TypeId} {u : Ty} {r : Reach} {b0 : Nat} {v : Value} {d : DataW H} {ps : List MemPlace} (hu : plainU (P.underlying t) = true) (hc : tyCells P n t = some [u])
    (hval : Value.okWide P w r b0 t v) (h : DataW.Trod enc P w base spare held t v d ps) :
    ∃ (x : u.den) (a : AV), Wf u x ∧ RelV pi0 (.v ⟨u, x⟩) a ∧ RV (fun _ => False) w a v := by
  obtain ⟨fuel, hf⟩ := h
  obtain ⟨l, g1, g2⟩ := trod_cells n hc hf
  have hcell : v.cells.toList = [v] := by
    cases hx : P.underlying t with
    | none => rw [hx] at hu; cases hu
    | some y =>
      cases y with
      | int k => obtain ⟨m, rfl⟩ := Go.WideShapes.okWide_int hx hval; rfl
      | bool => obtain ⟨m, rfl⟩ := Go.WideShapes.okWide_bool hx hval; rfl
      | string => obtain ⟨m, rfl⟩ := Go.WideShapes.okWide_string hx hval; rfl
      | slice e => obtain ⟨a, m, c, rfl⟩ := Go.WideShapes.okWide_slice hx hval; rfl
      | _ => rw [hx] at hu; cases hu
  rw [hcell] at g2
  cases l with
  | nil => cases g1
  | cons l ls =>
    obtain ⟨t', x⟩ := l
    simp only [List.map_cons, List.cons.injEq, List.map_eq_nil_iff] at g1
    obtain ⟨h1, rfl⟩ := g1
    subst h1
    obtain ⟨a, v', c, e, k1, k2, k3, k4⟩ := g2
    cases k4
    cases e
    exact ⟨x, a, k3, by simp only [RelV]; exact k1, .fz _ _ k2⟩
end

theorem RVs_nil (o : Nat → Prop) (w : World) : RVs o w [] [] := ⟨rfl, fun j hj => by simp at hj⟩
theorem RVs_cons {o : Nat → Prop} {w : World} {a : AV} {v : Value} {as : List AV} {vs : List Value} (h : RV o w a v) (hs : RVs o w as vs) : RVs o w (a :: as) (v :: vs) := by
  refine ⟨by simp [hs.1], fun j hj => ?_⟩
  cases j with
  | zero => exact h
  | succ j => have := hs.2 j (by simpa using hj); simpa [at_, vat] using this

def boolOut : OutSh := ⟨⟨[.v .bool], []⟩, [.bool], [], 0⟩
/-- A law's contract, as its row wants it. -/
theorem law_calls {P : Program} {f : FuncId} {ins : StSh} {ts : List Ty} {m : Nat} {bw : Bool} {F : dens ts → Option Bool} (hd : DC P f ⟨ins, ts, m, boolOut, bw⟩ F) {x : dens ts} (hx : F x = some true) {ds : List DV}
    (hf : fillSt (fun k => k) ins (ofDens ts x) = some (ds, [])) {as : List AV} (hr : RelVs pi0 ds as) {vs : List Value} {w : World} (hv : RVs (fun _ => False) w as vs) :
    Calls P f vs.toArray w fun e w' => e = .returned (.bool true) ∧ Go.RowKit.Below w.heap.size w w' := by
  have hac := hd.2 x true hx pi0 es0 as es0 ⟨ds, [], hf, hr, ⟨fun b o h => (by cases h), fun b1 b2 o1 o2 b' c1 n1 c2 n2 h => (by cases h), fun b' x h => (by cases h), fun b o b' c n h => (by cases h), fun b h => rfl⟩⟩
  refine (hac.2 vs w (fun b x hb => by cases hb) (by rw [own_es0]; exact hv)).mono ?_
  rintro en w' ⟨v, r, s', rfl, ⟨π1, d, os, hfill, _, hrel, _, _⟩, _, hrv, hm⟩
  have hfill' : some ([DV.v ⟨.bool, true⟩], ([] : List (Nat × DObj))) = some ([d], os) := hfill
  simp only [Option.some.injEq, Prod.mk.injEq, List.cons.injEq, and_true] at hfill'
  obtain ⟨rfl, rfl⟩ := hfill'
  simp only [RelV, CR] at hrel
  cases hrel
  refine ⟨?_, ⟨hm.os, hm.tape, hm.output, hm.size, fun b hb => hm.block b hb (fun h => h rfl)⟩⟩
  cases hrv with
  | fz _ _ h => cases h; rfl
end Go.Proofs.Ytjoncejabdjekaa.D
