/- An own program logic over the kit's walk, part 18: from the program's code to abstract code. -/
import Derived.Test.YtjoncejabdjekaaL17
set_option linter.unusedVariables false
set_option linter.unusedSimpArgs false
namespace Go.Proofs.Ytjoncejabdjekaa.L
open Go

/-- A type: struct or array, and how many cells. -/
def tyQ (P : Program) (T : TypeId) : Option (Bool × Nat) := match P.underlying T, P.info? T with
  | some (.struct _), some i => some (true, i.size)
  | some (.array _ _), some i => some (true, i.size)
  | some _, some i => some (false, i.size)
  | _, _ => none
def fdQ (P : Program) (T f : Nat) : Option (Nat × Bool × Nat) := match P.underlying T with
  | some (.struct fs) => match fs[f]? with
    | some fd => match tyQ P fd.type with
      | some (ag, n) => some (fd.offset, ag, n)
      | none => none
    | none => none
  | _ => none
def szQ (P : Program) (T : TypeId) : Option Nat := match P.info? T with
  | some i => some i.size
  | none => none
def slQ (P : Program) (T : TypeId) : Option (Nat × Nat) := match P.underlying T with
  | some (.slice E) => match P.info? E with
    | some i => some (E, i.size)
    | none => none
  | _ => none
def zOf : Value → AV
  | .int k n => .int k n
  | .bool b => .bool b
  | .string s => .str s
  | .pointer none => .nilp
  | .slice none 0 0 => .emp
  | .map none => .nilm
  | _ => .undef
def zsOf (v : Value) : List AV := v.cells.toList.map zOf
def zvOf : Value → AV
  | .agg cs => .agg (cs.toList.map zOf)
  | v => zOf v
def zrQ (P : Program) (T : TypeId) : Option Value := match P.info? T with
  | some i => i.zero
  | none => none

section
variable {P : Program}
theorem zOf_RV (v : Value) (o : Nat → Prop) (w : World) : RV o w (zOf v) v := by
  unfold zOf
  split <;> first
    | exact .undef _
    | exact .fz _ _ (.int _ _)
    | exact .fz _ _ (.bool _)
    | exact .fz _ _ (.str _)
    | exact .fz _ _ .nilp
    | exact .fz _ _ (.emp _)
    | exact .fz _ _ .nilm
theorem zvOf_RV (v : Value) (o : Nat → Prop) (w : World) : RV o w (zvOf v) v := by
  unfold zvOf
  split
  · rename_i cs
    have := RV.agg (own := o) (w := w) (cs.toList.map zOf) cs.toList (by simp) (fun j hj => by
      have hj' : j < cs.toList.length := by simpa using hj
      have e : at_ (cs.toList.map zOf) j = zOf (vat cs.toList j) := by
        simp only [at_, vat, List.getD_eq_getElem?_getD, List.getElem?_map, List.getElem?_eq_getElem hj', Option.map_some, Option.getD_some]
      rw [e]; exact zOf_RV _ o w)
    simpa using this
  · exact zOf_RV _ o w
theorem zsOf_ZR (v : Value) : ZR (zsOf v) v.cells := fun o w => ⟨by simp [zsOf], fun j hj => by
  have hj' : j < v.cells.toList.length := by simpa [zsOf] using hj
  have e : at_ (zsOf v) j = zOf (v.cells.getD j Go.undef) := by
    simp only [zsOf, at_, List.getD_eq_getElem?_getD, List.getElem?_map, List.getElem?_eq_getElem hj', Option.map_some, Option.getD_some, Array.getD_eq_getD_getElem?]
    simp only [Array.length_toList] at hj'
    simp [hj']
  rw [e]; exact zOf_RV _ o w⟩

theorem szQ_ok {T n : Nat} (h : szQ P T = some n) (w : World) : (sizeOf T).run P w = .ok n w := by
  unfold szQ at h
  split at h
  · rename_i i hi
    cases h
    simp [sizeOf, run_typeInfo w hi]
  · cases h
theorem tyQ_ok {T n : Nat} {ag : Bool} (h : tyQ P T = some (ag, n)) : TyR P T ag n := by
  unfold tyQ at h
  split at h
  · rename_i fs i hu hi
    cases h
    exact ⟨fun w => by simp [isAgg, run_underlying hu], szQ_ok (by simp [szQ, hi])⟩
  · rename_i l e i hu hi
    cases h
    exact ⟨fun w => by simp [isAgg, run_underlying hu], szQ_ok (by simp [szQ, hi])⟩
  · rename_i d i hd1 hd2 hu hi
    cases h
    refine ⟨fun w => ?_, szQ_ok (by simp [szQ, hi])⟩
    simp only [isAgg, Sem.run_bind, run_underlying hu, Result.andThen_ok]
    cases d <;> first
      | rfl
      | exact absurd rfl (hd1 _)
      | exact absurd rfl (hd2 _ _)
  · cases h
theorem fdQ_ok {T f off n : Nat} {ag : Bool} (h : fdQ P T f = some (off, ag, n)) : FdR P T f off ag n := by
  unfold fdQ at h
  split at h
  · rename_i fs hu
    split at h
    · rename_i fd hf
      split at h
      · rename_i ag' n' ht
        cases h
        exact ⟨fs, fd, hu, hf, rfl, tyQ_ok ht⟩
      · cases h
    · cases h
  · cases h
theorem slQ_ok {T E n : Nat} (h : slQ P T = some (E, n)) : P.underlying T = some (.slice E) ∧ ∀ w, (sizeOf E).run P w = .ok n w := by
  unfold slQ at h
  split at h
  · rename_i E' hu
    split at h
    · rename_i i hi
      cases h
      exact ⟨hu, szQ_ok (by simp [szQ, hi])⟩
    · cases h
  · cases h
theorem zrQ_ok {T : Nat} {v : Value} (h : zrQ P T = some v) (w : World) : (zeroValue T).run P w = .ok v w := by
  unfold zrQ at h
  split at h
  · rename_i i hi
    simp [zeroValue, run_typeInfo w hi, h]
  · cases h
theorem zrQ_AlcR {T : Nat} {v : Value} (h : zrQ P T = some v) : AlcR P T (zsOf v) := ⟨v, zrQ_ok h, zsOf_ZR v⟩
theorem zrQ_ZvR {T : Nat} {v : Value} (h : zrQ P T = some v) : ZvR P T (zvOf v) := ⟨v, zrQ_ok h, zvOf_RV v⟩

def intsB (P : Program) (T n : Nat) : Bool :=
  (match P.underlying T with
   | some (.struct _) => true
   | _ => false) && !P.stoodInHeld T && !P.eqGuardType P.depth T && (P.fieldsOf T).toList.length == n &&
  (P.fieldsOf T).toList.zipIdx.all fun x => x.1.name != "_" && x.1.offset == x.2 && (match P.underlying x.1.type with
    | some (.int .i64) => true
    | _ => false)
theorem intsB_ok {T n : Nat} (h : intsB P T n = true) : IntS P T n := by
  simp only [intsB, Bool.and_eq_true, Bool.not_eq_true', beq_iff_eq] at h
  obtain ⟨⟨⟨⟨h1, h2⟩, h3⟩, h4⟩, h5⟩ := h
  refine ⟨?_, h2, h3, h4, fun i f hf => ?_⟩
  · split at h1
    · rename_i fs hu; rw [hu]; simp [Program.fieldsOf, hu]
    · cases h1
  · have := List.all_eq_true.1 h5 (f, i) (List.mem_of_getElem? (i := i) (by simp [hf]))
    simp only [Bool.and_eq_true, bne_iff_ne, ne_eq, beq_iff_eq] at this
    obtain ⟨⟨a1, a2⟩, a3⟩ := this
    refine ⟨a1, a2, ?_⟩
    split at a3
    · rename_i hu; exact hu
    · cases a3
/-- A map's key type. -/
def keyQ (P : Program) (kt : TypeId) : Option Nat := match P.underlying kt with
  | some (.int .i64) => some 0
  | some (.struct fs) => match fs.size with
    | n + 1 => if intsB P kt (n + 1) = true then some (n + 1) else none
    | 0 => none
  | _ => none
theorem keyQ_ok {kt kn : Nat} (h : keyQ P kt = some kn) : KeyR P kt kn := by
  unfold keyQ at h
  split at h
  · rename_i hu; cases h; exact hu
  · split at h
    · split at h
      · rename_i hi; cases h; exact intsB_ok hi
      · cases h
    · cases h
  · cases h
def mapQ (P : Program) (T : TypeId) : Option (Nat × Nat × Nat) := match P.underlying T with
  | some (.map kt et) => match keyQ P kt with
    | some kn => some (kt, et, kn)
    | none => none
  | _ => none
theorem mapQ_ok {T kt et kn : Nat} (h : mapQ P T = some (kt, et, kn)) : P.underlying T = some (.map kt et) ∧ KeyR P kt kn := by
  unfold mapQ at h
  split at h
  · rename_i hu
    split at h
    · rename_i hk; cases h; exact ⟨hu, keyQ_ok hk⟩
    · cases h
  · cases h
/-- A slice type whose rows are made. -/
def elQ (P : Program) (T : TypeId) : Option (Nat × Nat × Nat × Value) := match P.underlying T with
  | some (.slice E) => match P.info? E with
    | some i => match i.zero with
      | some zv => if zv.cells.size = i.size ∧ 0 < i.size ∧ 0 < i.bytes ∧ zv.cells.toList.all Value.oneCell' = true then some (E, i.size, i.bytes, zv) else none
      | none => none
    | none => none
  | _ => none
theorem elQ_ok {T E k by_ : Nat} {zv : Value} (h : elQ P T = some (E, k, by_, zv)) : (∃ i, ElR P T E k by_ (zsOf zv) i zv) ∧ (zsOf zv).length = k ∧ BslR P T E k := by
  unfold elQ at h
  split at h
  · rename_i E' hu
    split at h
    · rename_i i hi
      split at h
      · rename_i zv' hz
        split at h
        · rename_i hc
          cases h
          obtain ⟨c1, c2, c3, c4⟩ := hc
          exact ⟨⟨i, hu, hi, rfl, rfl, hz, c1, c2, c3, fun u hu => List.all_eq_true.1 c4 u hu, fun _ => zsOf_ZR _⟩, by simp [zsOf, c1], hu, i, _, hi, rfl, c2, hz, c1⟩
        · cases h
      · cases h
    · cases h
  · cases h
def plQ (P : Program) (T : TypeId) : Option (List (Nat × Nat) × Value) := match P.info? T with
  | some it => match P.underlying T with
    | some (.struct fs) => match it.zero with
      | some zv => match fs.toList.mapM (fun f => (P.info? f.type).map fun i => (f.offset, i.size)) with
        | some pl => some (pl, zv)
        | none => none
      | none => none
    | _ => none
  | none => none
theorem plQ_ok {T : Nat} {pl : List (Nat × Nat)} {zv : Value} (h : plQ P T = some (pl, zv)) : BldR P T pl (zsOf zv) := by
  unfold plQ at h
  split at h
  · rename_i it hi
    split at h
    · rename_i fs hu
      split at h
      · rename_i zv' hz
        split at h
        · rename_i pl' hp
          cases h
          exact ⟨it, fs, zv, hi, hu, hz, zsOf_ZR _, hp⟩
        · cases h
      · cases h
    · cases h
  · cases h
end

/-! ### Operands -/
def cOpd : Operand → Option Opd
  | .tmp t => some (.t t)
  | .const v => some (.c (zOf v))
  | .func f => some (.c (.fn f []))
  | .global _ => none
theorem cOpd_ok {x : Operand} {y : Opd} (h : cOpd x = some y) : OkOpd x y := by
  cases x with
  | tmp t => cases h; rfl
  | const v => cases h; exact zOf_RV v
  | func f => cases h; rfl
  | global g => cases h
def cOpds : List Operand → Option (List Opd)
  | [] => some []
  | x :: l => match cOpd x with
    | some y => match cOpds l with
      | some r => some (y :: r)
      | none => none
    | none => none
theorem cOpds_ok : ∀ {l : List Operand} {r : List Opd}, cOpds l = some r → OkOpds l r
  | [], _, h => by cases h; trivial
  | x :: l, r, h => by
    simp only [cOpds] at h
    split at h
    · rename_i y hy
      split at h
      · rename_i r' hr; cases h; exact ⟨cOpd_ok hy, cOpds_ok hr⟩
      · cases h
    · cases h
def cBnd : Option Operand → Option (Option Opd)
  | none => some none
  | some x => match cOpd x with
    | some y => some (some y)
    | none => none
theorem cBnd_ok {x : Option Operand} {y : Option Opd} (h : cBnd x = some y) : OkBound x y := by
  cases x with
  | none => cases h; trivial
  | some x =>
    simp only [cBnd] at h
    split at h
    · rename_i y' hy; cases h; exact cOpd_ok hy
    · cases h
def cRow : Nat → List (Nat × Operand) → Option (List Opd)
  | _, [] => some []
  | i, (i', x) :: l => if i' = i then match cOpd x with
    | some y => match cRow (i + 1) l with
      | some r => some (y :: r)
      | none => none
    | none => none
    else none
theorem cRow_ok : ∀ {l : List (Nat × Operand)} {i : Nat} {r : List Opd}, cRow i l = some r → OkRow i l r
  | [], _, _, h => by cases h; trivial
  | (i', x) :: l, i, r, h => by
    simp only [cRow] at h
    split at h
    · rename_i he
      split at h
      · rename_i y hy
        split at h
        · rename_i r' hr; cases h; exact ⟨he, cOpd_ok hy, cRow_ok hr⟩
        · cases h
      · cases h
    · cases h
def cParts (pl : List (Nat × Nat)) (m : Nat) : List (Nat × Operand) → Option (List (Nat × Nat × Opd))
  | [] => some []
  | (i, x) :: l => match pl[i]? with
    | some (off, n) => if off + n ≤ m then match cOpd x with
      | some y => match cParts pl m l with
        | some r => some ((off, n, y) :: r)
        | none => none
      | none => none
      else none
    | none => none
theorem cParts_ok {pl : List (Nat × Nat)} {m : Nat} : ∀ {l : List (Nat × Operand)} {r : List (Nat × Nat × Opd)}, cParts pl m l = some r → OkParts pl m l r
  | [], _, h => by cases h; trivial
  | (i, x) :: l, r, h => by
    simp only [cParts] at h
    split at h
    · rename_i off n hp
      split at h
      · rename_i he
        split at h
        · rename_i y hy
          split at h
          · rename_i r' hr; cases h; exact ⟨hp, he, cOpd_ok hy, cParts_ok hr⟩
          · cases h
        · cases h
      · cases h
    · cases h
end Go.Proofs.Ytjoncejabdjekaa.L
