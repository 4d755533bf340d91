/- An own program logic over the kit's walk, part 0: abstract values, abstract stores, and how they stand for worlds. -/
import Derived.WalkKit
import Derived.Deep.LoopGhost
import Derived.Orders
set_option linter.unusedVariables false
set_option linter.unusedSimpArgs false
namespace Go.Proofs.Ytjoncejabdjekaa.L
open Go

/-- Abstract values. `lst k n get`: memory that nobody writes any more, n elements of k cells. -/
inductive AV where
  | undef
  | int (k : IntKind) (n : Int)
  | bool (b : Bool)
  | str (s : ByteArray)
  | nilp
  | ptr (b off : Nat)
  | rptr (b k i j : Nat)
  | elm (cs : List AV)
  | agg (cs : List AV)
  | tup (vs : List AV)
  | emp
  | lst (k n : Nat) (get : Nat → List AV)
  | slc (b n c : Nat)
  | mp (b : Nat)
  | nilm
  | fn (f : FuncId) (cap : List AV)
  | whn (g : Bool) (v : AV)

instance : Inhabited AV := ⟨.undef⟩

/-- Element j of a list of cells. -/
def at_ (cs : List AV) (j : Nat) : AV := cs.getD j .undef
/-- Value j of a list of values. -/
def vat (vs : List Value) (j : Nat) : Value := vs.getD j Go.undef

/-- What an abstract value in memory that stays stands for. -/
inductive FV (own : Nat → Prop) (w : World) : AV → Value → Prop where
  | int (k : IntKind) (n : Int) : FV own w (.int k n) (.int k n)
  | bool (b : Bool) : FV own w (.bool b) (.bool b)
  | str (s : ByteArray) : FV own w (.str s) (.string s)
  | nilp : FV own w .nilp (.pointer none)
  | nilm : FV own w .nilm (.map none)
  | emp (a : Option Addr) : FV own w .emp (.slice a 0 0)
  | lst0 (k : Nat) (get : Nat → List AV) (a : Option Addr) (c : Nat) : FV own w (.lst k 0 get) (.slice a 0 c)
  | lst (k n : Nat) (get : Nat → List AV) (a : Addr) (c : Nat) (vf : Nat → Nat → Value) (hn : 0 < n) (hnc : n ≤ c) (hsp : a.spot = none) (ha : ¬ own a.block) (hb : a.block < w.heap.size)
      (hc : ∀ i j, i < n → j < k → w.cell? (a.add (i * k + j)) = some (vf i j))
      (hl : ∀ i, i < n → (get i).length = k)
      (hv : ∀ i j, i < n → j < k → FV own w (at_ (get i) j) (vf i j)) : FV own w (.lst k n get) (.slice (some a) n c)
  | elm (cs : List AV) (a : Addr) (vf : Nat → Value) (hsp : a.spot = none) (ha : ¬ own a.block) (hb : a.block < w.heap.size)
      (hc : ∀ j, j < cs.length → w.cell? (a.add j) = some (vf j))
      (hv : ∀ j, j < cs.length → FV own w (at_ cs j) (vf j)) : FV own w (.elm cs) (.pointer (some a))

/-- What an abstract value in a slot stands for. -/
inductive RV (own : Nat → Prop) (w : World) : AV → Value → Prop where
  | undef (v : Value) : RV own w .undef v
  | fz (a : AV) (v : Value) (h : FV own w a v) : RV own w a v
  | ptr (b o : Nat) : RV own w (.ptr b o) (.pointer (some ⟨b, o, none⟩))
  | rptr (b k i j : Nat) : RV own w (.rptr b k i j) (.pointer (some ⟨b, i * k + j, none⟩))
  | slc (b n c : Nat) : RV own w (.slc b n c) (.slice (some ⟨b, 0, none⟩) n c)
  | mp (b : Nat) : RV own w (.mp b) (.map (some b))
  | agg (cs : List AV) (vs : List Value) (hl : vs.length = cs.length) (h : ∀ j, j < cs.length → RV own w (at_ cs j) (vat vs j)) : RV own w (.agg cs) (.agg vs.toArray)
  | tup (cs : List AV) (vs : List Value) (hl : vs.length = cs.length) (h : ∀ j, j < cs.length → RV own w (at_ cs j) (vat vs j)) : RV own w (.tup cs) (.tuple vs.toArray)
  | fn (f : FuncId) (cs : List AV) (vs : List Value) (hl : vs.length = cs.length) (h : ∀ j, j < cs.length → RV own w (at_ cs j) (vat vs j)) : RV own w (.fn f cs) (.func (.func f) #[] vs.toArray)
  | whn (g : Bool) (a : AV) (v : Value) (h : g = true → RV own w a v) (h' : g = false → v = Go.undef) : RV own w (.whn g a) v

/-- Memory that is written: a variable's cells; a row of n elements with room for c; a map whose keys are whole numbers (`kn` = 0) or structs of kn of them. -/
inductive AObj where
  | box (cs : List AV)
  | row (T k c : Nat) (xs : List (List AV))
  | imap (kn : Nat) (es : List (List Int × AV)) (pd : Option (Int × Nat))

/-- A key's value. -/
def kval (kn : Nat) (k : List Int) : Value := match kn with
  | 0 => .int .i64 (k.headD 0)
  | _ + 1 => .agg (k.map (Value.int .i64)).toArray
def klen (kn : Nat) : Nat := match kn with
  | 0 => 1
  | n + 1 => n + 1

abbrev Store := Nat → Option AObj
abbrev Env := Nat → AV

def own (s : Store) (b : Nat) : Prop := s b ≠ none

/-- What an object of the store stands for. -/
def ObjR (o : Nat → Prop) (w : World) (b : Nat) : AObj → Prop
  | .box cs => ∃ (vs : Array Value) (T : TypeId), w.heap[b]? = some (.cells vs T (0, 0)) ∧ vs.size = cs.length ∧ ∀ j, j < cs.length → RV o w (at_ cs j) (vs.getD j Go.undef)
  | .row T k c xs => ∃ vs : Array Value, w.heap[b]? = some (.cells vs T (0, 0)) ∧ vs.size = c * k ∧ xs.length ≤ c ∧ c ≤ 9223372036854775807 ∧ (∀ i, i < xs.length → (xs.getD i []).length = k) ∧
      ∀ i j, i < xs.length → j < k → RV o w (at_ (xs.getD i []) j) (vs.getD (i * k + j) Go.undef) ∧ (vs.getD (i * k + j) Go.undef).oneCell' = true
  | .imap kn es pd => ∃ (en : Array MapEntry) (cl : Nat), w.heap[b]? = some (.map en cl) ∧ en.size = es.length ∧
      (∀ i, i < es.length → (en.getD i default).key = kval kn (es.getD i default).1 ∧ (es.getD i default).1.length = klen kn ∧ RV o w (es.getD i default).2 (en.getD i default).val) ∧
      (∀ i, i < es.length → (en.getD i default).born < cl) ∧ (∀ i j, i < es.length → j < es.length → (en.getD i default).born = (en.getD j default).born → i = j) ∧
      (∀ x i, pd = some (x, i) → i < es.length ∧ x = (en.getD i default).born)

/-- From a world to a later one: what is not owned is as it was. -/
structure Mv (o o' : Nat → Prop) (w w' : World) : Prop where
  os : w'.os = w.os
  tape : w'.tape = w.tape
  output : w'.output = w.output
  size : w.heap.size ≤ w'.heap.size
  block : ∀ b, b < w.heap.size → ¬ o b → w'.heap[b]? = w.heap[b]?
  grow : ∀ b, o' b → o b ∨ w.heap.size ≤ b

theorem Mv.refl (o : Nat → Prop) (w : World) : Mv o o w w := ⟨rfl, rfl, rfl, Nat.le_refl _, fun _ _ _ => rfl, fun _ h => .inl h⟩

theorem Mv.trans {o o1 o2 : Nat → Prop} {w w1 w2 : World} (h : Mv o o1 w w1) (k : Mv o1 o2 w1 w2) : Mv o o2 w w2 := by
  refine ⟨k.os.trans h.os, k.tape.trans h.tape, k.output.trans h.output, Nat.le_trans h.size k.size, fun b hb hn => ?_, fun b hb => ?_⟩
  · rw [k.block b (Nat.lt_of_lt_of_le hb h.size) fun h1 => ?_, h.block b hb hn]
    rcases h.grow b h1 with h2 | h2
    · exact hn h2
    · omega
  · rcases k.grow b hb with h1 | h1
    · exact h.grow b h1
    · exact .inr (Nat.le_trans h.size h1)

theorem Mv.cell {o o' : Nat → Prop} {w w' : World} (h : Mv o o' w w') {a : Addr} (ha : ¬ o a.block) (hb : a.block < w.heap.size) : w'.cell? a = w.cell? a :=
  World.cell?_of_block (h.block _ hb ha)

theorem add_block (a : Addr) (n : Nat) : (a.add n).block = a.block := by unfold Addr.add; split <;> rfl

theorem Mv.not {o o' : Nat → Prop} {w w' : World} (h : Mv o o' w w') {b : Nat} (ha : ¬ o b) (hb : b < w.heap.size) : ¬ o' b := fun h1 => by
  rcases h.grow b h1 with h2 | h2
  · exact ha h2
  · omega

theorem FV.mv {o o' : Nat → Prop} {w w' : World} (hm : Mv o o' w w') {a : AV} {v : Value} (h : FV o w a v) : FV o' w' a v := by
  induction h with
  | int k n => exact .int k n
  | bool b => exact .bool b
  | str s => exact .str s
  | nilp => exact .nilp
  | nilm => exact .nilm
  | emp a => exact .emp a
  | lst0 k get a c => exact .lst0 k get a c
  | lst k n get a c vf hn hnc hsp ha hb hc hl hv ih =>
    exact .lst k n get a c vf hn hnc hsp (hm.not ha hb) (Nat.lt_of_lt_of_le hb hm.size) (fun i j hi hj => by rw [hm.cell (by rwa [add_block]) (by rwa [add_block])]; exact hc i j hi hj) hl (fun i j hi hj => ih i j hi hj)
  | elm cs a vf hsp ha hb hc hv ih =>
    exact .elm cs a vf hsp (hm.not ha hb) (Nat.lt_of_lt_of_le hb hm.size) (fun j hj => by rw [hm.cell (by rwa [add_block]) (by rwa [add_block])]; exact hc j hj) (fun j hj => ih j hj)

theorem RV.mv {o o' : Nat → Prop} {w w' : World} (hm : Mv o o' w w') {a : AV} {v : Value} (h : RV o w a v) : RV o' w' a v := by
  induction h with
  | undef v => exact .undef v
  | fz a v h => exact .fz a v (h.mv hm)
  | ptr b o => exact .ptr b o
  | rptr b k i j => exact .rptr b k i j
  | slc b n c => exact .slc b n c
  | mp b => exact .mp b
  | agg cs vs hl h ih => exact .agg cs vs hl ih
  | tup cs vs hl h ih => exact .tup cs vs hl ih
  | fn f cs vs hl h ih => exact .fn f cs vs hl ih
  | whn g a v h h' ih => exact .whn g a v ih h'

theorem ObjR.mv {o o' : Nat → Prop} {w w' : World} (hm : Mv o o' w w') {b : Nat} (hb : w'.heap[b]? = w.heap[b]?) {x : AObj} (h : ObjR o w b x) : ObjR o' w' b x := by
  cases x with
  | box cs => obtain ⟨vs, T, h1, h2, h3⟩ := h; exact ⟨vs, T, hb.trans h1, h2, fun j hj => (h3 j hj).mv hm⟩
  | row T k c xs => obtain ⟨vs, h1, h2, h3, h3', h4, h5⟩ := h; exact ⟨vs, hb.trans h1, h2, h3, h3', h4, fun i j hi hj => ⟨(h5 i j hi hj).1.mv hm, (h5 i j hi hj).2⟩⟩
  | imap ag es pd => obtain ⟨en, cl, h1, h2, h3, h4, h5⟩ := h; exact ⟨en, cl, hb.trans h1, h2, fun i hi => ⟨(h3 i hi).1, (h3 i hi).2.1, (h3 i hi).2.2.mv hm⟩, h4, h5⟩

theorem ObjR.lt {o : Nat → Prop} {w : World} {b : Nat} {x : AObj} (h : ObjR o w b x) : b < w.heap.size := by
  have : ∃ y, w.heap[b]? = some y := by
    cases x with
    | box cs => obtain ⟨vs, T, h1, _⟩ := h; exact ⟨_, h1⟩
    | row T k c xs => obtain ⟨vs, h1, _⟩ := h; exact ⟨_, h1⟩
    | imap ag es pd => obtain ⟨en, cl, h1, _⟩ := h; exact ⟨_, h1⟩
  obtain ⟨y, hy⟩ := this
  exact (Array.getElem?_eq_some_iff.1 hy).1

/-- The store tells the world. -/
def St (s : Store) (w : World) : Prop := ∀ b x, s b = some x → ObjR (own s) w b x

theorem St.lt {s : Store} {w : World} (h : St s w) {b : Nat} (hb : own s b) : b < w.heap.size := by
  unfold own at hb
  cases hs : s b with
  | none => exact absurd hs hb
  | some x => exact (h b x hs).lt

/-- Slots, store and world. -/
structure Conf (n : Nat) (s : Store) (e : Env) (a : Act) (w : World) : Prop where
  sz : a.tmps.size = n
  st : St s w
  env : ∀ t, RV (own s) w (e t) (a.tmps.getD t Go.undef)
  df : a.defers = []

/-- What is asked behind a piece of code. -/
def post (n : Nat) (K : Exit → Env → Store → Prop) (s : Store) (w : World) : Exit → Act → World → Prop :=
  fun x a' w' => ∃ e' s', K x e' s' ∧ Conf n s' e' a' w' ∧ Mv (own s) (own s') w w'

def awp (P : Program) (n : Nat) (c : Code) (K : Exit → Env → Store → Prop) (e : Env) (s : Store) : Prop :=
  ∀ a w, Conf n s e a w → c.wp P (post n K s w) a w

theorem post_mono {K K' : Exit → Env → Store → Prop} (h : ∀ x e s, K x e s → K' x e s) {s : Store} {w : World} {x : Exit} {a : Act} {w' : World} {n : Nat} (hp : post n K s w x a w') : post n K' s w x a w' := by
  obtain ⟨e', s', h1, h2, h3⟩ := hp
  exact ⟨e', s', h _ _ _ h1, h2, h3⟩

theorem post_later {K : Exit → Env → Store → Prop} {s s1 : Store} {w w1 : World} (hm : Mv (own s) (own s1) w w1) {x : Exit} {a : Act} {w' : World} {n : Nat} (hp : post n K s1 w1 x a w') : post n K s w x a w' := by
  obtain ⟨e', s', h1, h2, h3⟩ := hp
  exact ⟨e', s', h1, h2, hm.trans h3⟩

theorem awp_mono {P : Program} {n : Nat} {c : Code} {K K' : Exit → Env → Store → Prop} {e : Env} {s : Store} (h : ∀ x e s, K x e s → K' x e s) (hc : awp P n c K e s) : awp P n c K' e s :=
  fun a w hf => wp_mono (hc a w hf) fun _ _ _ hp => post_mono h hp

/-- What follows in a sequence. -/
def sq (P : Program) (n : Nat) (b : Code) (K : Exit → Env → Store → Prop) : Exit → Env → Store → Prop
  | .normal, e, s => awp P n b K e s
  | x, e, s => K x e s
def blkK (id : Nat) (K : Exit → Env → Store → Prop) : Exit → Env → Store → Prop
  | .exit i, e, s => if i = id then K .normal e s else K (.exit i) e s
  | x, e, s => K x e s

theorem awp_skip {P : Program} {n : Nat} {K : Exit → Env → Store → Prop} {e : Env} {s : Store} (h : K .normal e s) : awp P n .skip K e s :=
  fun a w hf => wp_skip ⟨e, s, h, hf, Mv.refl _ _⟩
theorem awp_ret {P : Program} {n : Nat} {K : Exit → Env → Store → Prop} {e : Env} {s : Store} (h : K .ret e s) : awp P n .ret K e s :=
  fun a w hf => wp_ret ⟨e, s, h, hf, Mv.refl _ _⟩
theorem awp_exit {P : Program} {n : Nat} {id : Nat} {K : Exit → Env → Store → Prop} {e : Env} {s : Store} (h : K (.exit id) e s) : awp P n (.exit id) K e s :=
  fun a w hf => wp_exit ⟨e, s, h, hf, Mv.refl _ _⟩

theorem awp_seq {P : Program} {n : Nat} {x y : Code} {K : Exit → Env → Store → Prop} {e : Env} {s : Store} (h : awp P n x (sq P n y K) e s) : awp P n (.seq x y) K e s := by
  intro a w hf
  refine wp_seq (wp_mono (h a w hf) ?_)
  intro ex a1 w1 hp
  obtain ⟨e1, s1, h1, h2, h3⟩ := hp
  cases ex with
  | normal => exact wp_mono (h1 a1 w1 h2) fun _ _ _ hp => post_later h3 hp
  | exit id => exact ⟨e1, s1, h1, h2, h3⟩
  | goto l => exact ⟨e1, s1, h1, h2, h3⟩
  | ret => exact ⟨e1, s1, h1, h2, h3⟩
  | panic ch => exact ⟨e1, s1, h1, h2, h3⟩
  | outgrown => exact ⟨e1, s1, h1, h2, h3⟩

theorem awp_block {P : Program} {n : Nat} {id : Nat} {c : Code} {K : Exit → Env → Store → Prop} {e : Env} {s : Store} (h : awp P n c (blkK id K) e s) : awp P n (.block id c) K e s := by
  intro a w hf
  refine wp_block (wp_mono (h a w hf) ?_)
  intro ex a1 w1 hp
  obtain ⟨e1, s1, h1, h2, h3⟩ := hp
  cases ex with
  | normal => exact ⟨e1, s1, h1, h2, h3⟩
  | exit i =>
    show Exit.inBlock id _ (.exit i) a1 w1
    simp only [Exit.inBlock]
    simp only [blkK] at h1
    split
    · rename_i hi; rw [if_pos hi] at h1; exact ⟨e1, s1, h1, h2, h3⟩
    · rename_i hi; rw [if_neg hi] at h1; exact ⟨e1, s1, h1, h2, h3⟩
  | goto l => exact ⟨e1, s1, h1, h2, h3⟩
  | ret => exact ⟨e1, s1, h1, h2, h3⟩
  | panic ch => exact ⟨e1, s1, h1, h2, h3⟩
  | outgrown => exact ⟨e1, s1, h1, h2, h3⟩

/-- A loop: an invariant that bears a number, which every round lowers. -/
def lpK (I : Nat → Env → Store → Prop) (n : Nat) (K : Exit → Env → Store → Prop) : Exit → Env → Store → Prop
  | .normal, e, s => ∃ m, m < n ∧ I m e s
  | x, e, s => K x e s

theorem awp_loop {P : Program} {n : Nat} {c : Code} {K : Exit → Env → Store → Prop} {e : Env} {s : Store} (I : Nat → Env → Store → Prop) (m : Nat) (h0 : I m e s)
    (round : ∀ m e s, I m e s → awp P n c (lpK I m K) e s) : awp P n (.loop c) K e s := by
  intro a w hf
  refine wp_loop_ghost (fun m a' w' => ∃ e' s', I m e' s' ∧ Conf n s' e' a' w' ∧ Mv (own s) (own s') w w') m ⟨e, s, h0, hf, Mv.refl _ _⟩ ?_
  rintro m a1 w1 ⟨e1, s1, hI, hf1, hm1⟩
  refine wp_mono (round m e1 s1 hI a1 w1 hf1) ?_
  intro ex a2 w2 hp
  obtain ⟨e2, s2, h1, h2, h3⟩ := hp
  cases ex with
  | normal => obtain ⟨m', hm, hI2⟩ := h1; exact ⟨m', hm, e2, s2, hI2, h2, hm1.trans h3⟩
  | exit i => exact ⟨e2, s2, h1, h2, hm1.trans h3⟩
  | goto l => exact ⟨e2, s2, h1, h2, hm1.trans h3⟩
  | ret => exact ⟨e2, s2, h1, h2, hm1.trans h3⟩
  | panic ch => exact ⟨e2, s2, h1, h2, hm1.trans h3⟩
  | outgrown => exact ⟨e2, s2, h1, h2, hm1.trans h3⟩

/-! ### Contracts of functions -/
/-- Values of arguments. -/
def RVs (o : Nat → Prop) (w : World) (as : List AV) (vs : List Value) : Prop := vs.length = as.length ∧ ∀ j, j < as.length → RV o w (at_ as j) (vat vs j)

def ret (R : AV → Store → Prop) (s : Store) (w : World) : Ending → World → Prop :=
  fun en w' => ∃ v r s', en = .returned v ∧ R r s' ∧ St s' w' ∧ RV (own s') w' r v ∧ Mv (own s) (own s') w w'

/-- A call of f enters f's text. -/
def CallR (P : Program) (f : FuncId) : Prop := ∃ fn, P.funcs[f]? = some fn ∧ (fn.name == "runtime.NumGoroutine") = false ∧ fn.body.isNone = false

def AC (P : Program) (f : FuncId) (as : List AV) (s : Store) (R : AV → Store → Prop) : Prop :=
  CallR P f ∧ ∀ vs w, St s w → RVs (own s) w as vs → Calls P f vs.toArray w (ret R s w)

theorem AC_mono {P : Program} {f : FuncId} {as : List AV} {s : Store} {R R' : AV → Store → Prop} (h : ∀ r s, R r s → R' r s) (hc : AC P f as s R) : AC P f as s R' := by
  refine ⟨hc.1, fun vs w hs hv => (hc.2 vs w hs hv).mono ?_⟩
  rintro en w' ⟨v, r, s', h1, h2, h3⟩
  exact ⟨v, r, s', h1, h _ _ h2, h3⟩

/-- Where results lie. -/
inductive Res where
  | t (n : Nat)
  | cell (a : Nat) (ag : Bool) (k : Nat)

def resOne (e : Env) (s : Store) : Res → Option AV
  | .t n => some (e n)
  | .cell a ag k => match e a with
    | .ptr b 0 => match s b with
      | some (.box cs) => if cs.length = k then (if ag then some (.agg cs) else some (at_ cs 0)) else none
      | _ => none
    | _ => none

def resAll (e : Env) (s : Store) : List Res → Option (List AV)
  | [] => some []
  | r :: l => match resOne e s r with
    | some v => match resAll e s l with
      | some vs => some (v :: vs)
      | none => none
    | none => none

def resOf (e : Env) (s : Store) (l : List Res) : Option AV := match resAll e s l with
  | some [v] => some v
  | some vs => some (.tup vs)
  | none => none

def envOf (as : List AV) : Env := fun t => at_ as t

end Go.Proofs.Ytjoncejabdjekaa.L
