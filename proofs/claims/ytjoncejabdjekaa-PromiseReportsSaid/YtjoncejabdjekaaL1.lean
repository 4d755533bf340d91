/- An own program logic over the kit's walk, part 1: abstract operations. -/
import Derived.Test.YtjoncejabdjekaaL0
set_option linter.unusedVariables false
set_option linter.unusedSimpArgs false
namespace Go.Proofs.Ytjoncejabdjekaa.L
open Go

inductive Opd where
  | t (n : Nat)
  | c (a : AV)

/-- A value that is there only where a guard holds: what it is, and that the guard holds. -/
def AV.val : AV → AV
  | .whn _ v => v
  | v => v
def AV.df : AV → Prop
  | .whn g _ => g = true
  | _ => True

def opd (e : Env) : Opd → AV
  | .t n => e n
  | .c a => a

/-- The value of one cell. -/
def AV.one : AV → Bool
  | .int .. | .bool _ | .str _ | .nilp | .ptr .. | .rptr .. | .elm _ | .emp | .lst .. | .slc .. | .mp _ | .nilm | .fn .. => true
  | _ => false

def cellsOf : AV → List AV
  | .agg cs => cs
  | v => [v]

def splice (cs : List AV) (o : Nat) (vs : List AV) : List AV := cs.take o ++ (vs ++ cs.drop (o + vs.length))

def upd (s : Store) (b : Nat) (x : AObj) : Store := fun c => if c = b then some x else s c
def del (s : Store) (b : Nat) : Store := fun c => if c = b then none else s c
def Env.set (e : Env) (d : Nat) (v : AV) : Env := fun t => if t = d then v else e t
def Env.put (e : Env) (d : Option Nat) (v : AV) : Env := match d with
  | some d => Env.set e d v
  | none => e

structure Spec where
  pre : List AV → Store → Prop
  val : List AV → Store → AV
abbrev Tbl := List (FuncId × Spec)
def Tbl.get : Tbl → FuncId → Option Spec
  | [], _ => none
  | (g, sp) :: l, f => if g = f then some sp else Tbl.get l f

/-- Operations. `ex`: a sum that fits. `fr`: the load may come ahead of or behind a write of the same region. -/
inductive AOp where
  | mov (x : Opd)
  | bin (ex : Bool) (op : BinOp) (x y : Opd)
  | eqs (ne : Bool) (n : Nat) (x y : Opd)
  | unot (x : Opd)
  | uneg (x : Opd)
  | pick (c a b : Opd)
  | nilc (x : Opd)
  | fld (x : Opd) (off : Nat)
  | ld1 (x : Opd) (fr : Bool)
  | ldn (x : Opd) (n : Nat) (fr : Bool)
  | fldv (x : Opd) (off : Nat) (n : Nat) (ag : Bool)
  | idx (x i : Opd) (n : Nat)
  | idxs (x i : Opd)
  | len (x : Opd)
  | lens (x : Opd)
  | mnx (mx : Bool) (x y : Opd)
  | ext (x : Opd) (i : Nat)
  | bld (z : List AV) (ps : List (Nat × Nat × Opd))
  | mkf (f : FuncId) (caps : List Opd)
  | cvt (k : IntKind) (x : Opd)
  | sl (x : Opd) (lo hi : Option Opd) (n : Nat)
  | sls (x : Opd) (lo hi : Option Opd)
  | call (f : FuncId) (xs : List Opd)
  | callv (f : Opd) (xs : List Opd)
  | bsl (k : Nat) (xs : List Opd)
  | lkp (kn : Nat) (ok : Bool) (z : AV) (m key : Opd) (fr : Bool)
  | lenm (m : Opd) (fr : Bool)
  -- from here on: they turn the store
  | alc (z : List AV)
  | box (x : Opd)
  | sto (p v : Opd) (n : Nat)
  | mkm (kn T : Nat)
  | mks (T k by_ : Nat) (z : List AV) (n : Opd)
  | bsr (T k : Nat) (xs : List Opd)
  | app (T k by_ : Nat) (x y : Opd)
  | mup (kn : Nat) (m key v : Opd)
  | men (kn : Nat) (z : AV) (m key : Opd)
  | ens (m st v : Opd)
  | isn (ne : Bool) (x : Opd)
  | xcall (f : FuncId) (xs : List Opd)
  | xcallv (f : Opd) (xs : List Opd)

structure AOper where
  dst : Option Nat
  op : AOp
  grd : Option (Nat × Bool)

def okk (k : IntKind) (n : Int) : Prop := k.wrap n = n

/-- A sum. -/
def arith (ex : Bool) (k : IntKind) (n : Int) (K : AV → Prop → Prop) : Prop :=
  match ex with
  | true => K (.int k n) (okk k n)
  | false => K (.int k (k.wrap n)) True

def band (k : IntKind) (a b : Int) : Int := k.wrap (BitVec.ofInt k.bits a &&& BitVec.ofInt k.bits b).toNat

def binv (ex : Bool) (op : BinOp) (a b : AV) (K : AV → Prop → Prop) : Prop :=
  match op, a, b with
  | .add, .int k a, .int k' b => k = k' ∧ arith ex k (a + b) K
  | .sub, .int k a, .int k' b => k = k' ∧ arith ex k (a - b) K
  | .mul, .int k a, .int k' b => k = k' ∧ arith ex k (a * b) K
  | .quo, .int k a, .int k' b => k = k' ∧ K (.int k (a.tdiv b)) (b ≠ 0 ∧ okk k (a.tdiv b))
  | .rem, .int k a, .int k' b => k = k' ∧ K (.int k (a.tmod b)) (b ≠ 0)
  | .and, .int k a, .int k' b => k = k' ∧ K (.int k (band k a b)) True
  | .shl, .int k a, .int _ b => K (.int k (k.wrap (a * 2 ^ (min b.toNat k.bits)))) (0 ≤ b)
  | .shr, .int k a, .int _ b => K (.int k (a.fdiv (2 ^ (min b.toNat k.bits)))) (0 ≤ b)
  | .eql, .int k a, .int k' b => k = k' ∧ K (.bool (decide (a = b))) True
  | .neq, .int k a, .int k' b => k = k' ∧ K (.bool (!decide (a = b))) True
  | .lss, .int k a, .int k' b => k = k' ∧ K (.bool (decide (a < b))) True
  | .leq, .int k a, .int k' b => k = k' ∧ K (.bool (decide (a ≤ b))) True
  | .gtr, .int k a, .int k' b => k = k' ∧ K (.bool (decide (b < a))) True
  | .geq, .int k a, .int k' b => k = k' ∧ K (.bool (decide (b ≤ a))) True
  | .add, .str a, .str b => K (.str (a ++ b)) (a.size + b.size ≤ 9223372036854775807)
  | .eql, .str a, .str b => K (.bool (a.toList == b.toList)) True
  | .neq, .str a, .str b => K (.bool (!(a.toList == b.toList))) True
  | .lss, .str a, .str b => K (.bool (Op.bytesLess a.toList b.toList)) True
  | _, _, _ => False

/-- Equality of structs of whole numbers. -/
def eqInts : List AV → List AV → Bool → (Bool → Prop) → Prop
  | [], [], acc, K => K acc
  | .int k a :: l, .int k' b :: l', acc, K => k = .i64 ∧ k' = .i64 ∧ eqInts l l' (acc && decide (a = b)) K
  | _, _, _, _ => False

def pickv (g : Bool) (a b : AV) (K : AV → Prop) : Prop :=
  match a, b with
  | .bool x, .bool y => K (.bool (cond g x y))
  | .int k x, .int k' y => k = k' ∧ K (.int k (cond g x y))
  | _, _ => False

def fillA : List AV → List (Nat × AV) → List AV
  | z, [] => z
  | z, (o, v) :: l => fillA (splice z o (cellsOf v)) l

/-- The key of a map. -/
def intsOf : List AV → Option (List Int)
  | [] => some []
  | .int .i64 n :: l => match intsOf l with
    | some r => some (n :: r)
    | none => none
  | _ :: _ => none

def keyOf (kn : Nat) (v : AV) (K : List Int → Prop) : Prop :=
  match kn, v with
  | 0, .int .i64 n => K [n]
  | m + 1, .agg cs => match intsOf cs with
    | some l => l.length = m + 1 ∧ K l
    | none => False
  | _, _ => False

def mget (es : List (List Int × AV)) (k : List Int) : Option AV := (es.find? fun x => decide (x.1 = k)).map (·.2)
def mput : List (List Int × AV) → List Int → AV → List (List Int × AV)
  | [], k, v => [(k, v)]
  | (k', u) :: l, k, v => if k' = k then (k, v) :: l else (k', u) :: mput l k v
def midx (es : List (List Int × AV)) (k : List Int) : Nat := es.findIdx fun x => decide (x.1 = k)

/-- Cells of memory that stays: nothing that can be written hangs on them. -/
def AV.frz : AV → Bool
  | .int .. | .bool _ | .str _ | .nilp | .elm _ | .emp | .lst .. | .nilm => true
  | _ => false

def rowok (p : AV → Bool) (k : Nat) : List AV → Prop
  | [] => True
  | v :: l => (cellsOf v).length = k ∧ (cellsOf v).all p = true ∧ rowok p k l

/-- The elements of a slice that is appended. -/
def elems (k : Nat) (s : Store) (v : AV) (K : List (List AV) → Prop) : Prop :=
  match v with
  | .emp => K []
  | .lst k' n get => k' = k ∧ K ((List.range n).map get)
  | .slc b n c => match s b with
    | some (.row T k' c' xs) => k' = k ∧ c' = c ∧ n = xs.length ∧ K xs
    | _ => False
  | _ => False

def vals (ρ : Opd → AV) (xs : List Opd) : List AV := xs.map fun x => (ρ x).val
def dfs (ρ : Opd → AV) : List Opd → Prop
  | [] => True
  | x :: l => (ρ x).df ∧ dfs ρ l

/-- The parts of a struct that is built: where, how many cells, what. -/
def pvals (ρ : Opd → AV) : List (Nat × Nat × Opd) → List (Nat × AV)
  | [] => []
  | (o, _, x) :: l => (o, (ρ x).val) :: pvals ρ l
def pok (ρ : Opd → AV) : List (Nat × Nat × Opd) → Prop
  | [] => True
  | (_, n, x) :: l => (ρ x).df ∧ (cellsOf (ρ x).val).length = n ∧ (cellsOf (ρ x).val).all AV.one = true ∧ pok ρ l

def lo_ (ρ : Opd → AV) (d : Int) (x : Option Opd) (K : Int → Prop → Prop) : Prop :=
  match x with
  | none => K d True
  | some x => match (ρ x).val with
    | .int _ n => K n (ρ x).df
    | _ => False

/-- A part of a slice that is not written. -/
def cutA (k n : Nat) (get : Nat → List AV) (lo m : Nat) : AV := .lst k (min m (n - lo)) (fun i => if i < m then get (lo + i) else get n)

/-- Operations that leave the store as it is: the value, and what must hold. -/
def nop (T : Tbl) (R : Nat → Prop) (o : AOp) (ρ : Opd → AV) (s : Store) (K : AV → Prop → Prop) : Prop :=
  match o with
  | .mov x => K (ρ x).val (ρ x).df
  | .bin ex op x y => binv ex op (ρ x).val (ρ y).val fun v p => K v ((ρ x).df ∧ (ρ y).df ∧ p)
  | .eqs ne n x y => match (ρ x).val, (ρ y).val with
    | .agg cs, .agg ds => cs.length = n ∧ eqInts cs ds true fun b => K (.bool (if ne then !b else b)) ((ρ x).df ∧ (ρ y).df)
    | _, _ => False
  | .unot x => match (ρ x).val with
    | .bool b => K (.bool (!b)) (ρ x).df
    | _ => False
  | .uneg x => match (ρ x).val with
    | .int k n => K (.int k (0 - n)) ((ρ x).df ∧ okk k (0 - n))
    | _ => False
  | .pick c a b => match (ρ c).val with
    | .bool g => K (cond g (ρ a).val (ρ b).val) ((ρ c).df ∧ (g = true → (ρ a).df) ∧ (g = false → (ρ b).df))
    | _ => False
  | .nilc x => match (ρ x).val with
    | .ptr b o => K (.ptr b o) (ρ x).df
    | .rptr b k i j => K (.rptr b k i j) (ρ x).df
    | .elm cs => K (.elm cs) (ρ x).df
    | _ => False
  | .fld x off => match (ρ x).val with
    | .ptr b o => K (.ptr b (o + off)) (ρ x).df
    | .rptr b k i j => K (.rptr b k i (j + off)) (ρ x).df
    | .elm cs => K (.elm (cs.drop off)) (ρ x).df
    | _ => False
  | .ld1 x fr => match (ρ x).val with
    | .elm cs => K (at_ cs 0) ((ρ x).df ∧ 1 ≤ cs.length)
    | .ptr b o => match s b with
      | some (.box cs) => K (at_ cs o) ((ρ x).df ∧ o + 1 ≤ cs.length ∧ (fr = true → R b))
      | _ => False
    | .rptr b k i j => match s b with
      | some (.row _ k' _ xs) => k = k' ∧ K (at_ (xs.getD i []) j) ((ρ x).df ∧ i < xs.length ∧ j + 1 ≤ k ∧ (fr = true → R b))
      | _ => False
    | _ => False
  | .ldn x n fr => match (ρ x).val with
    | .elm cs => K (.agg (cs.take n)) ((ρ x).df ∧ n ≤ cs.length)
    | .ptr b o => match s b with
      | some (.box cs) => K (.agg ((cs.drop o).take n)) ((ρ x).df ∧ o + n ≤ cs.length ∧ (fr = true → R b))
      | _ => False
    | .rptr b k i j => match s b with
      | some (.row _ k' _ xs) => k = k' ∧ K (.agg (((xs.getD i []).drop j).take n)) ((ρ x).df ∧ i < xs.length ∧ j + n ≤ k ∧ (fr = true → R b))
      | _ => False
    | _ => False
  | .fldv x off n ag => match (ρ x).val with
    | .agg cs => K (if ag then .agg ((cs.drop off).take n) else at_ cs off) ((ρ x).df ∧ off + n ≤ cs.length)
    | _ => False
  | .idx x i n => match (ρ x).val, (ρ i).val with
    | .lst k l get, .int _ z => k = n ∧ K (.elm (get z.toNat)) ((ρ x).df ∧ (ρ i).df ∧ 0 ≤ z ∧ z < l)
    | .slc b l _, .int _ z => K (.rptr b n z.toNat 0) ((ρ x).df ∧ (ρ i).df ∧ 0 ≤ z ∧ z < l)
    | _, _ => False
  | .idxs x i => match (ρ x).val, (ρ i).val with
    | .str t, .int _ z => K (.int .u8 (t.toList.getD z.toNat 0).toNat) ((ρ x).df ∧ (ρ i).df ∧ 0 ≤ z ∧ z < t.size)
    | _, _ => False
  | .len x => match (ρ x).val with
    | .lst _ n _ => K (.int .i64 n) (ρ x).df
    | .slc _ n _ => K (.int .i64 n) (ρ x).df
    | .emp => K (.int .i64 0) (ρ x).df
    | _ => False
  | .lens x => match (ρ x).val with
    | .str t => K (.int .i64 t.size) (ρ x).df
    | _ => False
  | .mnx mx x y => match (ρ x).val, (ρ y).val with
    | .int k a, .int k' b => k = k' ∧ K (.int k (if mx then max a b else min a b)) ((ρ x).df ∧ (ρ y).df)
    | _, _ => False
  | .ext x i => match (ρ x).val with
    | .tup vs => K (at_ vs i) ((ρ x).df ∧ i < vs.length)
    | _ => False
  | .bld z ps => K (.agg (fillA z (pvals ρ ps))) (pok ρ ps)
  | .mkf f caps => K (.fn f (vals ρ caps)) (dfs ρ caps)
  | .cvt k x => match (ρ x).val with
    | .int _ n => K (.int k n) ((ρ x).df ∧ okk k n)
    | _ => False
  | .sl x lo hi m => match (ρ x).val with
    | .lst k n get => k = m ∧ lo_ ρ 0 lo fun l p => lo_ ρ n hi fun h q => K (cutA k n get l.toNat (h - l).toNat) ((ρ x).df ∧ p ∧ q ∧ 0 ≤ l ∧ l ≤ h ∧ h ≤ n)
    | .emp => lo_ ρ 0 lo fun l p => lo_ ρ (0 : Nat) hi fun h q => K (cutA m 0 (fun _ => []) l.toNat (h - l).toNat) ((ρ x).df ∧ p ∧ q ∧ 0 ≤ l ∧ l ≤ h ∧ h ≤ (0 : Nat))
    | _ => False
  | .sls x lo hi => match (ρ x).val with
    | .str t => lo_ ρ 0 lo fun l p => lo_ ρ t.size hi fun h q => K (.str (t.extract l.toNat h.toNat)) ((ρ x).df ∧ p ∧ q ∧ 0 ≤ l ∧ l ≤ h ∧ h ≤ t.size)
    | _ => False
  | .call f xs => match Tbl.get T f with
    | some sp => K (sp.val (vals ρ xs) s) (dfs ρ xs ∧ sp.pre (vals ρ xs) s)
    | none => False
  | .callv f xs => match (ρ f).val with
    | .fn f' caps => match Tbl.get T f' with
      | some sp => K (sp.val (vals ρ xs ++ caps) s) ((ρ f).df ∧ dfs ρ xs ∧ sp.pre (vals ρ xs ++ caps) s)
      | none => False
    | _ => False
  | .bsl k xs => K (if xs.length = 0 then .emp else .lst k xs.length (fun i => cellsOf (at_ (vals ρ xs) i))) (dfs ρ xs ∧ rowok AV.frz k (vals ρ xs))
  | .lkp ag ok z m key fr => match (ρ m).val with
    | .mp b => match s b with
      | some (.imap ag' es _) => ag = ag' ∧ keyOf ag (ρ key).val fun k =>
          K (if ok then .tup [(mget es k).getD z, .bool (mget es k).isSome] else (mget es k).getD z) ((ρ m).df ∧ (ρ key).df ∧ (fr = true → R b))
      | _ => False
    | _ => False
  | .lenm m fr => match (ρ m).val with
    | .mp b => match s b with
      | some (.imap _ es _) => K (.int .i64 es.length) ((ρ m).df ∧ (fr = true → R b))
      | _ => False
    | _ => False
  | _ => False

/-- Is a slice nil? Of an empty one nobody knows. -/
def isnA (v : AV) (K : Bool → Prop) : Prop := match v with
  | .lst _ n _ => ∀ b, (b = true → n = 0) → K b
  | .emp => ∀ b, K b
  | .slc .. => K false
  | _ => False

/-- Operations that turn the store. -/
def eff (P : Program) (R : Nat → Prop) (o : AOp) (ρ : Opd → AV) (s : Store) (K : AV → Store → Prop) : Prop :=
  match o with
  | .alc z => ∀ b, s b = none → ¬ R b → K (.ptr b 0) (upd s b (.box z))
  | .box x => (ρ x).df ∧ (cellsOf (ρ x).val).all AV.one = true ∧ ∀ b, s b = none → ¬ R b → K (.ptr b 0) (upd s b (.box (cellsOf (ρ x).val)))
  | .sto p v n => (ρ p).df ∧ (ρ v).df ∧ (cellsOf (ρ v).val).length = n ∧ (cellsOf (ρ v).val).all AV.one = true ∧ match (ρ p).val with
    | .ptr b o => match s b with
      | some (.box cs) => ¬ R b ∧ o + n ≤ cs.length ∧ K .undef (upd s b (.box (splice cs o (cellsOf (ρ v).val))))
      | _ => False
    | .rptr b k i j => match s b with
      | some (.row T k' c xs) => k = k' ∧ ¬ R b ∧ i < xs.length ∧ j + n ≤ k ∧ K .undef (upd s b (.row T k c (xs.set i (splice (xs.getD i []) j (cellsOf (ρ v).val)))))
      | _ => False
    | _ => False
  | .mkm ag _ => ∀ b, s b = none → ¬ R b → K (.mp b) (upd s b (.imap ag [] none))
  | .mks T k by_ z n => (ρ n).df ∧ match (ρ n).val with
    | .int _ m => 0 ≤ m ∧ by_ * m ≤ 140737488355328 ∧ ∀ b, s b = none → ¬ R b → K (.slc b m.toNat m.toNat) (upd s b (.row T k m.toNat (List.replicate m.toNat z)))
    | _ => False
  | .bsr T k xs => dfs ρ xs ∧ rowok AV.one k (vals ρ xs) ∧ ∀ b, s b = none → ¬ R b → K (.slc b xs.length xs.length) (upd s b (.row T k xs.length ((vals ρ xs).map cellsOf)))
  | .app T k by_ x y => (ρ x).df ∧ (ρ y).df ∧ elems k s (ρ y).val fun ys => match (ρ x).val with
    | .emp => by_ * ys.length ≤ 140737488355328 ∧ (ys.length = 0 → K .emp s) ∧
        (0 < ys.length → ∀ b c, s b = none → ¬ R b → ys.length ≤ c → K (.slc b ys.length c) (upd s b (.row T k c ys)))
    | .slc b n c => match s b with
      | some (.row T' k' c' xs) => T' = T ∧ k' = k ∧ c' = c ∧ n = xs.length ∧ ¬ R b ∧ by_ * (n + ys.length) ≤ 140737488355328 ∧
          ∀ b' c'', (del s b) b' = none → ¬ R b' → n + ys.length ≤ c'' → K (.slc b' (n + ys.length) c'') (upd (del s b) b' (.row T k c'' (xs ++ ys)))
      | _ => False
    | _ => False
  | .mup ag m key v => (ρ m).df ∧ (ρ key).df ∧ (ρ v).df ∧ match (ρ m).val with
    | .mp b => match s b with
      | some (.imap ag' es _) => ag = ag' ∧ ¬ R b ∧ keyOf ag (ρ key).val fun k => K .undef (upd s b (.imap ag (mput es k (ρ v).val) none))
      | _ => False
    | _ => False
  | .men ag z m key => (ρ m).df ∧ (ρ key).df ∧ match (ρ m).val with
    | .mp b => match s b with
      | some (.imap ag' es _) => ag = ag' ∧ ¬ R b ∧ keyOf ag (ρ key).val fun k => ∀ st : Int,
          K (.tup [(mget es k).getD z, .int .i64 st]) (upd s b (.imap ag (mput es k ((mget es k).getD z)) (some (st, midx es k))))
      | _ => False
    | _ => False
  | .ens m st v => (ρ m).df ∧ (ρ st).df ∧ (ρ v).df ∧ match (ρ m).val, (ρ st).val with
    | .mp b, .int _ x => match s b with
      | some (.imap ag es (some (y, i))) => x = y ∧ ¬ R b ∧ K .undef (upd s b (.imap ag (es.set i ((es.getD i default).1, (ρ v).val)) none))
      | _ => False
    | _, _ => False
  | .isn ne x => (ρ x).df ∧ isnA (ρ x).val fun b => K (.bool (if ne then !b else b)) s
  | .xcall f xs => dfs ρ xs ∧ AC P f (vals ρ xs) s fun r s' => (∀ b, R b → s' b = s b) ∧ K r s'
  | .xcallv f xs => (ρ f).df ∧ dfs ρ xs ∧ match (ρ f).val with
    | .fn f' caps => AC P f' (vals ρ xs ++ caps) s fun r s' => (∀ b, R b → s' b = s b) ∧ K r s'
    | _ => False
  | _ => False

def isEff : AOp → Bool
  | .alc _ | .box _ | .sto .. | .mkm .. | .mks .. | .bsr .. | .app .. | .mup .. | .men .. | .ens .. | .isn .. | .xcall .. | .xcallv .. => true
  | _ => false

def gb (want c : Bool) : Bool := match want with
  | true => c
  | false => !c

/-- Is the guard's answer known, and is it the wanted one? A guard that was itself left out wants nothing. -/
def grdOf (want : Bool) : AV → Option Bool
  | .bool c => some (gb want c)
  | .whn false _ => some false
  | .whn true (.bool c) => some (gb want c)
  | _ => none

/-- One operation. -/
def xo (P : Program) (T : Tbl) (R : Nat → Prop) (o : AOper) (K : Env → Store → Prop) (e : Env) (s : Store) : Prop :=
  match o.grd with
  | none => match isEff o.op with
    | true => eff P R o.op (opd e) s fun r s' => K (Env.put e o.dst r) s'
    | false => nop T R o.op (opd e) s fun v ob => ob ∧ K (Env.put e o.dst v) s
  | some (g, want) => match grdOf want (e g) with
    | some c => match isEff o.op with
      | true => (c = true → eff P R o.op (opd e) s fun r s' => K (Env.put e o.dst r) s') ∧ (c = false → K (Env.put e o.dst .undef) s)
      | false => match c with
        | true => nop T R o.op (opd e) s fun v ob => ob ∧ K (Env.put e o.dst (.whn true v)) s
        | false => K (Env.put e o.dst (.whn false .undef)) s
    | none => False

def xr (P : Program) (T : Tbl) (R : Nat → Prop) : List AOper → (Env → Store → Prop) → Env → Store → Prop
  | [], K, e, s => K e s
  | o :: l, K, e, s => xo P T R o (fun e' s' => xr P T R l K e' s') e s

end Go.Proofs.Ytjoncejabdjekaa.L
