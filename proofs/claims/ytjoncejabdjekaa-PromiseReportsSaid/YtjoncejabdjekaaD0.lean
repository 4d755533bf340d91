/- Abstract code as a function over typed values, part 0: values, states, operations. -/
import Derived.Test.YtjoncejabdjekaaL19
set_option linter.unusedVariables false
set_option linter.unusedSimpArgs false
namespace Go.Proofs.Ytjoncejabdjekaa.D
open Go Go.Proofs.Ytjoncejabdjekaa.L

/-- Types of values that nobody writes (`es`: a map's entries). -/
inductive Ty where
  | int (k : IntKind)
  | bool
  | str
  | sl (t : Ty)
  | pair (a b : Ty)
  | es (t : Ty)
deriving DecidableEq
@[reducible] def Ty.den : Ty → Type
  | .int _ => Int
  | .bool => Bool
  | .str => ByteArray
  | .sl t => List t.den
  | .pair a b => a.den × b.den
  | .es t => List (List Int × t.den)
def Ty.zero : (t : Ty) → t.den
  | .int _ => (0 : Int)
  | .bool => false
  | .str => ByteArray.empty
  | .sl _ => []
  | .pair a b => (a.zero, b.zero)
  | .es _ => []
def Ty.w : Ty → Nat
  | .pair a b => a.w + b.w
  | _ => 1
structure Leaf where
  t : Ty
  x : t.den
@[reducible] def dens : List Ty → Type
  | [] => Unit
  | [t] => t.den
  | t :: u :: ts => t.den × dens (u :: ts)
def ofDens : (ts : List Ty) → dens ts → List Leaf
  | [], _ => []
  | [t], x => [⟨t, x⟩]
  | t :: u :: ts, x => ⟨t, x.1⟩ :: ofDens (u :: ts) x.2
def castL (t t' : Ty) (x : t'.den) : Option t.den := if h : t' = t then some (h ▸ x) else none
def toDens : (ts : List Ty) → List Leaf → Option (dens ts)
  | [], [] => some ()
  | [t], [l] => castL t l.t l.x
  | t :: u :: ts, l :: ls => match castL t l.t l.x with
    | some x => match toDens (u :: ts) ls with
      | some r => some (x, r)
      | none => none
    | none => none
  | _, _ => none

inductive DV where
  | undef
  | v (x : Leaf)
  | emp
  | nilp
  | nilm
  | agg (cs : List DV)
  | tup (vs : List DV)
  | elm (cs : List DV)
  | ptr (b o : Nat)
  | rptr (b k i j : Nat)
  | slc (b : Nat)
  | mp (b : Nat)
  | stk (b : Nat)
  | fn (f : Nat) (cs : List DV)
  | whn (g : Bool) (d : DV)
instance : Inhabited DV := ⟨.undef⟩
inductive DObj where
  | box (cs : List DV)
  | row (T : Nat) (t : Ty) (l : List t.den)
  | imap (kn : Nat) (ag : Bool) (t : Ty) (es : List (List Int × t.den)) (pd : Option (Nat × List Int × t.den))

def rep {α : Type} : List (Nat × α) → Nat → α → List (Nat × α)
  | [], b, o => [(b, o)]
  | (c, p) :: l, b, o => bif Nat.beq c b then (b, o) :: l else (c, p) :: rep l b o
def fnd {α : Type} : List (Nat × α) → Nat → Option α
  | [], _ => none
  | (c, p) :: l, b => bif Nat.beq c b then some p else fnd l b
def rmv {α : Type} : List (Nat × α) → Nat → List (Nat × α)
  | [], _ => []
  | (c, p) :: l, b => bif Nat.beq c b then rmv l b else (c, p) :: rmv l b
abbrev DEnv := List (Nat × DV)
structure DSt where
  nx : Nat
  m : List (Nat × DObj)
def DEnv.get (e : DEnv) (t : Nat) : DV := match fnd e t with
  | some d => d
  | none => .undef
def DEnv.put (e : DEnv) (d : Option Nat) (v : DV) : DEnv := match d with
  | some d => rep e d v
  | none => e
def DSt.get (S : DSt) (b : Nat) : Option DObj := fnd S.m b
def DSt.set (S : DSt) (b : Nat) (o : DObj) : DSt := ⟨S.nx, rep S.m b o⟩
def DSt.del (S : DSt) (b : Nat) : DSt := ⟨S.nx, rmv S.m b⟩
def DSt.new (S : DSt) (o : DObj) : DSt := ⟨S.nx + 1, rep S.m S.nx o⟩
def DSt.tick (S : DSt) : DSt := ⟨S.nx + 1, S.m⟩

def chk {α : Type} (b : Bool) (k : Option α) : Option α := bif b then k else none
def chks {α : Type} : List Bool → Option α → Option α
  | [], k => k
  | b :: l, k => chk b (chks l k)

def mkI (k : IntKind) (n : Int) : DV := .v ⟨.int k, n⟩
def mkB (b : Bool) : DV := .v ⟨.bool, b⟩
def mkS (s : ByteArray) : DV := .v ⟨.str, s⟩
def mkL (t : Ty) (l : List t.den) : DV := .v ⟨.sl t, l⟩
def ival : DV → Option (IntKind × Int)
  | .v ⟨.int k, n⟩ => some (k, n)
  | _ => none
def bval : DV → Option Bool
  | .v ⟨.bool, b⟩ => some b
  | _ => none
def sval : DV → Option ByteArray
  | .v ⟨.str, s⟩ => some s
  | _ => none
def lval : DV → Option ((t : Ty) × List t.den)
  | .v ⟨.sl t, l⟩ => some ⟨t, l⟩
  | _ => none
def DV.val : DV → DV
  | .whn _ d => d
  | d => d
def DV.df : DV → List Bool
  | .undef => [false]
  | .whn g _ => [g]
  | _ => []
def dcells : DV → List DV
  | .agg cs => cs
  | d => [d]
def oneT : Ty → Bool
  | .int _ | .bool | .str | .sl _ => true
  | _ => false
def DV.one : DV → Bool
  | .v x => oneT x.t
  | .emp | .nilp | .nilm | .elm _ | .ptr .. | .rptr .. | .slc _ | .mp _ | .fn .. => true
  | _ => false
def const1 : AV → DV
  | .int k n => mkI k n
  | .bool b => mkB b
  | .str s => mkS s
  | .nilp => .nilp
  | .nilm => .nilm
  | .emp => .emp
  | .fn f [] => .fn f []
  | _ => .undef
def constD : AV → DV
  | .agg cs => .agg (cs.map const1)
  | a => const1 a
def opdD (e : DEnv) : Opd → DV
  | .t n => e.get n
  | .c a => constD a

def cellsD : (t : Ty) → t.den → List DV
  | .pair a b, x => cellsD a x.1 ++ cellsD b x.2
  | .es _, _ => [.undef]
  | t, x => [.v ⟨t, x⟩]
/-- One cell of a type; `S`: rows may be looked at as if nobody wrote them. -/
def dec1 (S : Option DSt) (t : Ty) (d : DV) : Option t.den := match d with
  | .v ⟨t', x⟩ => if h : t' = t then some (h ▸ x) else none
  | .emp => match t with
    | .sl _ => some []
    | _ => none
  | .slc b => match S, t with
    | some S, .sl t => match S.get b with
      | some (.row _ t' l) => if h : t' = t then some (h ▸ l) else none
      | _ => none
    | _, _ => none
  | _ => none
def dec (S : Option DSt) : (t : Ty) → List DV → Option (t.den × List DV)
  | .pair a b, ds => match dec S a ds with
    | some (x, ds) => match dec S b ds with
      | some (y, ds) => some ((x, y), ds)
      | none => none
    | none => none
  | .es _, _ => none
  | t, d :: ds => match dec1 S t d with
    | some x => some (x, ds)
    | none => none
  | _, [] => none
def decAll (S : Option DSt) (t : Ty) (ds : List DV) : Option t.den := match dec S t ds with
  | some (x, []) => some x
  | _ => none

def fits (k : IntKind) (n : Int) : Bool := decide (k.wrap n = n)
def inR (i : Int) (n : Nat) : Bool := decide (0 ≤ i) && decide (i < n)
def capOk (by_ n : Nat) : Bool := decide (by_ * n ≤ 140737488355328)
def at0 (t : Ty) (l : List t.den) (i : Nat) : t.den := l.getD i t.zero
def ikeq (k k' : IntKind) : Bool := decide (k = k')

def darith (ex : Bool) (k : IntKind) (n : Int) : DV × List Bool := match ex with
  | true => (mkI k n, [fits k n])
  | false => (mkI k (k.wrap n), [])
def dbinI (ex : Bool) (op : BinOp) (k k' : IntKind) (a b : Int) : Option (DV × List Bool) := match op with
  | .shl => some (mkI k (k.wrap (a * 2 ^ (min b.toNat k.bits))), [decide (0 ≤ b)])
  | .shr => some (mkI k (a.fdiv (2 ^ (min b.toNat k.bits))), [decide (0 ≤ b)])
  | op => bif ikeq k k' then (match op with
    | .add => some (darith ex k (a + b))
    | .sub => some (darith ex k (a - b))
    | .mul => some (darith ex k (a * b))
    | .quo => some (mkI k (a.tdiv b), [decide (b ≠ 0), fits k (a.tdiv b)])
    | .rem => some (mkI k (a.tmod b), [decide (b ≠ 0)])
    | .and => some (mkI k (band k a b), [])
    | .eql => some (mkB (decide (a = b)), [])
    | .neq => some (mkB (!decide (a = b)), [])
    | .lss => some (mkB (decide (a < b)), [])
    | .leq => some (mkB (decide (a ≤ b)), [])
    | .gtr => some (mkB (decide (b < a)), [])
    | .geq => some (mkB (decide (b ≤ a)), [])
    | _ => none) else none
def dbinS (op : BinOp) (a b : ByteArray) : Option (DV × List Bool) := match op with
  | .add => some (mkS (a ++ b), [decide (a.size + b.size ≤ 9223372036854775807)])
  | .eql => some (mkB (a.toList == b.toList), [])
  | .neq => some (mkB (!(a.toList == b.toList)), [])
  | .lss => some (mkB (Op.bytesLess a.toList b.toList), [])
  | _ => none
def dbin (ex : Bool) (op : BinOp) (a b : DV) : Option (DV × List Bool) := match ival a, ival b with
  | some (k, x), some (k', y) => dbinI ex op k k' x y
  | _, _ => match sval a, sval b with
    | some x, some y => dbinS op x y
    | _, _ => none
def eqI : List DV → List DV → Bool → Option Bool
  | [], [], acc => some acc
  | a :: l, b :: l', acc => match ival a, ival b with
    | some (.i64, x), some (.i64, y) => eqI l l' (acc && decide (x = y))
    | _, _ => none
  | _, _, _ => none
def frOk (fr : Bool) (RD : List Nat) (b : Nat) : Bool := match fr with
  | false => true
  | true => RD.any (Nat.beq b)
def leb (a b : Nat) : Bool := Nat.ble a b
/-- Some cells behind a pointer. -/
def ldCells (S : DSt) (RD : List Nat) (fr : Bool) : DV → Option (List DV)
  | .elm cs => some cs
  | .ptr b o => match S.get b with
    | some (.box cs) => bif frOk fr RD b && leb o cs.length then some (cs.drop o) else none
    | _ => none
  | .rptr b k i j => match S.get b with
    | some (.row _ t l) => bif frOk fr RD b && Nat.beq t.w k && leb j k then some ((cellsD t (at0 t l i)).drop j) else none
    | _ => none
  | _ => none
def spl (cs : List DV) (o : Nat) (vs : List DV) : List DV := cs.take o ++ (vs ++ cs.drop (o + vs.length))
def dparts (ρ : Opd → DV) : List DV → List (Nat × Nat × Opd) → Option (List DV × List Bool)
  | z, [] => some (z, [])
  | z, (o, n, x) :: l => let cs := dcells (ρ x).val
    bif Nat.beq cs.length n && cs.all DV.one then (match dparts ρ (spl z o cs) l with
      | some (z', ob) => some (z', (ρ x).df ++ ob)
      | none => none) else none
def dlo (ρ : Opd → DV) (d : Int) : Option Opd → Option (Int × List Bool)
  | none => some (d, [])
  | some x => match ival (ρ x).val with
    | some (_, n) => some (n, (ρ x).df)
    | none => none
def dkeyL : List DV → Option (List Int)
  | [] => some []
  | d :: l => match ival d with
    | some (.i64, n) => match dkeyL l with
      | some r => some (n :: r)
      | none => none
    | _ => none
def dkey (kn : Nat) (d : DV) : Option (List Int) := match kn with
  | 0 => match ival d with
    | some (.i64, n) => some [n]
    | _ => none
  | m + 1 => match d with
    | .agg cs => match dkeyL cs with
      | some l => bif Nat.beq l.length (m + 1) then some l else none
      | none => none
    | _ => none
def kget {α : Type} (es : List (List Int × α)) (k : List Int) : Option α := (es.find? fun x => decide (x.1 = k)).map (·.2)
def kput {α : Type} : List (List Int × α) → List Int → α → List (List Int × α)
  | [], k, v => [(k, v)]
  | (k', u) :: l, k, v => if k' = k then (k, v) :: l else (k', u) :: kput l k v
/-- A value of a map. -/
def mvD (ag : Bool) (t : Ty) (x : t.den) : DV := match ag with
  | true => .agg (cellsD t x)
  | false => .v ⟨t, x⟩
def mvR (ag : Bool) (t : Ty) (d : DV) : Option t.den := match ag, d with
  | true, .agg cs => decAll none t cs
  | false, d => dec1 none t d
  | _, _ => none
/-- Is a constant the zero of its type? -/
def isZ1 : (t : Ty) → AV → Bool
  | .int k, .int k' n => ikeq k k' && decide (n = 0)
  | .bool, .bool b => !b
  | .str, .str s => decide (s = ByteArray.empty)
  | .sl _, .emp => true
  | _, _ => false
def isZs : (t : Ty) → List AV → Option (List AV)
  | .pair a b, zs => match isZs a zs with
    | some zs => isZs b zs
    | none => none
  | .es _, _ => none
  | t, z :: zs => bif isZ1 t z then some zs else none
  | _, [] => none
def isZ (ag : Bool) (t : Ty) (z : AV) : Bool := match ag, z with
  | true, .agg zs => match isZs t zs with
    | some [] => true
    | _ => false
  | false, z => isZ1 t z
  | _, _ => false
def isZf (t : Ty) (z : List AV) : Bool := match isZs t z with
  | some [] => true
  | _ => false
def allDf (ρ : Opd → DV) : List Opd → List Bool
  | [] => []
  | x :: l => (ρ x).df ++ allDf ρ l
def dvals (ρ : Opd → DV) (xs : List Opd) : List DV := xs.map fun x => (ρ x).val

def drow (t : Ty) : List DV → Option (List t.den)
  | [] => some []
  | d :: l => bif (dcells d).all DV.one then (match decAll none t (dcells d), drow t l with
    | some x, some r => some (x :: r)
    | _, _ => none) else none

/-- Operations that leave the state as it is: a value, and what must hold. -/
def dno (RD : List Nat) (S : DSt) (ρ : Opd → DV) (o : AOp) (ann : Option (Bool × Ty)) : Option (DV × List Bool) :=
  match o with
  | .mov x => some ((ρ x).val, (ρ x).df)
  | .bin ex op x y => match dbin ex op (ρ x).val (ρ y).val with
    | some (d, ob) => some (d, (ρ x).df ++ ((ρ y).df ++ ob))
    | none => none
  | .eqs ne n x y => match (ρ x).val, (ρ y).val with
    | .agg cs, .agg ds => bif Nat.beq cs.length n then (match eqI cs ds true with
      | some b => some (mkB (match ne with | true => !b | false => b), (ρ x).df ++ (ρ y).df)
      | none => none) else none
    | _, _ => none
  | .unot x => match bval (ρ x).val with
    | some b => some (mkB (!b), (ρ x).df)
    | none => none
  | .uneg x => match ival (ρ x).val with
    | some (k, n) => some (mkI k (0 - n), (ρ x).df ++ [fits k (0 - n)])
    | none => none
  | .pick c a b => match bval (ρ c).val with
    | some g => match bval (ρ a).val, bval (ρ b).val with
      | some x, some y => some (mkB (cond g x y), (ρ c).df ++ ((ρ a).df.map (!g || ·) ++ (ρ b).df.map (g || ·)))
      | _, _ => match ival (ρ a).val, ival (ρ b).val with
        | some (k, x), some (k', y) => bif ikeq k k' then some (mkI k (cond g x y), (ρ c).df ++ ((ρ a).df.map (!g || ·) ++ (ρ b).df.map (g || ·))) else none
        | _, _ => none
    | none => none
  | .nilc x => match (ρ x).val with
    | .ptr b o => some (.ptr b o, (ρ x).df)
    | .rptr b k i j => some (.rptr b k i j, (ρ x).df)
    | .elm cs => some (.elm cs, (ρ x).df)
    | _ => none
  | .fld x off => match (ρ x).val with
    | .ptr b o => some (.ptr b (o + off), (ρ x).df)
    | .rptr b k i j => some (.rptr b k i (j + off), (ρ x).df)
    | .elm cs => some (.elm (cs.drop off), (ρ x).df)
    | _ => none
  | .ld1 x fr => match ldCells S RD fr (ρ x).val with
    | some (d :: _) => some (d, (ρ x).df)
    | _ => none
  | .ldn x n fr => match ldCells S RD fr (ρ x).val with
    | some cs => bif leb n cs.length then some (.agg (cs.take n), (ρ x).df) else none
    | none => none
  | .fldv x off n ag => match (ρ x).val with
    | .agg cs => bif leb (off + n) cs.length && leb 1 n then (match ag with
      | true => some (.agg ((cs.drop off).take n), (ρ x).df)
      | false => match cs.drop off with
        | d :: _ => some (d, (ρ x).df)
        | [] => none) else none
    | _ => none
  | .idx x i n => match ival (ρ i).val with
    | some (_, z) => match (ρ x).val with
      | .v ⟨.sl t, l⟩ => bif Nat.beq t.w n then some (.elm (cellsD t (at0 t l z.toNat)), (ρ x).df ++ ((ρ i).df ++ [inR z l.length])) else none
      | .slc b => match S.get b with
        | some (.row _ t l) => bif Nat.beq t.w n then some (.rptr b n z.toNat 0, (ρ x).df ++ ((ρ i).df ++ [inR z l.length])) else none
        | _ => none
      | _ => none
    | none => none
  | .idxs x i => match sval (ρ x).val, ival (ρ i).val with
    | some t, some (_, z) => some (mkI .u8 (t.toList.getD z.toNat 0).toNat, (ρ x).df ++ ((ρ i).df ++ [inR z t.size]))
    | _, _ => none
  | .len x => match (ρ x).val with
    | .v ⟨.sl t, l⟩ => some (mkI .i64 l.length, (ρ x).df)
    | .slc b => match S.get b with
      | some (.row _ _ l) => some (mkI .i64 l.length, (ρ x).df)
      | _ => none
    | .emp => some (mkI .i64 0, (ρ x).df)
    | _ => none
  | .lens x => match sval (ρ x).val with
    | some t => some (mkI .i64 t.size, (ρ x).df)
    | none => none
  | .mnx mx x y => match ival (ρ x).val, ival (ρ y).val with
    | some (k, a), some (k', b) => bif ikeq k k' then some (mkI k (match mx with | true => max a b | false => min a b), (ρ x).df ++ (ρ y).df) else none
    | _, _ => none
  | .ext x i => match (ρ x).val with
    | .tup vs => match vs.drop i with
      | d :: _ => some (d, (ρ x).df)
      | [] => none
    | _ => none
  | .bld z ps => match dparts ρ (z.map const1) ps with
    | some (cs, ob) => some (.agg cs, ob)
    | none => none
  | .mkf f caps => some (.fn f (dvals ρ caps), allDf ρ caps)
  | .cvt k x => match ival (ρ x).val with
    | some (_, n) => some (mkI k n, (ρ x).df ++ [fits k n])
    | none => none
  | .sl x lo hi m => match (ρ x).val with
    | .v ⟨.sl t, l⟩ => bif Nat.beq t.w m then (match dlo ρ 0 lo, dlo ρ l.length hi with
      | some (a, p), some (b, q) => some (mkL t ((l.drop a.toNat).take (b - a).toNat), (ρ x).df ++ (p ++ (q ++ [decide (0 ≤ a), decide (a ≤ b), decide (b ≤ l.length)])))
      | _, _ => none) else none
    | _ => none
  | .sls x lo hi => match sval (ρ x).val with
    | some t => match dlo ρ 0 lo, dlo ρ t.size hi with
      | some (a, p), some (b, q) => some (mkS (t.extract a.toNat b.toNat), (ρ x).df ++ (p ++ (q ++ [decide (0 ≤ a), decide (a ≤ b), decide (b ≤ t.size)])))
      | _, _ => none
    | none => none
  | .lkp kn ok z m key fr => match (ρ m).val with
    | .mp b => match S.get b with
      | some (.imap kn' ag t es none) => match dkey kn (ρ key).val with
        | some k => bif Nat.beq kn' kn && isZ ag t z && frOk fr RD b then some (match ok with
            | true => .tup [mvD ag t ((kget es k).getD t.zero), mkB (kget es k).isSome]
            | false => mvD ag t ((kget es k).getD t.zero), (ρ m).df ++ (ρ key).df) else none
        | none => none
      | _ => none
    | _ => none
  | .bsl k xs => match xs with
    | [] => some (.emp, [])
    | x :: l => match ann with
      | some (_, t) => match drow t (dvals ρ (x :: l)) with
        | some r => bif Nat.beq t.w k then some (mkL t r, allDf ρ (x :: l)) else none
        | none => none
      | none => none
  | .lenm m fr => match (ρ m).val with
    | .mp b => match S.get b with
      | some (.imap _ _ t es none) => bif frOk fr RD b then some (mkI .i64 es.length, (ρ m).df) else none
      | _ => none
    | _ => none
  | _ => none

/-- Elements that are appended. -/
def delems (S : DSt) (t : Ty) (d : DV) : Option (List t.den) := dec1 (some S) (.sl t) d
def notIn (RD : List Nat) (b : Nat) : Bool := !(RD.any (Nat.beq b))
def repl (n : Nat) {α : Type} (x : α) : List α := List.replicate n x

/-- Operations that turn the state. -/
def deo (RD : List Nat) (S : DSt) (ρ : Opd → DV) (o : AOp) (ann : Option (Bool × Ty)) : Option (DV × DSt × List Bool) :=
  match o with
  | .alc z => some (.ptr S.nx 0, S.new (.box (z.map const1)), [])
  | .box x => bif (dcells (ρ x).val).all DV.one then some (.ptr S.nx 0, S.new (.box (dcells (ρ x).val)), (ρ x).df) else none
  | .sto p v n => bif Nat.beq (dcells (ρ v).val).length n && (dcells (ρ v).val).all DV.one then (match (ρ p).val with
    | .ptr b o => match S.get b with
      | some (.box cs) => bif notIn RD b && leb (o + n) cs.length then some (.undef, S.set b (.box (spl cs o (dcells (ρ v).val))), (ρ p).df ++ (ρ v).df) else none
      | _ => none
    | .rptr b k i j => match S.get b with
      | some (.row T t l) => bif notIn RD b && Nat.beq t.w k && leb (j + n) k then (match decAll none t (spl (cellsD t (at0 t l i)) j (dcells (ρ v).val)) with
        | some x => some (.undef, S.set b (.row T t (l.set i x)), (ρ p).df ++ (ρ v).df)
        | none => none) else none
      | _ => none
    | _ => none) else none
  | .mkm kn _ => match ann with
    | some (ag, t) => some (.mp S.nx, S.new (.imap kn ag t [] none), [])
    | none => none
  | .mks T k by_ z n => match ann, ival (ρ n).val with
    | some (_, t), some (_, m) => bif Nat.beq t.w k && isZf t z then some (.slc S.nx, S.new (.row T t (repl m.toNat t.zero)), (ρ n).df ++ [decide (0 ≤ m), decide (by_ * m ≤ 140737488355328)]) else none
    | _, _ => none
  | .bsr T k xs => match ann with
    | some (_, t) => match drow t (dvals ρ xs) with
      | some l => bif Nat.beq t.w k then some (.slc S.nx, S.new (.row T t l), allDf ρ xs) else none
      | none => none
    | none => none
  | .app T k by_ x y => match ann with
    | some (_, t) => bif Nat.beq t.w k then (match delems S t (ρ y).val with
      | some ys => match (ρ x).val with
        | .emp => some (.slc S.nx, S.new (.row T t ys), (ρ x).df ++ ((ρ y).df ++ [capOk by_ ys.length]))
        | .slc b => match S.get b with
          | some (.row T' t' l) => if h : t' = t then (bif Nat.beq T' T && notIn RD b then some (.slc S.nx, (S.del b).new (.row T t ((h ▸ l) ++ ys)), (ρ x).df ++ ((ρ y).df ++ [capOk by_ (l.length + ys.length)])) else none) else none
          | _ => none
        | _ => none
      | none => none) else none
    | none => none
  | .mup kn m key v => match (ρ m).val with
    | .mp b => match S.get b with
      | some (.imap kn' ag t es none) => match dkey kn (ρ key).val, mvR ag t (ρ v).val with
        | some k, some x => bif Nat.beq kn' kn && notIn RD b then some (.undef, S.set b (.imap kn' ag t (kput es k x) none), (ρ m).df ++ ((ρ key).df ++ (ρ v).df)) else none
        | _, _ => none
      | _ => none
    | _ => none
  | .men kn z m key => match (ρ m).val with
    | .mp b => match S.get b with
      | some (.imap kn' ag t es none) => match dkey kn (ρ key).val with
        | some k => bif Nat.beq kn' kn && notIn RD b && isZ ag t z then some (.tup [mvD ag t ((kget es k).getD t.zero), .stk S.nx], (S.set b (.imap kn' ag t es (some (S.nx, k, (kget es k).getD t.zero)))).tick, (ρ m).df ++ (ρ key).df) else none
        | none => none
      | _ => none
    | _ => none
  | .ens m st v => match (ρ m).val, (ρ st).val with
    | .mp b, .stk n => match S.get b with
      | some (.imap kn ag t es (some (n', k, _))) => match mvR ag t (ρ v).val with
        | some x => bif Nat.beq n n' && notIn RD b then some (.undef, S.set b (.imap kn ag t (kput es k x) none), (ρ m).df ++ ((ρ st).df ++ (ρ v).df)) else none
        | none => none
      | _ => none
    | _, _ => none
  | _ => none
end Go.Proofs.Ytjoncejabdjekaa.D
