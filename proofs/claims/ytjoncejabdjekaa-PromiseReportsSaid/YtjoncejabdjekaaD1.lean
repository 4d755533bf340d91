/- Abstract code as a function over typed values, part 1: shapes of states, calls, loops, bodies. -/
import Derived.Test.YtjoncejabdjekaaD0
set_option linter.unusedVariables false
set_option linter.unusedSimpArgs false
namespace Go.Proofs.Ytjoncejabdjekaa.D
open Go Go.Proofs.Ytjoncejabdjekaa.L

/-- Shapes of values; objects are numbered. -/
inductive RSh where
  | v (t : Ty)
  | st (t : Ty)
  | elm (t : Ty)
  | ptr (k o : Nat)
  | slc (k : Nat)
  | mp (k : Nat)
  | nilp
  | nilm
  | emp
  | any
  | agg (cs : List RSh)
  | tup (cs : List RSh)
  | fn (f : Nat) (cs : List RSh)
inductive OSh where
  | boxT (t : Ty)
  | box (cs : List RSh)
  | row (T : Nat) (t : Ty)
  | imap (kn : Nat) (ag : Bool) (t : Ty)
/-- Shapes of some values and of the objects that hang on them. -/
structure StSh where
  vals : List RSh
  objs : List (Nat × OSh)

abbrev Nm := List (Nat × Option Nat)
def bindN (nm : Nm) (k b : Nat) : Option Nm := match fnd nm k with
  | none => some ((k, some b) :: nm)
  | some (some b') => bif Nat.beq b' b then some nm else none
  | some none => none
def bindV (nm : Nm) (k : Nat) : Option Nm := match fnd nm k with
  | none => some ((k, none) :: nm)
  | some none => some nm
  | some (some _) => none
mutual
/-- A value is read by its shape. -/
def rdV (B : Option DSt) : RSh → DV → Nm → Option (List Leaf × Nm)
  | .v t, d, nm => match dec1 B t d with
    | some x => some ([⟨t, x⟩], nm)
    | none => none
  | .st t, .agg ds, nm => match decAll B t ds with
    | some x => some ([⟨t, x⟩], nm)
    | none => none
  | .elm t, .elm ds, nm => match decAll none t ds with
    | some x => some ([⟨t, x⟩], nm)
    | none => none
  | .elm t, .ptr b 0, nm => match B with
    | some S => match S.get b with
      | some (.box cs) => match decAll B t cs with
        | some x => some ([⟨t, x⟩], nm)
        | none => none
      | _ => none
    | none => none
  | .ptr k o, .ptr b o', nm => bif Nat.beq o o' then (match bindN nm k b with
    | some nm => some ([], nm)
    | none => none) else none
  | .slc k, .slc b, nm => match bindN nm k b with
    | some nm => some ([], nm)
    | none => none
  | .slc k, .emp, nm => match bindV nm k with
    | some nm => some ([], nm)
    | none => none
  | .mp k, .mp b, nm => match bindN nm k b with
    | some nm => some ([], nm)
    | none => none
  | .nilp, .nilp, nm => some ([], nm)
  | .nilm, .nilm, nm => some ([], nm)
  | .emp, .emp, nm => some ([], nm)
  | .any, _, nm => some ([], nm)
  | .agg rs, .agg ds, nm => rdVs B rs ds nm
  | .tup rs, .tup ds, nm => rdVs B rs ds nm
  | .fn f rs, .fn f' ds, nm => bif Nat.beq f f' then rdVs B rs ds nm else none
  | _, _, _ => none
def rdVs (B : Option DSt) : List RSh → List DV → Nm → Option (List Leaf × Nm)
  | [], [], nm => some ([], nm)
  | r :: rs, d :: ds, nm => match rdV B r d nm with
    | some (l, nm) => match rdVs B rs ds nm with
      | some (l', nm) => some (l ++ l', nm)
      | none => none
    | none => none
  | _, _, _ => none
end
def rdO (S : DSt) (o : OSh) (x : Option Nat) (nm : Nm) : Option (List Leaf × Nm) := match o, x with
  | .row T t, none => some ([⟨.sl t, []⟩], nm)
  | o, some b => match o, S.get b with
    | .boxT t, some (.box cs) => match decAll none t cs with
      | some x => some ([⟨t, x⟩], nm)
      | none => none
    | .box rs, some (.box cs) => rdVs none rs cs nm
    | .row T t, some (.row T' t' l) => bif Nat.beq T T' && decide (t = t') then some ([⟨.sl t', l⟩], nm) else none
    | .imap kn ag t, some (.imap kn' ag' t' es none) => bif Nat.beq kn kn' && (decide (ag = ag') && decide (t = t')) then some ([⟨.es t', es⟩], nm) else none
    | _, _ => none
  | _, none => none
def rdOs (S : DSt) : List (Nat × OSh) → Nm → Option (List Leaf × Nm)
  | [], nm => some ([], nm)
  | (k, o) :: l, nm => match fnd nm k with
    | some x => match rdO S o x nm with
      | some (lv, nm) => match rdOs S l nm with
        | some (lv', nm) => some (lv ++ lv', nm)
        | none => none
      | none => none
    | none => none
def nmNames : Nm → List Nat
  | [] => []
  | (_, some b) :: l => b :: nmNames l
  | (_, none) :: l => nmNames l
def noDup : List Nat → Bool
  | [] => true
  | b :: l => !(l.any (Nat.beq b)) && noDup l
def keysIn (l : List (Nat × OSh)) : Nm → Bool
  | [] => true
  | (k, _) :: nm => (l.any fun x => Nat.beq x.1 k) && keysIn l nm
def boundB (q : Nat) : List (Nat × OSh) → Bool
  | [] => true
  | (k, _) :: l => Nat.blt k q && boundB q l
/-- A state is read by its shape. -/
def rdSt (B : Option DSt) (S : DSt) (sh : StSh) (q : Nat) (ds : List DV) (nm : Nm) : Option (List Leaf × Nm) := match rdVs B sh.vals ds nm with
  | some (l, nm) => match rdOs S sh.objs nm with
    | some (l', nm) => bif noDup (nmNames nm) && (noDup (nm.map (·.1)) && (keysIn sh.objs nm && (boundB q sh.objs && noDup (sh.objs.map (·.1))))) then some (l ++ l', nm) else none
    | none => none
  | none => none

mutual
/-- A value of a shape. -/
def fillV (ρ : Nat → Nat) : RSh → List Leaf → Option (DV × List Leaf)
  | .v t, x :: l => bif decide (x.t = t) then some (.v x, l) else none
  | .st t, x :: l => bif decide (x.t = t) then some (.agg (cellsD x.t x.x), l) else none
  | .elm t, x :: l => bif decide (x.t = t) then some (.elm (cellsD x.t x.x), l) else none
  | .ptr k o, l => some (.ptr (ρ k) o, l)
  | .slc k, l => some (.slc (ρ k), l)
  | .mp k, l => some (.mp (ρ k), l)
  | .nilp, l => some (.nilp, l)
  | .nilm, l => some (.nilm, l)
  | .emp, l => some (.emp, l)
  | .any, l => some (.undef, l)
  | .agg rs, l => match fillVs ρ rs l with
    | some (ds, l) => some (.agg ds, l)
    | none => none
  | .tup rs, l => match fillVs ρ rs l with
    | some (ds, l) => some (.tup ds, l)
    | none => none
  | .fn f rs, l => match fillVs ρ rs l with
    | some (ds, l) => some (.fn f ds, l)
    | none => none
  | _, _ => none
def fillVs (ρ : Nat → Nat) : List RSh → List Leaf → Option (List DV × List Leaf)
  | [], l => some ([], l)
  | r :: rs, l => match fillV ρ r l with
    | some (d, l) => match fillVs ρ rs l with
      | some (ds, l) => some (d :: ds, l)
      | none => none
    | none => none
end
def fillO (ρ : Nat → Nat) : OSh → List Leaf → Option (DObj × List Leaf)
  | .boxT t, x :: l => bif decide (x.t = t) then some (.box (cellsD x.t x.x), l) else none
  | .box rs, l => match fillVs ρ rs l with
    | some (ds, l) => some (.box ds, l)
    | none => none
  | .row T t, ⟨.sl t', x⟩ :: l => bif decide (t' = t) then some (.row T t' x, l) else none
  | .imap kn ag t, ⟨.es t', x⟩ :: l => bif decide (t' = t) then some (.imap kn ag t' x none, l) else none
  | _, _ => none
def fillOs (ρ : Nat → Nat) : List (Nat × OSh) → List Leaf → Option (List (Nat × DObj) × List Leaf)
  | [], l => some ([], l)
  | (k, o) :: os, l => match fillO ρ o l with
    | some (x, l) => match fillOs ρ os l with
      | some (xs, l) => some ((ρ k, x) :: xs, l)
      | none => none
    | none => none
def fillSt (ρ : Nat → Nat) (sh : StSh) (l : List Leaf) : Option (List DV × List (Nat × DObj)) := match fillVs ρ sh.vals l with
  | some (ds, l) => match fillOs ρ sh.objs l with
    | some (os, []) => some (ds, os)
    | _ => none
  | none => none

/-- What comes back: which of the objects that were handed in are still there (`ids`), of how many names it speaks (`q`). -/
structure OutSh where
  st : StSh
  ts : List Ty
  ids : List Nat
  q : Nat
/-- A function's shape. `bw`: the rows that are handed in are only looked at. -/
structure FSh where
  ins : StSh
  ts : List Ty
  m : Nat
  out : OutSh
  bw : Bool

def repAll (m : List (Nat × DObj)) : List (Nat × DObj) → List (Nat × DObj)
  | [] => m
  | (b, o) :: l => repAll (rep m b o) l
def delAll (S : DSt) : List Nat → DSt
  | [] => S
  | b :: l => delAll (S.del b) l
/-- Names behind a call. -/
def outN (nx : Nat) (nm : Nm) (ids : List Nat) (k : Nat) : Nat := match ids.any (Nat.beq k), fnd nm k with
  | true, some (some b) => b
  | _, _ => nx + k
/-- The state behind a call or a loop. -/
def afterD (S : DSt) (nm : Nm) (o : OutSh) (l : List Leaf) : Option (List DV × DSt) := match fillSt (outN S.nx nm o.ids) o.st l with
  | some (ds, os) => some (ds, ⟨S.nx + o.q, repAll (delAll S (nmNames nm)).m os⟩)
  | none => none

/-- A function whose answers are known. -/
structure FEnt where
  f : Nat
  sh : FSh
  F : dens sh.ts → Option (dens sh.out.ts)
def bwOf (b : Bool) (S : DSt) : Option DSt := match b with
  | true => some S
  | false => none
def rdIn (sh : FSh) (S : DSt) (ds : List DV) : Option (dens sh.ts × Nm) := match rdSt (bwOf sh.bw S) S sh.ins sh.m ds [] with
  | some (l, nm) => match toDens sh.ts l with
    | some x => some (x, nm)
    | none => none
  | none => none
def notInL (RD : List Nat) : List Nat → Bool
  | [] => true
  | b :: l => notIn RD b && notInL RD l
def dcall {α : Type} (RD : List Nat) (T : List FEnt) (f : Nat) (ds : List DV) (S : DSt) (k : DV → DSt → Option α) : Option α := match T with
  | [] => none
  | ent :: T => bif Nat.beq ent.f f then (match rdIn ent.sh S ds with
    | some (x, nm) => bif notInL RD (nmNames nm) then (ent.F x).bind fun r => (match afterD S nm ent.sh.out (ofDens ent.sh.out.ts r) with
      | some ([d], S') => k d S'
      | _ => none) else none
    | none => dcall RD T f ds S k) else dcall RD T f ds S k

abbrev Ann := Option (Bool × Ty)
/-- A value of an operation under a guard that holds. -/
def wv (gd : Bool) (d : DV) : DV := match gd with
  | true => .whn true d
  | false => d
/-- Operations that are no calls. -/
def dop {α : Type} (RD : List Nat) (S : DSt) (e : DEnv) (o : AOper) (ann : Ann) (gd : Bool) (k : DEnv → DSt → Option α) : Option α := match isEff o.op with
  | true => match deo RD S (opdD e) o.op ann with
    | some (d, S', ob) => chks ob (k (e.put o.dst d) S')
    | none => none
  | false => match dno RD S (opdD e) o.op ann with
    | some (d, ob) => chks ob (k (e.put o.dst (wv gd d)) S)
    | none => none
open Classical in
/-- Of an empty slice nobody knows whether it is nil. -/
noncomputable def bisn {α : Type} (e : Bool) (kt kf : Option α) : Option α := match e with
  | true => if kt = kf then kf else none
  | false => kf
def isnL (S : DSt) : DV → Option Bool
  | .v ⟨.sl _, l⟩ => some (decide (l.length = 0))
  | .slc b => match S.get b with
    | some (.row _ _ l) => some (decide (l.length = 0))
    | _ => none
  | .emp => some true
  | _ => none
def isnV (ne b : Bool) : DV := match ne with
  | true => mkB (!b)
  | false => mkB b
noncomputable def dxo1 {α : Type} (RD : List Nat) (T : List FEnt) (S : DSt) (e : DEnv) (o : AOper) (ann : Ann) (gd : Bool) (k : DEnv → DSt → Option α) : Option α := match o.op with
  | .xcall f xs => chks (allDf (opdD e) xs) (dcall RD T f (dvals (opdD e) xs) S fun d S' => k (e.put o.dst d) S')
  | .xcallv g xs => match (opdD e g).val with
    | .fn f caps => chks ((opdD e g).df ++ allDf (opdD e) xs) (dcall RD T f (dvals (opdD e) xs ++ caps) S fun d S' => k (e.put o.dst d) S')
    | _ => none
  | .pick c x y => match bval (opdD e c).val with
    | some g => chks (opdD e c).df (cond g (chks (opdD e x).df (k (e.put o.dst (wv gd (opdD e x).val)) S)) (chks (opdD e y).df (k (e.put o.dst (wv gd (opdD e y).val)) S)))
    | none => none
  | .isn ne x => match isnL S (opdD e x).val with
    | some b => chks (opdD e x).df (bisn b (k (e.put o.dst (isnV ne true)) S) (k (e.put o.dst (isnV ne false)) S))
    | none => none
  | _ => dop RD S e o ann gd k
def skipD (o : AOper) : DV := match isEff o.op with
  | true => .undef
  | false => .whn false .undef
/-- A branch at a guard whose value is known then. -/
noncomputable def gbr {α : Type} (RD : List Nat) (T : List FEnt) (o : AOper) (ann : Ann) (k : DEnv → DSt → Option α) (e : DEnv) (S : DSt) (want b : Bool) : Option α := match gb want b with
  | true => dxo1 RD T S e o ann true k
  | false => k (e.put o.dst (skipD o)) S
noncomputable def dxo {α : Type} (RD : List Nat) (T : List FEnt) (o : AOper) (ann : Ann) (k : DEnv → DSt → Option α) (e : DEnv) (S : DSt) : Option α := match o.grd with
  | none => dxo1 RD T S e o ann false k
  | some (g, want) => match e.get g with
    | .v ⟨.bool, c⟩ => cond c (gbr RD T o ann k (e.put (some g) (mkB true)) S want true) (gbr RD T o ann k (e.put (some g) (mkB false)) S want false)
    | .whn true (.v ⟨.bool, c⟩) => cond c (gbr RD T o ann k (e.put (some g) (.whn true (mkB true))) S want true) (gbr RD T o ann k (e.put (some g) (.whn true (mkB false))) S want false)
    | .whn false _ => k (e.put o.dst (skipD o)) S
    | _ => none

/-- Operations; `fz`: a row is not written any more. -/
inductive DOper where
  | op (o : AOper) (a : Ann)
  | fz (r : Nat) (path : List Nat)
def pathN (S : DSt) : DV → List Nat → Option Nat
  | .slc b, [] => some b
  | .agg cs, i :: p => match cs.drop i, p with
    | .slc b :: _, [] => some b
    | _, _ => none
  | .tup cs, i :: p => match cs.drop i with
    | .slc b :: _ => match p with
      | [] => some b
      | _ => none
    | .agg cs :: _ => match p with
      | [j] => match cs.drop j with
        | .slc b :: _ => some b
        | _ => none
      | _ => none
    | _ => none
  | .ptr b _, [i] => match S.get b with
    | some (.box cs) => match cs.drop i with
      | .slc b :: _ => some b
      | _ => none
    | _ => none
  | _, _ => none
def fz1 (S : DSt) (b : Nat) (t : Ty) (l : List t.den) : DV → DV
  | .slc b' => bif Nat.beq b' b then mkL t l else (match S.get b' with
    | some _ => .slc b'
    | none => .undef)
  | .ptr b' o => bif Nat.beq b' b then .undef else (match S.get b' with
    | some _ => .ptr b' o
    | none => .undef)
  | d => d
def fz2 (S : DSt) (b : Nat) (t : Ty) (l : List t.den) : DV → DV
  | .agg cs => .agg (cs.map (fz1 S b t l))
  | .tup cs => .tup (cs.map (fz1 S b t l))
  | d => fz1 S b t l d
def fzO (S : DSt) (b : Nat) (t : Ty) (l : List t.den) : DObj → DObj
  | .box cs => .box (cs.map (fz1 S b t l))
  | o => o
def mapV {α β : Type} (f : α → β) : List (Nat × α) → List (Nat × β)
  | [] => []
  | (k, x) :: l => (k, f x) :: mapV f l
def dfz (e : DEnv) (S : DSt) (b : Nat) : Option (DEnv × DSt) := match S.get b with
  | some (.row _ t l) => some (mapV (fz2 S b t l) e, ⟨S.nx, mapV (fzO S b t l) (rmv S.m b)⟩)
  | _ => none
noncomputable def dxr {α : Type} (T : List FEnt) : List DOper → (DEnv → DSt → Option α) → DEnv → DSt → Option α
  | [], k, e, S => k e S
  | .op o a :: l, k, e, S => dxo [] T o a (dxr T l k) e S
  | .fz r p :: l, k, e, S => match pathN S (e.get r) p with
    | some b => match dfz e S b with
      | some (e', S') => dxr T l k e' S'
      | none => none
    | none => dxr T l k e S
noncomputable def dxrD {α : Type} (RD : List Nat) (T : List FEnt) : List (AOper × Ann) → (DEnv → DSt → Option α) → DEnv → DSt → Option α
  | [], k, e, S => k e S
  | (o, a) :: l, k, e, S => dxo RD T o a (dxrD RD T l k) e S

structure XSh where
  ex : Exit
  regs : List Nat
  o : OutSh
structure LSh where
  regs : List Nat
  st : StSh
  ts : List Ty
  m : Nat
  ids : List Nat
inductive DCode where
  | skip
  | ret
  | exit (i : Nat)
  | reg (l : List DOper)
  | drw (rs : List Nat) (l : List (AOper × Ann))
  | seq (a b : DCode)
  | cond (c : Opd) (a b : DCode)
  | blk (i : Nat) (c : DCode)
  | loop (h : LSh) (xs : List XSh) (c : DCode)
  | once (h : LSh) (xs : List XSh) (c : DCode)
def eraseO : List DOper → List AOper
  | [] => []
  | .op o _ :: l => o :: eraseO l
  | .fz .. :: l => eraseO l
def erase : DCode → ACode
  | .skip => .skip
  | .ret => .ret
  | .exit i => .exit i
  | .reg l => .reg fun _ => eraseO l
  | .drw rs l => .drw rs fun _ => l.map (·.1)
  | .seq a b => .seq (erase a) (erase b)
  | .cond c a b => .cond c (erase a) (erase b)
  | .blk i c => .blk i (erase c)
  | .loop _ _ c => .loop fun _ => erase c
  | .once _ _ c => erase c

/-- Rounds. -/
def goF {σ ρ : Type} (step : σ → Option (σ ⊕ ρ)) : Nat → σ → Option ρ
  | 0, _ => none
  | n + 1, x => match step x with
    | some (.inl y) => goF step n y
    | some (.inr r) => some r
    | none => none
def whileF {σ ρ : Type} (step : σ → Option (σ ⊕ ρ)) (x : σ) : Option ρ := goF step 18446744073709551616 x

def XD : List XSh → Type
  | [] => Empty
  | [a] => dens a.o.ts
  | a :: b :: l => dens a.o.ts ⊕ XD (b :: l)
def exEq : Exit → Exit → Bool
  | .exit i, .exit j => Nat.beq i j
  | .ret, .ret => true
  | .normal, .normal => true
  | _, _ => false
def regsD (e : DEnv) (rs : List Nat) : List DV := rs.map e.get
def idNm (ids : List Nat) : Nm := ids.map fun k => (k, some k)
def rdX (a : XSh) (e : DEnv) (S : DSt) : Option (dens a.o.ts) := match rdSt none S a.o.st a.o.q (regsD e a.regs) (idNm a.o.ids) with
  | some (l, _) => toDens a.o.ts l
  | none => none
def injX : (xs : List XSh) → Exit → DEnv → DSt → Option (XD xs)
  | [], _, _, _ => none
  | [a], ex, e, S => bif exEq a.ex ex then rdX a e S else none
  | a :: b :: l, ex, e, S => match (bif exEq a.ex ex then rdX a e S else none) with
    | some y => some (.inl y)
    | none => match injX (b :: l) ex e S with
      | some y => some (.inr y)
      | none => none
def elimX {β : Type} : (xs : List XSh) → XD xs → (XSh → List Leaf → β) → β
  | [], y, _ => nomatch y
  | [a], y, f => f a (ofDens a.o.ts y)
  | a :: b :: l, y, f => Sum.elim (fun u => f a (ofDens a.o.ts u)) (fun v => elimX (b :: l) v f) y
def envL : List Nat → List DV → DEnv
  | r :: rs, d :: ds => (r, d) :: envL rs ds
  | _, _ => []
def rdL (h : LSh) (e : DEnv) (S : DSt) (nm : Nm) : Option (dens h.ts × Nm) := match rdSt none S h.st h.m (regsD e h.regs) nm with
  | some (l, nm) => match toDens h.ts l with
    | some x => some (x, nm)
    | none => none
  | none => none
def lpKD {xs : List XSh} (h : LSh) : Exit → DEnv → DSt → Option (dens h.ts ⊕ XD xs)
  | .normal, e, S => match rdL h e S (idNm h.ids) with
    | some (x, _) => some (.inl x)
    | none => none
  | ex, e, S => match injX xs ex e S with
    | some y => some (.inr y)
    | none => none
def dstep {xs : List XSh} (h : LSh) (body : (Exit → DEnv → DSt → Option (dens h.ts ⊕ XD xs)) → DEnv → DSt → Option (dens h.ts ⊕ XD xs)) (x : dens h.ts) : Option (dens h.ts ⊕ XD xs) := match fillSt (fun k => k) h.st (ofDens h.ts x) with
  | some (ds, os) => body (lpKD h) (envL h.regs ds) ⟨h.m, os⟩
  | none => none
/-- Code that runs once, as a function of its own. -/
def onceF {xs : List XSh} (h : LSh) (body : (Exit → DEnv → DSt → Option (XD xs)) → DEnv → DSt → Option (XD xs)) (x : dens h.ts) : Option (XD xs) := match fillSt (fun k => k) h.st (ofDens h.ts x) with
  | some (ds, os) => body (injX xs) (envL h.regs ds) ⟨h.m, os⟩
  | none => none
def sqD {α : Type} (k : DEnv → DSt → Option α) (K : Exit → DEnv → DSt → Option α) : Exit → DEnv → DSt → Option α
  | .normal, e, S => k e S
  | x, e, S => K x e S
def blkD {α : Type} (i : Nat) (K : Exit → DEnv → DSt → Option α) : Exit → DEnv → DSt → Option α
  | .exit j, e, S => bif Nat.beq j i then K .normal e S else K (.exit j) e S
  | x, e, S => K x e S
def rsOk (e : DEnv) (S : DSt) : List Nat → Option (List Nat)
  | [] => some []
  | r :: l => match rsOk e S l with
    | some bs => match e.get r with
      | .ptr b _ => match S.get b with | some _ => some (b :: bs) | none => none
      | .rptr b _ _ _ => match S.get b with | some _ => some (b :: bs) | none => none
      | .slc b => match S.get b with | some _ => some (b :: bs) | none => none
      | .mp b => match S.get b with | some _ => some (b :: bs) | none => none
      | .v x => bif oneT x.t then some bs else none
      | .elm _ => some bs
      | _ => none
    | none => none
def subN (l m : List Nat) : Bool := l.all fun k => m.any (Nat.beq k)
/-- Code as a function. -/
noncomputable def dxc (T : List FEnt) : DCode → {α : Type} → (Exit → DEnv → DSt → Option α) → DEnv → DSt → Option α
  | .skip, _, K, e, S => K .normal e S
  | .ret, _, K, e, S => K .ret e S
  | .exit i, _, K, e, S => K (.exit i) e S
  | .reg l, _, K, e, S => dxr T l (K .normal) e S
  | .drw rs l, _, K, e, S => match rsOk e S rs with
    | some RD => dxrD RD T l (K .normal) e S
    | none => none
  | .seq a b, _, K, e, S => dxc T a (sqD (dxc T b K) K) e S
  | .cond c a b, _, K, e, S => match bval (opdD e c).val with
    | some g => chks (opdD e c).df (_root_.cond g (dxc T a K e S) (dxc T b K e S))
    | none => none
  | .blk i c, _, K, e, S => dxc T c (blkD i K) e S
  | .loop h xs c, _, K, e, S => match (bif subN h.ids (h.st.objs.map (·.1)) then rdL h e S [] else none) with
    | some (x, nm) => (whileF (dstep (xs := xs) h (dxc T c)) x).bind fun y => elimX xs y fun a l => bif subN a.o.ids h.ids then (match afterD S nm a.o l with
      | some (ds, S') => K a.ex (envL a.regs ds) S'
      | none => none) else none
    | none => none
  | .once h xs c, _, K, e, S => match (bif subN h.ids (h.st.objs.map (·.1)) then rdL h e S [] else none) with
    | some (x, nm) => (onceF (xs := xs) h (dxc T c) x).bind fun y => elimX xs y fun a l => bif subN a.o.ids h.ids then (match afterD S nm a.o l with
      | some (ds, S') => K a.ex (envL a.regs ds) S'
      | none => none) else none
    | none => none

/-- Results of a body. -/
def resD1 (e : DEnv) (S : DSt) : Res → Option DV
  | .t n => some (e.get n)
  | .cell a ag k => match e.get a with
    | .ptr b 0 => match S.get b with
      | some (.box cs) => bif Nat.beq cs.length k then (match ag with
        | true => some (.agg cs)
        | false => match cs with
          | d :: _ => some d
          | [] => none) else none
      | _ => none
    | _ => none
def resDs (e : DEnv) (S : DSt) : List Res → Option (List DV)
  | [] => some []
  | r :: l => match resD1 e S r, resDs e S l with
    | some d, some ds => some (d :: ds)
    | _, _ => none
def resD (e : DEnv) (S : DSt) (l : List Res) : Option DV := match resDs e S l with
  | some [d] => some d
  | some ds => some (.tup ds)
  | none => none
def bdK (rs : List Res) (o : OutSh) : Exit → DEnv → DSt → Option (dens o.ts)
  | .normal, e, S | .ret, e, S => match resD e S rs with
    | some d => match rdSt none S o.st o.q [d] (idNm o.ids) with
      | some (l, _) => toDens o.ts l
      | none => none
    | none => none
  | _, _, _ => none
def argE : Nat → List DV → DEnv
  | _, [] => []
  | i, d :: ds => (i, d) :: argE (i + 1) ds
/-- A function. -/
noncomputable def dxf (T : List FEnt) (sh : FSh) (rs : List Res) (c : DCode) (x : dens sh.ts) : Option (dens sh.out.ts) := match fillSt (fun k => k) sh.ins (ofDens sh.ts x) with
  | some (ds, os) => bif subN sh.out.ids (sh.ins.objs.map (·.1)) then dxc T c (bdK rs sh.out) (argE 0 ds) ⟨sh.m, os⟩ else none
  | none => none
/-! Words of the printed functions. -/
def ix {α : Type} [Inhabited α] (l : List α) (z : Int) : α := l.getD z.toNat default
def shlI (k : IntKind) (a b : Int) : Int := k.wrap (a * 2 ^ (min b.toNat k.bits))
def shrI (k : IntKind) (a b : Int) : Int := a.fdiv (2 ^ (min b.toNat k.bits))
def cutL {α : Type} (l : List α) (a b : Int) : List α := (l.drop a.toNat).take (b - a).toNat
def bix (s : ByteArray) (z : Int) : Int := (s.toList.getD z.toNat 0).toNat
def cutS (s : ByteArray) (a b : Int) : ByteArray := s.extract a.toNat b.toNat
def eqS (a b : ByteArray) : Bool := a.toList == b.toList
def dof {α : Type} (o : Option α) (d : α) : α := o.getD d
end Go.Proofs.Ytjoncejabdjekaa.D
