/- An own program logic over the kit's walk, part 19: operations and code are compiled. -/
import Derived.Test.YtjoncejabdjekaaL18
set_option linter.unusedVariables false
set_option linter.unusedSimpArgs false
namespace Go.Proofs.Ytjoncejabdjekaa.L
open Go

/-- A builtin. -/
def cBlt (P : Program) (c : Nat) (b : Builtin) (xs : List Operand) (ts : List TypeId) : Option AOp := match b, xs with
  | .len, [x] => match ts with
    | [t0] => match cOpd x, P.underlying t0 with
      | some y, some (.slice _) => some (.len y)
      | some y, some .string => some (.lens y)
      | some y, some (.map _ _) => some (.lenm y (c == 1))
      | _, _ => none
    | _ => none
  | .min, [x, y] => match cOpd x, cOpd y with
    | some x', some y' => some (.mnx false x' y')
    | _, _ => none
  | .max, [x, y] => match cOpd x, cOpd y with
    | some x', some y' => some (.mnx true x' y')
    | _, _ => none
  | .append, [x, y] => match ts with
    | [t, u] => match elQ P t, cOpd x, cOpd y with
      | some (E, k, by_, _), some x', some y' => if u = t then some (.app E k by_ x' y') else none
      | _, _, _ => none
    | _ => none
  | _, _ => none
theorem toList_arr {α : Type} {xs : Array α} {l : List α} (h : xs.toList = l) : xs = l.toArray := by rw [← h]
theorem cBlt_ok {P : Program} {c : Nat} {b : Builtin} {xs : Array Operand} {ts : Array TypeId} {ao : AOp} (h : cBlt P c b xs.toList ts.toList = some ao) : OkOp P (.call { callee := .builtin b, args := xs, argTypes := ts }) ao := by
  unfold cBlt at h
  split at h
  · rename_i x hxs
    obtain rfl := toList_arr hxs
    split at h
    · rename_i t0 hts
      obtain rfl := toList_arr hts
      split at h
      · rename_i hx hu; cases h; exact .len (cOpd_ok hx) rfl hu
      · rename_i hx hu; cases h; exact .lens (cOpd_ok hx) rfl hu
      · rename_i hx hu; cases h; exact .lenm (cOpd_ok hx) rfl hu
      · cases h
    · cases h
  · rename_i x y hxs
    obtain rfl := toList_arr hxs
    split at h
    · rename_i h1 h2; cases h; exact .mn (cOpd_ok h1) (cOpd_ok h2)
    · cases h
  · rename_i x y hxs
    obtain rfl := toList_arr hxs
    split at h
    · rename_i h1 h2; cases h; exact .mx (cOpd_ok h1) (cOpd_ok h2)
    · cases h
  · rename_i x y hxs
    obtain rfl := toList_arr hxs
    split at h
    · rename_i t u hts
      obtain rfl := toList_arr hts
      split at h
      · rename_i he h1 h2
        split at h
        · rename_i hu; cases h; subst hu
          obtain ⟨⟨i, g1⟩, _, _⟩ := elQ_ok he
          exact .app g1 (cOpd_ok h1) (cOpd_ok h2)
        · cases h
      · cases h
    · cases h
  · cases h

/-- A slice that is compared with nil. -/
def isnQ (P : Program) (op : BinOp) (t : TypeId) (y : Operand) : Option Bool := match y with
  | .const (.slice none 0 0) => match P.underlying t with
    | some (.slice _) => match op with
      | .eql => some false
      | .neq => some true
      | _ => none
    | _ => none
  | _ => none
theorem isnQ_ok {P : Program} {op : BinOp} {t : TypeId} {y : Operand} {ne : Bool} (h : isnQ P op t y = some ne) : y = .const (.slice none 0 0) ∧ (∃ E, P.underlying t = some (.slice E)) ∧ op = (if ne then .neq else .eql) := by
  unfold isnQ at h
  split at h
  · split at h
    · rename_i E hu
      split at h
      · cases h; exact ⟨rfl, ⟨E, hu⟩, rfl⟩
      · cases h; exact ⟨rfl, ⟨E, hu⟩, rfl⟩
      · cases h
    · cases h
  · cases h
/-- An operation; `c` = 1 chooses: a sum that may wrap; a load that keeps; a slice that is written; a call with effects. -/
def cOp (P : Program) (c : Nat) : Op → Option AOp
  | .move x => match cOpd x with
    | some y => some (.mov y)
    | none => none
  | .assign x => match cOpd x with
    | some y => some (.mov y)
    | none => none
  | .binOp op t x y _ => match cOpd x, cOpd y with
    | some x', some y' => match isnQ P op t y with
      | some ne => some (.isn ne x')
      | none => match op, tyQ P t with
      | .eql, some (true, n) => if intsB P t n = true then some (.eqs false n x' y') else none
      | .neq, some (true, n) => if intsB P t n = true then some (.eqs true n x' y') else none
      | op, _ => some (.bin (c == 0) op x' y')
    | _, _ => none
  | .unOp .not _ x => match cOpd x with
    | some y => some (.unot y)
    | none => none
  | .unOp .neg _ x => match cOpd x with
    | some y => some (.uneg y)
    | none => none
  | .pick c x y => match cOpd c, cOpd x, cOpd y with
    | some c', some x', some y' => some (.pick c' x' y')
    | _, _, _ => none
  | .nilCheck x => match cOpd x with
    | some y => some (.nilc y)
    | none => none
  | .fieldAddr T x f => match cOpd x, fdQ P T f with
    | some y, some (off, _, n) => if n = 0 then none else some (.fld y off)
    | _, _ => none
  | .load T x => match cOpd x, tyQ P T with
    | some y, some (true, n) => some (.ldn y n (c == 1))
    | some y, some (false, 1) => some (.ld1 y (c == 1))
    | _, _ => none
  | .field T x f => match cOpd x, fdQ P T f with
    | some y, some (off, true, n) => if n = 0 then none else some (.fldv y off n true)
    | some y, some (off, false, 1) => some (.fldv y off 1 false)
    | _, _ => none
  | .indexAddr T x i => match cOpd x, cOpd i, slQ P T with
    | some y, some j, some (_, n) => some (.idx y j n)
    | _, _, _ => none
  | .index T x i => match cOpd x, cOpd i, P.underlying T with
    | some y, some j, some .string => some (.idxs y j)
    | _, _, _ => none
  | .extract x i => match cOpd x with
    | some y => some (.ext y i)
    | none => none
  | .build T ps => match plQ P T with
    | some (pl, zv) => match cParts pl (zsOf zv).length ps.toList with
      | some ps' => some (.bld (zsOf zv) ps')
      | none => none
    | none => none
  | .makeFunc (.func f) fst xs => match fst.toList, cOpds xs.toList with
    | [], some ys => some (.mkf f ys)
    | _, _ => none
  | .convert t u x => match cOpd x, P.underlying t, P.underlying u with
    | some y, some _, some (.int k) => some (.cvt k y)
    | _, _, _ => none
  | .slice T x lo hi none => match cOpd x, cBnd lo, cBnd hi with
    | some y, some lo', some hi' => match P.underlying T with
      | some .string => some (.sls y lo' hi')
      | _ => match slQ P T with
        | some (_, n) => some (.sl y lo' hi' n)
        | none => none
    | _, _, _ => none
  | .buildSlice T n ps => match elQ P T, cRow 0 ps.toList with
    | some (E, k, _, _), some ys => if ys.length = n ∧ n * k ≤ 16777216 then (if c = 1 then some (.bsl k ys) else some (.bsr E k ys)) else none
    | _, _ => none
  | .lookup T m key ok => match mapQ P T, cOpd m, cOpd key with
    | some (_, et, kn), some m', some key' => match zrQ P et with
      | some zv => some (.lkp kn ok (zvOf zv) m' key' (c == 1))
      | none => none
    | _, _, _ => none
  | .alloc T => match zrQ P T with
    | some zv => some (.alc (zsOf zv))
    | none => none
  | .box _ x => match cOpd x with
    | some y => some (.box y)
    | none => none
  | .store T p v => match cOpd p, cOpd v, szQ P T with
    | some p', some v', some n => some (.sto p' v' n)
    | _, _, _ => none
  | .makeMap T none => match mapQ P T with
    | some (_, _, kn) => some (.mkm kn T)
    | none => none
  | .makeSlice T (.tmp n) (.tmp m) => match elQ P T with
    | some (E, k, by_, zv) => if m = n then some (.mks E k by_ (zsOf zv) (.t n)) else none
    | none => none
  | .makeSlice T (.const (.int k1 n)) (.const (.int k2 m)) => match elQ P T with
    | some (E, k, by_, zv) => if k1 = k2 ∧ m = n then some (.mks E k by_ (zsOf zv) (.c (.int k1 n))) else none
    | none => none
  | .mapUpdate T m key v => match mapQ P T, cOpd m, cOpd key, cOpd v with
    | some (_, _, kn), some m', some key', some v' => some (.mup kn m' key' v')
    | _, _, _, _ => none
  | .insert T m key v => match mapQ P T, cOpd m, cOpd key, cOpd v with
    | some (_, _, kn), some m', some key', some v' => some (.mup kn m' key' v')
    | _, _, _, _ => none
  | .mapEntry T m key => match mapQ P T, cOpd m, cOpd key with
    | some (_, et, kn), some m', some key' => match zrQ P et with
      | some zv => some (.men kn (zvOf zv) m' key')
      | none => none
    | _, _, _ => none
  | .entryStore _ m st v => match cOpd m, cOpd st, cOpd v with
    | some m', some st', some v' => some (.ens m' st' v')
    | _, _, _ => none
  | .call { callee := .builtin b, args := xs, argTypes := ts } => cBlt P c b xs.toList ts.toList
  | .call { callee := .value (.func f), args := xs, .. } => match cOpds xs.toList with
    | some ys => if c = 1 then some (.call f ys) else some (.xcall f ys)
    | none => none
  | .call { callee := .value g, args := xs, .. } => match cOpd g, cOpds xs.toList with
    | some g', some ys => if c = 1 then some (.callv g' ys) else some (.xcallv g' ys)
    | _, _ => none
  | _ => none

theorem cOp_ok {P : Program} {c : Nat} {op : Op} {ao : AOp} (h : cOp P c op = some ao) : OkOp P op ao := by
  unfold cOp at h
  split at h
  · split at h
    · rename_i y hy; cases h; exact .mov (cOpd_ok hy)
    · cases h
  · split at h
    · rename_i y hy; cases h; exact .asg (cOpd_ok hy)
    · cases h
  · split at h
    · rename_i hx hy
      split at h
      · rename_i ne hn
        cases h
        obtain ⟨rfl, ⟨E, hu⟩, rfl⟩ := isnQ_ok hn
        exact .isn (cOpd_ok hx) hu
      · split at h
        · split at h
          · rename_i hi; cases h; exact .eql (intsB_ok hi) (cOpd_ok hx) (cOpd_ok hy)
          · cases h
        · split at h
          · rename_i hi; cases h; exact .neq (intsB_ok hi) (cOpd_ok hx) (cOpd_ok hy)
          · cases h
        · cases h; exact .bin (cOpd_ok hx) (cOpd_ok hy)
    · cases h
  · split at h
    · rename_i y hy; cases h; exact .unot (cOpd_ok hy)
    · cases h
  · split at h
    · rename_i y hy; cases h; exact .uneg (cOpd_ok hy)
    · cases h
  · split at h
    · rename_i h1 h2 h3; cases h; exact .pick (cOpd_ok h1) (cOpd_ok h2) (cOpd_ok h3)
    · cases h
  · split at h
    · rename_i y hy; cases h; exact .nilc (cOpd_ok hy)
    · cases h
  · split at h
    · rename_i hy hf
      split at h
      · cases h
      · rename_i hn; cases h; exact .fld (cOpd_ok hy) (fdQ_ok hf) hn
    · cases h
  · split at h
    · rename_i hy ht; cases h; exact .ldn (cOpd_ok hy) (tyQ_ok ht)
    · rename_i hy ht; cases h; exact .ld1 (cOpd_ok hy) (tyQ_ok ht)
    · cases h
  · split at h
    · rename_i hy hf
      split at h
      · cases h
      · rename_i hn; cases h; exact .fldv (cOpd_ok hy) (fdQ_ok hf) (Nat.pos_of_ne_zero hn) (fun h => by cases h)
    · rename_i hy hf; cases h; exact .fldv (cOpd_ok hy) (fdQ_ok hf) (by omega) (fun _ => rfl)
    · cases h
  · split at h
    · rename_i hx hi hs; cases h; exact .idx (cOpd_ok hx) (cOpd_ok hi) ⟨_, (slQ_ok hs).1, (slQ_ok hs).2⟩
    · cases h
  · split at h
    · rename_i hx hi hs; cases h; exact .idxs (cOpd_ok hx) (cOpd_ok hi) hs
    · cases h
  · split at h
    · rename_i y hy; cases h; exact .ext (cOpd_ok hy)
    · cases h
  · split at h
    · rename_i hp
      split at h
      · rename_i hq; cases h; exact .bld (plQ_ok hp) (cParts_ok hq)
      · cases h
    · cases h
  · split at h
    · rename_i h0 hx
      cases h
      rw [toList_arr h0]
      exact .mkf (cOpds_ok hx)
    · cases h
  · split at h
    · rename_i hx h1 h2; cases h; exact .cvt (cOpd_ok hx) h1 h2
    · cases h
  · split at h
    · rename_i hx h1 h2
      split at h
      · rename_i hu; cases h; exact .sls (cOpd_ok hx) hu (cBnd_ok h1) (cBnd_ok h2)
      · split at h
        · rename_i hs; cases h; exact .sl (cOpd_ok hx) ⟨_, (slQ_ok hs).1, (slQ_ok hs).2⟩ (cBnd_ok h1) (cBnd_ok h2)
        · cases h
    · cases h
  · split at h
    · rename_i he hr
      split at h
      · rename_i hc
        split at h
        · cases h; exact .bsl (elQ_ok he).2.2 (cRow_ok hr) hc.1 hc.2
        · cases h; exact .bsr (elQ_ok he).2.2 (cRow_ok hr) hc.1 hc.2
      · cases h
    · cases h
  · split at h
    · rename_i hm h1 h2
      split at h
      · rename_i hz; cases h; exact .lkp (mapQ_ok hm).1 (mapQ_ok hm).2 (zrQ_ZvR hz) (cOpd_ok h1) (cOpd_ok h2)
      · cases h
    · cases h
  · split at h
    · rename_i hz; cases h; exact .alc (zrQ_AlcR hz)
    · cases h
  · split at h
    · rename_i y hy; cases h; exact .box (cOpd_ok hy)
    · cases h
  · split at h
    · rename_i h1 h2 h3; cases h; exact .sto (szQ_ok h3) (cOpd_ok h1) (cOpd_ok h2)
    · cases h
  · split at h
    · rename_i hm; cases h; exact .mkm
    · cases h
  · split at h
    · rename_i he
      split at h
      · rename_i hmn; cases h; subst hmn
        obtain ⟨⟨i, h1⟩, h2, h3⟩ := elQ_ok he
        exact .mks h1 h2 rfl
      · cases h
    · cases h
  · split at h
    · rename_i he
      split at h
      · rename_i hmn; cases h; obtain ⟨rfl, rfl⟩ := hmn
        obtain ⟨⟨i, h1⟩, h2, h3⟩ := elQ_ok he
        exact .mks h1 h2 (fun o w => .fz _ _ (.int _ _))
      · cases h
    · cases h
  · split at h
    · rename_i hm h1 h2 h3; cases h; exact .mup (mapQ_ok hm).1 (mapQ_ok hm).2 (cOpd_ok h1) (cOpd_ok h2) (cOpd_ok h3)
    · cases h
  · split at h
    · rename_i hm h1 h2 h3; cases h; exact .ins (mapQ_ok hm).1 (mapQ_ok hm).2 (cOpd_ok h1) (cOpd_ok h2) (cOpd_ok h3)
    · cases h
  · split at h
    · rename_i hm h1 h2
      split at h
      · rename_i hz; cases h; exact .men (mapQ_ok hm).1 (mapQ_ok hm).2 (zrQ_ZvR hz) (cOpd_ok h1) (cOpd_ok h2)
      · cases h
    · cases h
  · split at h
    · rename_i h1 h2 h3; cases h; exact .ens (cOpd_ok h1) (cOpd_ok h2) (cOpd_ok h3)
    · cases h
  · exact cBlt_ok h
  · split at h
    · rename_i hx
      split at h
      · cases h; exact .call (cOpds_ok hx)
      · cases h; exact .xcall (cOpds_ok hx)
    · cases h
  · split at h
    · rename_i hg hx
      split at h
      · cases h; exact .callv (cOpd_ok hg) (cOpds_ok hx)
      · cases h; exact .xcallv (cOpd_ok hg) (cOpds_ok hx)
    · cases h
  · cases h

def cGrd (ops : Array Oper) : Option (Nat × Bool) → Option (Option (Nat × Bool))
  | none => some none
  | some (j, c) => match (ops[j]?).bind (·.dst) with
    | some g => some (some (g, c))
    | none => none
def dstB (n : Nat) : Option Nat → Bool
  | some d => decide (d < n)
  | none => true
def cOper (P : Program) (n : Nat) (ops : Array Oper) (c : Nat) (o : Oper) : Option AOper :=
  if dstB n o.dst = true then match cOp P c o.op, cGrd ops o.guard with
    | some ao, some g => some ⟨o.dst, ao, g⟩
    | _, _ => none
  else none
theorem cOper_ok {P : Program} {n : Nat} {ops : Array Oper} {c : Nat} {o : Oper} {ao : AOper} (h : cOper P n ops c o = some ao) : OkOper P n ops o ao := by
  unfold cOper at h
  split at h
  · rename_i hd
    split at h
    · rename_i ao' g h1 h2
      cases h
      refine ⟨rfl, fun x hx => by rw [hx] at hd; simpa [dstB] using hd, cOp_ok h1, ?_⟩
      cases hg : o.guard with
      | none => rw [hg] at h2; cases h2; exact .inl ⟨rfl, rfl⟩
      | some x =>
        obtain ⟨j, c⟩ := x
        rw [hg] at h2
        simp only [cGrd] at h2
        split at h2
        · rename_i g' hg'; cases h2; exact .inr ⟨j, c, g', rfl, hg', rfl⟩
        · cases h2
    · cases h
  · cases h

/-- What is chosen in a region: by operation; the order; what stays. -/
structure RCh where
  ch : List Nat := []
  ord : List Nat := []
  rs : List Nat := []
def cOpers (P : Program) (n : Nat) (ops : Array Oper) : List Nat → List Oper → Option (List AOper)
  | _, [] => some []
  | cs, o :: l => match cOper P n ops (cs.headD 0) o with
    | some a => match cOpers P n ops cs.tail l with
      | some r => some (a :: r)
      | none => none
    | none => none
theorem cOpers_ok {P : Program} {n : Nat} {ops : Array Oper} : ∀ {l : List Oper} {cs : List Nat} {r : List AOper}, cOpers P n ops cs l = some r → OkOpers P n ops l r
  | [], _, _, h => by cases h; trivial
  | o :: l, cs, r, h => by
    simp only [cOpers] at h
    split at h
    · rename_i a ha
      split at h
      · rename_i r' hr; cases h; exact ⟨cOper_ok ha, cOpers_ok hr⟩
      · cases h
    · cases h

def rch (cs : List (Nat × RCh)) (id : Nat) : RCh := match cs with
  | [] => {}
  | (i, c) :: l => if i = id then c else rch l id

def ordOf (c : RCh) (n : Nat) : List Nat := match c.ord with
  | [] => List.range n
  | l => l
def cReg (P : Program) (n : Nat) (c : RCh) (ops : Array Oper) (draw : Bool) : Option ACode := match cOpers P n ops c.ch ops.toList with
  | some l => match draw with
    | false => some (.reg fun _ => l)
    | true => let π := ordOf c ops.size
      if permB ops (Region.before ops) l.toArray π (Array.replicate ops.size false) = true then some (.drw c.rs fun _ => pick' l.toArray π) else none
  | none => none
theorem cReg_ok {P : Program} (hm : P.follows .mixedOrders = true) {n id : Nat} {c : RCh} {ops : Array Oper} {draw : Bool} {a : ACode} (h : cReg P n c ops draw = some a) : OkCode P n (.region id ops draw) a := by
  unfold cReg at h
  split at h
  · rename_i l hl
    split at h
    · cases h; exact .reg (cOpers_ok hl)
    · simp only [] at h
      split at h
      · rename_i hp; cases h; exact .drw _ hm (cOpers_ok hl) hp rfl
      · cases h
  · cases h

def cCode (P : Program) (n : Nat) (cs : List (Nat × RCh)) : Code → Option ACode
  | .skip => some .skip
  | .ret => some .ret
  | .exit i => some (.exit i)
  | .region id ops draw => cReg P n (rch cs id) ops draw
  | .seq a b => match cCode P n cs a, cCode P n cs b with
    | some a', some b' => some (.seq a' b')
    | _, _ => none
  | .cond c a b => match cOpd c, cCode P n cs a, cCode P n cs b with
    | some c', some a', some b' => some (.cond c' a' b')
    | _, _, _ => none
  | .block i c => match cCode P n cs c with
    | some c' => some (.blk i c')
    | none => none
  | .loop c => match cCode P n cs c with
    | some c' => some (.loop fun _ => c')
    | none => none
  | _ => none
theorem cCode_ok {P : Program} (hm : P.follows .mixedOrders = true) {n : Nat} {cs : List (Nat × RCh)} : ∀ {c : Code} {a : ACode}, cCode P n cs c = some a → OkCode P n c a
  | .skip, _, h => by cases h; exact .skip
  | .ret, _, h => by cases h; exact .ret
  | .exit i, _, h => by cases h; exact .exit i
  | .region id ops draw, _, h => cReg_ok hm h
  | .seq x y, _, h => by
    simp only [cCode] at h
    split at h
    · rename_i h1 h2; cases h; exact .seq (cCode_ok hm h1) (cCode_ok hm h2)
    · cases h
  | .cond c x y, _, h => by
    simp only [cCode] at h
    split at h
    · rename_i h0 h1 h2; cases h; exact .cond (cOpd_ok h0) (cCode_ok hm h1) (cCode_ok hm h2)
    · cases h
  | .block i c, _, h => by
    simp only [cCode] at h
    split at h
    · rename_i h1; cases h; exact .blk (cCode_ok hm h1)
    · cases h
  | .loop c, _, h => by
    simp only [cCode] at h
    split at h
    · rename_i h1; cases h; exact .loop (cCode_ok hm h1)
    · cases h

def cRes (P : Program) : List ResultVar → Option (List Res)
  | [] => some []
  | .tmp t :: l => match cRes P l with
    | some r => some (.t t :: r)
    | none => none
  | .cell a ty :: l => match tyQ P ty, cRes P l with
    | some (true, k), some r => some (.cell a true k :: r)
    | some (false, 1), some r => some (.cell a false 1 :: r)
    | _, _ => none
theorem cRes_ok {P : Program} : ∀ {l : List ResultVar} {r : List Res}, cRes P l = some r → OkRes P l r
  | [], _, h => by cases h; trivial
  | .tmp t :: l, r, h => by
    simp only [cRes] at h
    split at h
    · rename_i h1; cases h; exact ⟨rfl, cRes_ok h1⟩
    · cases h
  | .cell a ty :: l, r, h => by
    simp only [cRes] at h
    split at h
    · rename_i h1 h2; cases h; exact ⟨rfl, tyQ_ok h1, (fun h => by cases h), cRes_ok h2⟩
    · rename_i h1 h2; cases h; exact ⟨rfl, tyQ_ok h1, fun _ => rfl, cRes_ok h2⟩
    · cases h

def cFn (P : Program) (cs : List (Nat × RCh)) (fn : Func) : Option (Nat × List Res × ACode) :=
  if (fn.name == "runtime.NumGoroutine") = false then match fn.body, cRes P fn.results.toList with
    | some b, some rs => match cCode P fn.ntmps cs b with
      | some c => some (fn.ntmps, rs, c)
      | none => none
    | _, _ => none
  else none
theorem Fn.of {P : Program} (hm : P.follows .mixedOrders = true) {f : FuncId} {fn : Func} (hf : P.funcs[f]? = some fn) (cs : List (Nat × RCh)) {n : Nat} {rs : List Res} {c : ACode} (h : cFn P cs fn = some (n, rs, c)) : Fn P f n rs c := by
  unfold cFn at h
  split at h
  · rename_i hname
    split at h
    · rename_i b rs' hb hr
      split at h
      · rename_i c' hc; cases h; exact ⟨fn, b, hf, hname, hb, rfl, cRes_ok hr, cCode_ok hm hc⟩
      · cases h
    · cases h
  · cases h
end Go.Proofs.Ytjoncejabdjekaa.L
