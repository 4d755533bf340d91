import Derived.WalkKit
import Derived.Deep.LoopGhost
import Derived.Orders
import Derived.OrdersIn
import Derived.TacticsIn
import Derived.RangeFuncIn
import Derived.RangeFuncRecord
import Derived.RangeFuncSeq
import Derived.Scope
import Derived.MapKept
import Derived.Laws.StructEq
import Derived.Laws.Tables
import Derived.Laws.AppendOwn
import Derived.Laws.MakeOwn
set_option linter.unusedVariables false
set_option linter.unusedSimpArgs false
namespace Go.Proofs.YtdkaijofmigmbaaGreat.L
open Go
inductive AV where
 | undef
 | int (k:IntKind) (n:Int)
 | bool (b:Bool)
 | str (s:ByteArray)
 | nilp
 | ptr (b off:Nat)
 | rptr (b k i j:Nat)
 | elm (cs:List AV)
 | agg (cs:List AV)
 | tup (vs:List AV)
 | emp
 | lst (k n:Nat) (get:Nat→List AV)
 | slc (b n c:Nat)
 | slo (b k o n:Nat)
 | mp (b:Nat)
 | nilm
 | fn (f:FuncId) (cap:List AV)
 | yld (l:Nat) (pins cap:List AV)
 | whn (g:Bool) (v:AV)
instance:Inhabited AV:=⟨.undef⟩
def at_ (cs:List AV)(j:Nat):AV:=cs.getD j .undef
def b9 (vs:List Value)(j:Nat):Value:=vs.getD j Go.undef
inductive FV (own:Nat→Prop) (w:World):AV→Value→Prop where
 | int (k:IntKind) (n:Int):FV own w (.int k n) (.int k n)
 | bool (b:Bool):FV own w (.bool b) (.bool b)
 | str (s:ByteArray):FV own w (.str s) (.string s)
 | nilp:FV own w .nilp (.pointer none)
 | nilm:FV own w .nilm (.map none)
 | emp (a:Option Addr):FV own w .emp (.slice a 0 0)
 | lst0 (k:Nat) (get:Nat→List AV) (a:Option Addr) (c:Nat):FV own w (.lst k 0 get) (.slice a 0 c)
 | lst (k n:Nat) (get:Nat→List AV) (a:Addr) (c:Nat) (vf:Nat→Nat→Value) (hn:0 < n) (hnc:n≤c) (hsp:a.spot=none) (ha:¬ own a.block) (hb:a.block < w.heap.size)
   (hc:∀ i j,i < n→j < k→w.cell? (a.add (i*k+j))=some (vf i j))
   (hl:∀ i,i < n→(get i).length=k)
   (hv:∀ i j,i < n→j < k→FV own w (at_ (get i) j) (vf i j)):FV own w (.lst k n get) (.slice (some a) n c)
 | elm (cs:List AV) (a:Addr) (vf:Nat→Value) (hsp:a.spot=none) (ha:¬ own a.block) (hb:a.block < w.heap.size)
   (hc:∀ j,j < cs.length→w.cell? (a.add j)=some (vf j))
   (hv:∀ j,j < cs.length→FV own w (at_ cs j) (vf j)):FV own w (.elm cs) (.pointer (some a))
inductive RV (own:Nat→Prop) (w:World):AV→Value→Prop where
 | undef (v:Value):RV own w .undef v
 | fz (a:AV) (v:Value) (h:FV own w a v):RV own w a v
 | ptr (b o:Nat):RV own w (.ptr b o) (.pointer (some ⟨b,o,none⟩))
 | rptr (b k i j:Nat):RV own w (.rptr b k i j) (.pointer (some ⟨b,i*k+j,none⟩))
 | slc (b n c:Nat) (hn:n≤c):RV own w (.slc b n c) (.slice (some ⟨b,0,none⟩) n c)
 | slo (b k o n c:Nat) (a:Addr) (hn:n≤c) (ha:0 < n→a=⟨b,o*k,none⟩):RV own w (.slo b k o n) (.slice (some a) n c)
 | mp (b:Nat):RV own w (.mp b) (.map (some b))
 | agg (cs:List AV) (vs:List Value) (hl:vs.length=cs.length) (h:∀ j,j < cs.length→RV own w (at_ cs j) (b9 vs j)):RV own w (.agg cs) (.agg vs.toArray)
 | tup (cs:List AV) (vs:List Value) (hl:vs.length=cs.length) (h:∀ j,j < cs.length→RV own w (at_ cs j) (b9 vs j)):RV own w (.tup cs) (.tuple vs.toArray)
 | fn (f:FuncId) (cs:List AV) (vs:List Value) (hl:vs.length=cs.length) (h:∀ j,j < cs.length→RV own w (at_ cs j) (b9 vs j)):RV own w (.fn f cs) (.func (.func f) #[] vs.toArray)
 | yld (l:Nat) (pins:List AV):RV own w (.yld l pins pins) (.func (.yield l) #[] #[])
 | whn (g:Bool) (a:AV) (v:Value) (h:g=true→RV own w a v) (h':g=false→v=Go.undef):RV own w (.whn g a) v
inductive AObj where
 | box (cs:List AV)
 | row (T k c:Nat) (xs:List (List AV))
 | imap (kn:Nat) (es:List (List Int×AV)) (pd:Option (Int×Nat))
 | rmap (en:Array MapEntry) (cl:Nat)
 | raw (o:Obj)
 | rit (m cl:Nat) (seen:Array Nat)
def bU (kn:Nat)(k:List Int):Value:=match kn with
 | 0=>.int .i64 (k.headD 0)
 | _+1=>.agg (k.map (Value.int .i64)).toArray
def jv (kn:Nat):Nat:=match kn with
 | 0=>1
 | n+1=>n+1
abbrev Store:=Nat→Option AObj
abbrev Env:=Nat→AV
def own (s:Store)(b:Nat):Prop:=s b≠none
def ObjR (o:Nat→Prop)(w:World)(b:Nat):AObj→Prop
 | .box cs=>∃ (vs:Array Value) (T:TypeId),w.heap[b]?=some (.cells vs T (0,0))∧vs.size=cs.length∧∀ j,j < cs.length→RV o w (at_ cs j) (vs.getD j Go.undef)
 | .row T k c xs=>∃ vs:Array Value,w.heap[b]?=some (.cells vs T (0,0))∧vs.size=c*k∧xs.length≤c∧c≤9223372036854775807∧(∀ i,i < xs.length→(xs.getD i []).length=k) ∧
   ∀ i j,i < xs.length→j < k→RV o w (at_ (xs.getD i []) j) (vs.getD (i*k+j) Go.undef)∧(vs.getD (i*k+j) Go.undef).oneCell'=true
 | .imap kn es pd=>∃ (en:Array MapEntry) (cl:Nat),w.heap[b]?=some (.map en cl)∧en.size=es.length ∧
   (∀ i,i < es.length→(en.getD i default).key=bU kn (es.getD i default).1∧(es.getD i default).1.length=jv kn∧RV o w (es.getD i default).2 (en.getD i default).val) ∧
   (∀ i,i < es.length→(en.getD i default).born < cl)∧(∀ i j,i < es.length→j < es.length→(en.getD i default).born=(en.getD j default).born→i=j) ∧
   (∀ x i,pd=some (x,i)→i < es.length∧x=(en.getD i default).born)
 | .rmap en cl=>w.heap[b]?=some (.map en cl)
 | .raw o=>w.heap[b]?=some o
 | .rit m cl seen=>w.heap[b]?=some (.mapIter (some m) cl seen cl)
structure Mv (o o':Nat→Prop) (w w':World):Prop where
 os:w'.os=w.os
 tape:w'.tape=w.tape
 output:w'.output=w.output
 size:w.heap.size≤w'.heap.size
 block:∀ b,b < w.heap.size→¬ o b→w'.heap[b]?=w.heap[b]?
 grow:∀ b,o' b→o b∨w.heap.size≤b
theorem Mv.refl (o:Nat→Prop)(w:World):Mv o o w w:=⟨rfl,rfl,rfl,Nat.le_refl _,fun _ _ _=>rfl,fun _ h=>.inl h⟩
theorem Mv.trans {o o1 o2:Nat→Prop}{w w1 w2:World}(h:Mv o o1 w w1)(k:Mv o1 o2 w1 w2):Mv o o2 w w2:=by
 refine⟨k.os.trans h.os,k.tape.trans h.tape,k.output.trans h.output,Nat.le_trans h.size k.size,fun b hb hn=>?_,fun b hb=>?_⟩
 ·rw[k.block b (Nat.lt_of_lt_of_le hb h.size) fun h1=>?_,h.block b hb hn];rcases h.grow b h1 with h2 | h2
  ·exact hn h2
  ·omega
 ·rcases k.grow b hb with h1 | h1
  ·exact h.grow b h1
  ·exact .inr (Nat.le_trans h.size h1)
theorem Mv.cell {o o':Nat→Prop}{w w':World}(h:Mv o o' w w'){a:Addr}(ha:¬ o a.block)(hb:a.block < w.heap.size):w'.cell? a=w.cell? a:=
 World.cell?_of_block (h.block _ hb ha)
theorem bV (a:Addr)(n:Nat):(a.add n).block=a.block:=by unfold Addr.add; split <;> rfl
theorem Mv.not {o o':Nat→Prop}{w w':World}(h:Mv o o' w w'){b:Nat}(ha:¬ o b)(hb:b < w.heap.size):¬ o' b:=fun h1=>by
 rcases h.grow b h1 with h2 | h2
 ·exact ha h2
 ·omega
theorem FV.mv {o o':Nat→Prop}{w w':World}(hm:Mv o o' w w'){a:AV}{v:Value}(h:FV o w a v):FV o' w' a v:=by
 induction h with
 | int k n=>exact .int k n
 | bool b=>exact .bool b
 | str s=>exact .str s
 | nilp=>exact .nilp
 | nilm=>exact .nilm
 | emp a=>exact .emp a
 | lst0 k get a c=>exact .lst0 k get a c
 | lst k n get a c vf hn hnc hsp ha hb hc hl hv ih=>
  exact .lst k n get a c vf hn hnc hsp (hm.not ha hb) (Nat.lt_of_lt_of_le hb hm.size) (fun i j hi hj=>by rw[hm.cell (by rwa [bV]) (by rwa [bV])]; exact hc i j hi hj) hl (fun i j hi hj=>ih i j hi hj)
 | elm cs a vf hsp ha hb hc hv ih=>
  exact .elm cs a vf hsp (hm.not ha hb) (Nat.lt_of_lt_of_le hb hm.size) (fun j hj=>by rw[hm.cell (by rwa [bV]) (by rwa [bV])]; exact hc j hj) (fun j hj=>ih j hj)
theorem RV.mv {o o':Nat→Prop}{w w':World}(hm:Mv o o' w w'){a:AV}{v:Value}(h:RV o w a v):RV o' w' a v:=by
 induction h with
 | undef v=>exact .undef v
 | fz a v h=>exact .fz a v (h.mv hm)
 | ptr b o=>exact .ptr b o
 | rptr b k i j=>exact .rptr b k i j
 | slc b n c hn=>exact .slc b n c hn
 | slo b k o n c a hn ha=>exact .slo b k o n c a hn ha
 | mp b=>exact .mp b
 | agg cs vs hl h ih=>exact .agg cs vs hl ih
 | tup cs vs hl h ih=>exact .tup cs vs hl ih
 | fn f cs vs hl h ih=>exact .fn f cs vs hl ih
 | yld l pins=>exact .yld l pins
 | whn g a v h h' ih=>exact .whn g a v ih h'
theorem ObjR.mv {o o':Nat→Prop}{w w':World}(hm:Mv o o' w w'){b:Nat}(hb:w'.heap[b]?=w.heap[b]?){x:AObj}(h:ObjR o w b x):ObjR o' w' b x:=by
 cases x with
 | box cs=>obtain⟨vs,T,h1,h2,h3⟩:=h; exact⟨vs,T,hb.trans h1,h2,fun j hj=>(h3 j hj).mv hm⟩
 | row T k c xs=>obtain⟨vs,h1,h2,h3,h3',h4,h5⟩:=h; exact⟨vs,hb.trans h1,h2,h3,h3',h4,fun i j hi hj=>⟨(h5 i j hi hj).1.mv hm,(h5 i j hi hj).2⟩⟩
 | imap ag es pd=>obtain⟨en,cl,h1,h2,h3,h4,h5⟩:=h; exact⟨en,cl,hb.trans h1,h2,fun i hi=>⟨(h3 i hi).1,(h3 i hi).2.1,(h3 i hi).2.2.mv hm⟩,h4,h5⟩
 | rmap en cl=>exact hb.trans h
 | raw o=>exact hb.trans h
 | rit m cl seen=>exact hb.trans h
theorem ObjR.lt {o:Nat→Prop}{w:World}{b:Nat}{x:AObj}(h:ObjR o w b x):b < w.heap.size:=by
 have:∃ y,w.heap[b]?=some y:=by
  cases x with
  | box cs=>obtain⟨vs,T,h1,_⟩:=h; exact⟨_,h1⟩
  | row T k c xs=>obtain⟨vs,h1,_⟩:=h; exact⟨_,h1⟩
  | imap ag es pd=>obtain⟨en,cl,h1,_⟩:=h; exact⟨_,h1⟩
  | rmap en cl=>exact⟨_,h⟩
  | raw o=>exact⟨_,h⟩
  | rit m cl seen=>exact⟨_,h⟩
 obtain⟨y,hy⟩:=this;exact(Array.getElem?_eq_some_iff.1 hy).1
def St (s:Store)(w:World):Prop:=∀ b x,s b=some x→ObjR (own s) w b x
theorem St.lt {s:Store}{w:World}(h:St s w){b:Nat}(hb:own s b):b < w.heap.size:=by
 unfold own at hb;cases hs:s b with
 | none=>exact absurd hs hb
 | some x=>exact(h b x hs).lt
def FW (r:Option Nat):Fence:={Fence.wide with round:=r }
def cwp (r:Option Nat)(P:Program)(c:Code)(Q:Exit→Act→World→Prop)(a:Act)(w:World):Prop:=c.wpIn (FW r) 0 P Q a w
def owp (r:Option Nat)(P:Program)(o:Oper)(a:Act)(w:World)(next:Act→World→Prop)(Q:Exit→Act→World→Prop):Prop:=o.wpIn (FW r) 0 P a w next Q
def dJ (r:Option Nat)(P:Program)(ops:Array Oper)(Q:Exit→Act→World→Prop)(l:List Oper)(a:Act)(w:World):Prop:=wpListIn (FW r) 0 P ops Q l a w
def mK (r:Option Nat)(P:Program)(ops:Array Oper)(Q:Exit→Act→World→Prop)(m:Nat)(listed:Array Bool)(a:Act)(w:World):Prop:=wpAnyIn (FW r) 0 P .any ops Q m listed a w
theorem re (r:Option Nat)(n:Nat):(FW r).room n:=fun d h=>by simp[FW,Fence.wide]at h
theorem iw {r:Option Nat}{n:Nat}{P:Program}{f:FuncId}{args:Array Value}{w:World}{R:Ending→World→Prop}:CallsIn (FW r) n P f args w R↔Calls P f args w R:=
 ⟨fun h=>(callsIn_wide (n:=n)).1 ⟨trivial,fun cs _=>h.2 cs (re _ _)⟩,fun h=>⟨trivial,fun cs _=>((callsIn_wide (n:=n)).2 h).2 cs (room_wide _)⟩⟩
section
variable {r:Option Nat} {P:Program} {Q:Exit→Act→World→Prop} {a:Act} {w:World}
theorem wp_mono {c:Code}{Q':Exit→Act→World→Prop}(h:cwp r P c Q a w)(hq:∀ e a w,Q e a w→Q' e a w):cwp r P c Q' a w:=wpIn_mono h hq
theorem rf (h:Q .normal a w):cwp r P .skip Q a w:=wpIn_skip h
theorem wp_ret (h:Q .ret a w):cwp r P .ret Q a w:=wpIn_ret h
theorem rg {id:Nat}(h:Q (.exit id) a w):cwp r P (.exit id) Q a w:=wpIn_exit h
theorem uy {id:Nat}(h:Q .normal a w):cwp r P (.label id) Q a w:=wpIn_label h
theorem wp_seq {x y:Code}(h:cwp r P x (Exit.then (cwp r P y Q) Q) a w):cwp r P (.seq x y) Q a w:=wpIn_seq h
theorem wp_block {id:Nat}{c:Code}(h:cwp r P c (Exit.inBlock id Q) a w):cwp r P (.block id c) Q a w:=wpIn_block h
theorem eX {c:Operand}{x y:Code}{t:Bool}(hc:a.eval c = .bool t)(ht:t=true→cwp r P x Q a w)(hf:t=false→cwp r P y Q a w):cwp r P (.cond c x y) Q a w:=wpIn_cond_split hc ht hf
theorem cT {id:Nat}{ops:Array Oper}(h:dJ r P ops Q ops.toList a w):cwp r P (.region id ops false) Q a w:=wpIn_region_list h
theorem my {id:Nat}{ops:Array Oper}(hm:P.follows .mixedOrders=true)(h:mK r P ops Q ops.size (Array.replicate ops.size false) a {w with drawn:=w.drawn+1 }):cwp r P (.region id ops true) Q a w:=wpIn_region_any hm h
theorem gj {ops:Array Oper}{o:Oper}{rest:List Oper}(h:if Region.wanted o (yielded ops a.tmps)then owp r P o a w (dJ r P ops Q rest) Q else dJ r P ops Q rest (a.put o.dst Go.undef) w):dJ r P ops Q (o::rest) a w:=by
 unfold dJ wpListIn;split
 ·rename_i hw; rw[if_pos hw]at h; exact h
 ·rename_i hw; rw[if_neg hw]at h; exact⟨fun _ _=>trivial,h⟩
theorem qi {ops:Array Oper}{m:Nat}{listed:Array Bool}(h0:Region.ready .any ops listed=[]→Q .normal a w)
  (h:∀ i∈Region.ready .any ops listed,∃ o,ops[i]?=some o∧if Region.wanted o (yielded ops a.tmps)then owp r P o a w (mK r P ops Q m (listed.setIfInBounds i true)) Q else mK r P ops Q m (listed.setIfInBounds i true) (a.put o.dst Go.undef) w):mK r P ops Q (m+1) listed a w:=by
 refine⟨h0,fun i hi=>?_⟩;obtain⟨o,ho,h⟩:=h i hi;unfold wpOpIn;rw[ho];simp only;split
 ·rename_i hw; rw[if_pos hw]at h; exact h
 ·rename_i hw; rw[if_neg hw]at h; exact⟨fun _ _=>trivial,h⟩
theorem ig {c:Code}(I:Nat→Act→World→Prop)(n₀:Nat)(h₀:I n₀ a w)
  (round:∀ n a w,I n a w→cwp r P c (Exit.then (fun a' w'=>∃ n',n' < n∧I n' a' w') Q) a w):cwp r P (.loop c) Q a w:=by
 refine wpIn_loop (fun a w=>∃ n,I n a w) (fun a w=>leastOf (fun n=>I n a w)) ⟨n₀,h₀⟩ ?_;intro a w hI;refine wpIn_mono (round _ a w (leastOf_spec hI).1) ?_;intro e a' w' hq;cases e with
 | normal=>
  obtain⟨n',hlt,hI'⟩:=hq;exact show(∃ n,I n a' w')∧leastOf (fun n=>I n a' w') < leastOf (fun n=>I n a w)from⟨⟨n',hI'⟩,Nat.lt_of_le_of_lt ((leastOf_spec ⟨n',hI'⟩).2 n' hI') hlt⟩
 | exit id=>exact hq
 | goto l=>exact hq
 | ret=>exact hq
 | panic ch=>exact hq
 | outgrown=>exact hq
theorem cP {b:Frame}{c:Code}{k:List Item}{cs:List Frame}:step P (lone (b.atR a (.code (.scope c)::k)) cs w) = .next (lone (b.atR a (.code c :: .inScope c::k)) cs w):=
 step_lone_go (by simp[stepG,stepG.exec,Frame.atR])
theorem mz {b:Frame}{c:Code}{k:List Item}{cs:List Frame}:step P (lone (b.atR a (.inScope c::k)) cs w) = .next (lone (b.atR a k) cs w):=
 step_lone_go (by simp[stepG,stepG.exec,Frame.atR])
theorem uz {c:Code}(h:cwp r P c (Exit.noGoto Q) a w):cwp r P (.scope c) Q a w:=by
 intro b k cs hro hb hr;have h0:(lone (b.atR a (.code (.scope c)::k)) cs w).fenced P (FW r):=fenced_calm hb hr rfl;obtain⟨e,a₁,w₁,hq,harr⟩:=h b (.inScope c::k) cs hro hb hr;cases e with
 | normal=>exact⟨.normal,a₁,w₁,hq,.head h0 cP (StepsIn.trans harr (.one (fenced_calm hb hr rfl) mz))⟩
 | exit id'=>
  have hx:exitTo id' (.inScope c::k)=exitTo id' k:=by simp[exitTo]
  exact⟨.exit id',a₁,w₁,hq,fun k' hk=>.head h0 cP (harr.1 k' (by rw[hx]; exact hk)),
   fun hr' hk=>let ⟨k₁,h1,h2⟩:=harr.2 hr' (by rw[hx]; exact hk); ⟨k₁,h1,.head h0 cP h2⟩⟩
 | goto l=>exact hq.elim
 | ret=>exact⟨_,a₁,w₁,hq,.of_steps (.one h0 cP) harr⟩
 | panic ch=>exact⟨_,a₁,w₁,hq,.of_steps (.one h0 cP) harr⟩
 | outgrown=>exact⟨_,a₁,w₁,hq,.of_steps (.one h0 cP) harr⟩
theorem iV {ρ:Operand→Value}{o:Oper}{x:Next}{w':World}(h:(execOp ρ o).run P w = .ok x w')(hx:∀ d,x ≠ .defer d)(r:Option Nat):(o.semAt r ρ).run P w = .ok x w':=by
 cases ho:o.op with
 | defer c=>
  simp only[execOp,ho,Sem.run_bind]at h;cases hr:(resolve ρ c o.type).run P w with
  | ok d w1=>rw[hr]at h; simp[Result.andThen]at h; exact absurd h.1.symm (hx d)
  | halt p w1=>rw[hr]at h; simp[Result.andThen]at h
 | _=>rw[Oper.semAt_eq r ρ o (fun c hc=>by rw[ho]at hc; cases hc)]; exact h
theorem gM {o:Oper}{next:Act→World→Prop}{v:Value}{w':World}(hr:(execOp a.eval o).run P w = .ok (.value v) w')(h:next (a.put o.dst v) w'):owp r P o a w next Q:=
 ⟨fun _ _=>trivial,by rw[iV hr (fun d=>by simp)]; exact h⟩
theorem uA {o:Oper}{next:Act→World→Prop}{w':World}(hr:(execOp a.eval o).run P w = .ok .skip w')(h:next (a.put o.dst Go.undef) w'):owp r P o a w next Q:=
 ⟨fun _ _=>trivial,by rw[iV hr (fun d=>by simp)]; exact h⟩
theorem sU {o:Oper}{next:Act→World→Prop}{f:FuncId}{args:Array Value}{w':World}(hr:(execOp a.eval o).run P w = .ok (.enter f args) w')
  (h:Calls P f args w' fun en w''=>∃ v,en = .returned v∧next (a.put o.dst v) w''):owp r P o a w next Q:=
 ⟨fun _ _=>trivial,by
  rw[iV hr (fun d=>by simp)];refine⟨fun h=>(by cases h),iw.2 (h.mono ?_)⟩;rintro en w'' ⟨v,rfl,hn⟩;exact hn⟩
theorem sV {o:Oper}{next:Act→World→Prop}{l:Nat}{f:FuncId}{tmps:Array Value}{assign body:Code}{w':World}(hr:(execOp a.eval o).run P w = .ok (.round l f tmps assign body) w')
  (h:RoundIn (FW none) 0 P l f tmps assign body w' fun en w''=>∃ v,en = .returned v∧next (a.put o.dst v) w''):owp r P o a w next Q:=
 ⟨fun _ _=>trivial,by
  rw[iV hr (fun d=>by simp)];refine⟨fun h=>(by cases h),⟨trivial,fun c cs hroom=>?_⟩⟩;obtain⟨e,w'',⟨v,rfl,hn⟩,hc⟩:=h.2 c cs (re _ _);exact⟨.returned v,w'',hn,hc⟩⟩
end
structure Conf (n:Nat) (s:Store) (e:Env) (a:Act) (w:World):Prop where
 sz:a.tmps.size=n
 st:St s w
 env:∀ t,RV (own s) w (e t) (a.tmps.getD t Go.undef)
def post (n:Nat)(K:Exit→Env→Store→Prop)(s:Store)(d:List Deferred)(w:World):Exit→Act→World→Prop:=
 fun x a' w'=>∃ e' s',K x e' s'∧Conf n s' e' a' w'∧Mv (own s) (own s') w w'∧a'.defers=d
def jt (P:Program)(n:Nat)(c:Code)(K:Exit→Env→Store→Prop)(e:Env)(s:Store):Prop:=
 ∀ r a w,Conf n s e a w→cwp r P c (post n K s a.defers w) a w
theorem sW {K K':Exit→Env→Store→Prop}(h:∀ x e s,K x e s→K' x e s){s:Store}{d:List Deferred}{w:World}{x:Exit}{a:Act}{w':World}{n:Nat}(hp:post n K s d w x a w'):post n K' s d w x a w':=by
 obtain⟨e',s',h1,h2,h3⟩:=hp;exact⟨e',s',h _ _ _ h1,h2,h3⟩
theorem lq {K:Exit→Env→Store→Prop}{s s1:Store}{d:List Deferred}{w w1:World}(hm:Mv (own s) (own s1) w w1){x:Exit}{a:Act}{w':World}{n:Nat}(hp:post n K s1 d w1 x a w'):post n K s d w x a w':=by
 obtain⟨e',s',h1,h2,h3,h4⟩:=hp;exact⟨e',s',h1,h2,hm.trans h3,h4⟩
theorem gk {P:Program}{n:Nat}{c:Code}{K K':Exit→Env→Store→Prop}{e:Env}{s:Store}(h:∀ x e s,K x e s→K' x e s)(hc:jt P n c K e s):jt P n c K' e s:=
 fun r a w hf=>wp_mono (hc r a w hf) fun _ _ _ hp=>sW h hp
def sq (P:Program)(n:Nat)(b:Code)(K:Exit→Env→Store→Prop):Exit→Env→Store→Prop
 | .normal,e,s=>jt P n b K e s
 | x,e,s=>K x e s
def iy (id:Nat)(K:Exit→Env→Store→Prop):Exit→Env→Store→Prop
 | .exit i,e,s=>if i=id then K .normal e s else K (.exit i) e s
 | x,e,s=>K x e s
theorem uB {P:Program}{n:Nat}{K:Exit→Env→Store→Prop}{e:Env}{s:Store}(h:K .normal e s):jt P n .skip K e s:=
 fun r a w hf=>rf ⟨e,s,h,hf,Mv.refl _ _,rfl⟩
theorem wx {P:Program}{n:Nat}{K:Exit→Env→Store→Prop}{e:Env}{s:Store}(h:K .ret e s):jt P n .ret K e s:=
 fun r a w hf=>wp_ret ⟨e,s,h,hf,Mv.refl _ _,rfl⟩
theorem uC {P:Program}{n:Nat}{id:Nat}{K:Exit→Env→Store→Prop}{e:Env}{s:Store}(h:K (.exit id) e s):jt P n (.exit id) K e s:=
 fun r a w hf=>rg ⟨e,s,h,hf,Mv.refl _ _,rfl⟩
theorem wy {P:Program}{n:Nat}{x y:Code}{K:Exit→Env→Store→Prop}{e:Env}{s:Store}(h:jt P n x (sq P n y K) e s):jt P n (.seq x y) K e s:=by
 intro r a w hf;refine wp_seq (wp_mono (h r a w hf) ?_);intro ex a1 w1 hp;obtain⟨e1,s1,h1,h2,h3,h4⟩:=hp;cases ex with
 | normal=>exact wp_mono (h1 r a1 w1 h2) fun _ _ _ hp=>by rw[h4]at hp; exact lq h3 hp
 | exit id=>exact⟨e1,s1,h1,h2,h3,h4⟩
 | goto l=>exact⟨e1,s1,h1,h2,h3,h4⟩
 | ret=>exact⟨e1,s1,h1,h2,h3,h4⟩
 | panic ch=>exact⟨e1,s1,h1,h2,h3,h4⟩
 | outgrown=>exact⟨e1,s1,h1,h2,h3,h4⟩
theorem sX {P:Program}{n:Nat}{id:Nat}{c:Code}{K:Exit→Env→Store→Prop}{e:Env}{s:Store}(h:jt P n c (iy id K) e s):jt P n (.block id c) K e s:=by
 intro r a w hf;refine wp_block (wp_mono (h r a w hf) ?_);intro ex a1 w1 hp;obtain⟨e1,s1,h1,h2,h3⟩:=hp;cases ex with
 | normal=>exact⟨e1,s1,h1,h2,h3⟩
 | exit i=>
  show Exit.inBlock id _ (.exit i) a1 w1;simp only[Exit.inBlock];simp only[iy]at h1;split
  ·rename_i hi; rw[if_pos hi]at h1; exact⟨e1,s1,h1,h2,h3⟩
  ·rename_i hi; rw[if_neg hi]at h1; exact⟨e1,s1,h1,h2,h3⟩
 | goto l=>exact⟨e1,s1,h1,h2,h3⟩
 | ret=>exact⟨e1,s1,h1,h2,h3⟩
 | panic ch=>exact⟨e1,s1,h1,h2,h3⟩
 | outgrown=>exact⟨e1,s1,h1,h2,h3⟩
def nP (o:Nat→Prop)(w:World)(as:List AV)(vs:List Value):Prop:=vs.length=as.length∧∀ j,j < as.length→RV o w (at_ as j) (b9 vs j)
def ret (R:AV→Store→Prop)(s:Store)(w:World):Ending→World→Prop:=
 fun en w'=>∃ v r s',en = .returned v∧R r s'∧St s' w'∧RV (own s') w' r v∧Mv (own s) (own s') w w'
def lr (P : Program) (f : FuncId) : Prop := ∃ fn, P.funcs[f]? = some fn ∧ (fn.name == "runtime.NumGoroutine") = false ∧ fn.body.isNone = false
def YB:Nat:=1048576
def CallsY (P:Program)(f:FuncId)(vs:List Value)(w:World)(R:Ending→World→Prop):Prop:=
 (f≠YB→Calls P f vs.toArray w R)∧(f=YB→∃ l xs,vs=xs++[.func (.yield l) #[] #[]]∧YieldAt (FW none) 0 P l xs.toArray w R)
theorem nQ {F:Fence}{m:Nat}{P:Program}{l:Nat}{args:Array Value}{w:World}{R R':Ending→World→Prop}(h:YieldAt F m P l args w R)(hr:∀ e w',R e w'→R' e w'):YieldAt F m P l args w R':=by
 obtain⟨fn,tmps,assign,body,h1,h2⟩:=h;exact⟨fn,tmps,assign,body,h1,h2.mono hr⟩
theorem CallsY.mono {P:Program}{f:FuncId}{vs:List Value}{w:World}{R R':Ending→World→Prop}(h:CallsY P f vs w R)(hr:∀ e w',R e w'→R' e w'):CallsY P f vs w R':=
 ⟨fun hf=>(h.1 hf).mono hr,fun hf=>let ⟨l,xs,h1,h2⟩:=h.2 hf; ⟨l,xs,h1,nQ h2 hr⟩⟩
def AC (P:Program)(f:FuncId)(as:List AV)(s:Store)(R:AV→Store→Prop):Prop:=
 (f≠YB→lr P f)∧∀ vs w,St s w→nP (own s) w as vs→CallsY P f vs w (ret R s w)
theorem fE {P:Program}{f:FuncId}{as:List AV}{s:Store}{R R':AV→Store→Prop}(h:∀ r s,R r s→R' r s)(hc:AC P f as s R):AC P f as s R':=by
 refine⟨hc.1,fun vs w hs hv=>(hc.2 vs w hs hv).mono ?_⟩;rintro en w' ⟨v,r,s',h1,h2,h3⟩;exact⟨v,r,s',h1,h _ _ h2,h3⟩
def bW (s F:Store):Store:=fun b=>match F b with
 | some x=>some x
 | none=>s b
def lu (s F:Store):Prop:=∀ b,F b≠none→s b=none
def ACF (P:Program)(f:FuncId)(as:List AV)(s:Store)(R:AV→Store→Prop):Prop:=
 ∀ F,lu s F→AC P f as (bW s F) (fun r s1=>∃ s2,lu s2 F∧s1=bW s2 F∧R r s2)
theorem ACF.ac {P:Program}{f:FuncId}{as:List AV}{s:Store}{R:AV→Store→Prop}(h:ACF P f as s R):AC P f as s R:=by
 have:=h (fun _=>none) (fun b hb=>absurd rfl hb);exact fE (fun r s1 ⟨s2,_,e,hR⟩=>by rw[e]; exact hR) this
theorem dB {P:Program}{f:FuncId}{as:List AV}{s:Store}{R R':AV→Store→Prop}(h:∀ r s,R r s→R' r s)(hc:ACF P f as s R):ACF P f as s R':=
 fun F hF=>fE (fun r s1 ⟨s2,h1,h2,h3⟩=>⟨s2,h1,h2,h _ _ h3⟩) (hc F hF)
inductive Res where
 | t (n:Nat)
 | cell (a:Nat) (ag:Bool) (k:Nat)
def jw (e:Env)(s:Store):Res→Option AV
 | .t n=>some (e n)
 | .cell a ag k=>match e a with
  | .ptr b 0=>match s b with
   | some (.box cs)=>if cs.length=k then(if ag then some (.agg cs)else some (at_ cs 0))else none
   | _=>none
  | _=>none
def gl (e:Env)(s:Store):List Res→Option (List AV)
 | []=>some []
 | r::l=>match jw e s r with
  | some v=>match gl e s l with
   | some vs=>some (v::vs)
   | none=>none
  | none=>none
def gm (e:Env)(s:Store)(l:List Res):Option AV:=match gl e s l with
 | some [v]=>some v
 | some vs=>some (.tup vs)
 | none=>none
def lw (as:List AV):Env:=fun t=>at_ as t
end Go.Proofs.YtdkaijofmigmbaaGreat.L

set_option linter.unusedVariables false
set_option linter.unusedSimpArgs false
namespace Go.Proofs.YtdkaijofmigmbaaGreat.L
open Go
inductive Opd where
 | t (n:Nat)
 | c (a:AV)
def AV.val:AV→AV
 | .whn _ v=>v
 | v=>v
def AV.df:AV→Prop
 | .whn g _=>g=true
 | _=>True
def opd (e:Env):Opd→AV
 | .t n=>e n
 | .c a=>a
def AV.one:AV→Bool
 | .int .. | .bool _ | .str _ | .nilp | .ptr .. | .rptr .. | .elm _ | .emp | .lst .. | .slc .. | .slo .. | .mp _ | .nilm | .fn .. | .yld ..=>true
 | _=>false
def cellsOf:AV→List AV
 | .agg cs=>cs
 | v=>[v]
def cJ (cs:List AV)(o:Nat)(vs:List AV):List AV:=cs.take o++(vs++cs.drop (o+vs.length))
def upd (s:Store)(b:Nat)(x:AObj):Store:=fun c=>if c=b then some x else s c
def del (s:Store)(b:Nat):Store:=fun c=>if c=b then none else s c
def Env.set (e:Env)(d:Nat)(v:AV):Env:=fun t=>if t=d then v else e t
def Env.put (e:Env)(d:Option Nat)(v:AV):Env:=match d with
 | some d=>Env.set e d v
 | none=>e
structure Spec where
 pre:List AV→Store→Prop
 val:List AV→Store→AV
abbrev Tbl:=List (FuncId×Spec)
def Tbl.get:Tbl→FuncId→Option Spec
 | [],_=>none
 | (g,sp)::l,f=>if g=f then some sp else Tbl.get l f
inductive AOp where
 | mov (x:Opd)
 | bin (ex:Bool) (op:BinOp) (x y:Opd)
 | eqs (ne:Bool) (n:Nat) (x y:Opd)
 | unot (x:Opd)
 | uneg (x:Opd)
 | pick (c a b:Opd)
 | nilc (x:Opd)
 | fld (x:Opd) (off:Nat)
 | ld1 (x:Opd) (fr:Bool)
 | ldn (x:Opd) (n:Nat) (fr:Bool)
 | fldv (x:Opd) (off:Nat) (n:Nat) (ag:Bool)
 | idx (x i:Opd) (n:Nat)
 | idxs (x i:Opd)
 | len (x:Opd)
 | lens (x:Opd)
 | mnx (mx:Bool) (x y:Opd)
 | ext (x:Opd) (i:Nat)
 | bld (z:List AV) (ps:List (Nat×Nat×Opd))
 | mkf (f:FuncId) (caps:List Opd)
 | cvt (k:IntKind) (x:Opd)
 | sl (x:Opd) (lo hi:Option Opd) (n:Nat)
 | sls (x:Opd) (lo hi:Option Opd)
 | call (f:FuncId) (xs:List Opd)
 | callv (f:Opd) (xs:List Opd)
 | bsl (k:Nat) (xs:List Opd)
 | lkp (kn:Nat) (ok:Bool) (z:AV) (m key:Opd) (fr:Bool)
 | lenm (m:Opd) (fr:Bool)
 | bad
 | szk (by_:Nat) (x:Opd)
 | bq (ne:Bool) (x y:Opd)
 | mnl (mx:Bool) (xs:List Opd)
 | pnn (ne:Bool) (x:Opd)
 | cap (x:Opd)
 | sle (x hi:Opd)
 | apz (T k by_:Nat) (z:List AV) (x n:Opd)
 | idxa (x i:Opd) (k n:Nat)
 | sla (x:Opd) (k n:Nat)
 | slo (x:Opd) (lo hi:Option Opd) (k:Nat)
 | alc (z:List AV)
 | box (x:Opd)
 | sto (p v:Opd) (n:Nat)
 | mkm (kn T:Nat)
 | mks (T k by_:Nat) (z:List AV) (n:Opd)
 | bsr (T k:Nat) (xs:List Opd)
 | app (T k by_:Nat) (x y:Opd)
 | mup (kn:Nat) (m key v:Opd)
 | men (kn:Nat) (z:AV) (m key:Opd)
 | ens (m st v:Opd)
 | isn (ne:Bool) (x:Opd)
 | xcall (f:FuncId) (xs:List Opd)
 | xcallv (f:Opd) (xs:List Opd)
 | stl (p v:Opd) (n:Nat)
 | alcr (T k n:Nat) (z:List AV)
 | stoa (p v:Opd) (k n:Nat)
 | trn (x hi:Opd)
 | clr (x:Opd) (k:Nat) (z:List AV)
 | cpy (x y:Opd) (k:Nat)
structure AOper where
 dst:Option Nat
 op:AOp
 grd:Option (Nat×Bool)
def okk (k:IntKind)(n:Int):Prop:=k.wrap n=n
def oM (ex:Bool)(k:IntKind)(n:Int)(K:AV→Prop→Prop):Prop:=
 match ex with
 | true=>K (.int k n) (okk k n)
 | false=>K (.int k (k.wrap n)) True
def cD (k:IntKind)(a b:Int):Int:=k.wrap (BitVec.ofInt k.bits a &&& BitVec.ofInt k.bits b).toNat
def Kf (k:IntKind)(a b:Int):Int:=k.wrap (BitVec.ofInt k.bits a ||| BitVec.ofInt k.bits b).toNat
def CM (k:IntKind)(a b:Int):Int:=k.wrap (BitVec.ofInt k.bits a ^^^ BitVec.ofInt k.bits b).toNat
def uD (ex:Bool)(op:BinOp)(a b:AV)(K:AV→Prop→Prop):Prop:=
 match op,a,b with
 | .add,.int k a,.int k' b=>k=k'∧oM ex k (a+b) K
 | .sub,.int k a,.int k' b=>k=k'∧oM ex k (a-b) K
 | .mul,.int k a,.int k' b=>k=k'∧oM ex k (a*b) K
 | .quo,.int k a,.int k' b=>k=k'∧K (.int k (a.tdiv b)) (b≠0∧okk k (a.tdiv b))
 | .rem,.int k a,.int k' b=>k=k'∧K (.int k (a.tmod b)) (b≠0)
 | .and,.int k a,.int k' b=>k=k'∧K (.int k (cD k a b)) True
 | .or,.int k a,.int k' b=>k=k'∧K (.int k (Kf k a b)) True
 | .xor,.int k a,.int k' b=>k=k'∧K (.int k (CM k a b)) True
 | .shl,.int k a,.int _ b=>K (.int k (k.wrap (a*2^(min b.toNat k.bits)))) (0≤b)
 | .shr,.int k a,.int _ b=>K (.int k (a.fdiv (2^(min b.toNat k.bits)))) (0≤b)
 | .eql,.int k a,.int k' b=>k=k'∧K (.bool (decide (a=b))) True
 | .neq,.int k a,.int k' b=>k=k'∧K (.bool (!decide (a=b))) True
 | .lss,.int k a,.int k' b=>k=k'∧K (.bool (decide (a < b))) True
 | .leq,.int k a,.int k' b=>k=k'∧K (.bool (decide (a≤b))) True
 | .gtr,.int k a,.int k' b=>k=k'∧K (.bool (decide (b < a))) True
 | .geq,.int k a,.int k' b=>k=k'∧K (.bool (decide (b≤a))) True
 | .add,.str a,.str b=>K (.str (a++b)) (a.size+b.size≤9223372036854775807)
 | .eql,.str a,.str b=>K (.bool (a.toList==b.toList)) True
 | .neq,.str a,.str b=>K (.bool (!(a.toList==b.toList))) True
 | .lss,.str a,.str b=>K (.bool (Op.bytesLess a.toList b.toList)) True
 | _,_,_=>False
def dX:List AV→List AV→Bool→(Bool→Prop)→Prop
 | [],[],acc,K=>K acc
 | .int k a::l,.int k' b::l',acc,K=>k = .i64∧k' = .i64∧dX l l' (acc&&decide (a=b)) K
 | _,_,_,_=>False
def mL:List AV→List (Nat×AV)→List AV
 | z,[]=>z
 | z,(o,v)::l=>mL (cJ z o (cellsOf v)) l
def fF:List AV→Option (List Int)
 | []=>some []
 | .int .i64 n::l=>match fF l with
  | some r=>some (n::r)
  | none=>none
 | _::_=>none
def keyOf (kn:Nat)(v:AV)(K:List Int→Prop):Prop:=
 match kn,v with
 | 0,.int .i64 n=>K [n]
 | m+1,.agg cs=>match fF cs with
  | some l=>l.length=m+1∧K l
  | none=>False
 | _,_=>False
def bK (es:List (List Int×AV))(k:List Int):Option AV:=(es.find? fun x=>decide (x.1=k)).map (·.2)
def mput:List (List Int×AV)→List Int→AV→List (List Int×AV)
 | [],k,v=>[(k,v)]
 | (k',u)::l,k,v=>if k'=k then(k,v)::l else(k',u)::mput l k v
def aT (es:List (List Int×AV))(k:List Int):Nat:=es.findIdx fun x=>decide (x.1=k)
def AV.frz:AV→Bool
 | .int .. | .bool _ | .str _ | .nilp | .elm _ | .emp | .lst .. | .nilm=>true
 | _=>false
def eM (p:AV→Bool)(k:Nat):List AV→Prop
 | []=>True
 | v::l=>(cellsOf v).length=k∧(cellsOf v).all p=true∧eM p k l
def elems (k:Nat)(s:Store)(v:AV)(K:List (List AV)→Prop):Prop:=
 match v with
 | .emp=>K []
 | .lst k' n get=>k'=k∧K ((List.range n).map get)
 | .slc b n c=>match s b with
  | some (.row T k' c' xs)=>k'=k∧c'=c∧n=xs.length∧K xs
  | _=>False
 | .slo b k1 o n=>match s b with
  | some (.row T k' c' xs)=>k1=k∧k'=k∧o+n≤xs.length∧K ((xs.drop o).take n)
  | _=>False
 | _=>False
def vals (ρ:Opd→AV)(xs:List Opd):List AV:=xs.map fun x=>(ρ x).val
def ko (ρ:Opd→AV):List Opd→Prop
 | []=>True
 | x::l=>(ρ x).df∧ko ρ l
def iW (ρ:Opd→AV):List (Nat×Nat×Opd)→List (Nat×AV)
 | []=>[]
 | (o,_,x)::l=>(o,(ρ x).val)::iW ρ l
def CN (ρ:Opd→AV):List (Nat×Nat×Opd)→Prop
 | []=>True
 | (_,n,x)::l=>(ρ x).df∧(cellsOf (ρ x).val).length=n∧(cellsOf (ρ x).val).all AV.one=true∧CN ρ l
def lo_ (ρ:Opd→AV)(d:Int)(x:Option Opd)(K:Int→Prop→Prop):Prop:=
 match x with
 | none=>K d True
 | some x=>match(ρ x).val with
  | .int _ n=>K n (ρ x).df
  | _=>False
def mA (k n:Nat)(get:Nat→List AV)(lo m:Nat):AV:=.lst k (min m (n-lo)) (fun i=>if i < m then get (lo+i)else get n)
def sY (mx:Bool)(k:IntKind):Int→List AV→(Int→Prop)→Prop
 | a,[],K=>K a
 | a,.int k' b::l,K=>k=k'∧sY mx k (if mx then max a b else min a b) l K
 | _,_,_=>False
def gn (k n:Nat)(cs:List AV):List (List AV):=(List.range n).map fun i=>(cs.drop (i*k)).take k
def qj (xs:List (List AV))(o n:Nat)(z:List AV):List (List AV):=xs.take o++(List.replicate n z++xs.drop (o+n))
def nR (xs:List (List AV))(o:Nat)(ys:List (List AV)):List (List AV):=xs.take o++(ys++xs.drop (o+ys.length))
def cpyD (k:Nat)(R:Nat→Prop)(s:Store)(v:AV)(ys:List (List AV))(K:AV→Store→Prop):Prop:=
 match v with
 | .slo b k' o n=>match s b with
  | some (.row T k'' c xs)=>k'=k∧k''=k∧o+n≤xs.length∧¬ R b∧K (.int .i64 (min ys.length n:Nat)) (upd s b (.row T k c (nR xs o (ys.take (min ys.length n)))))
  | _=>False
 | .slc b n _=>match s b with
  | some (.row T k'' c xs)=>k''=k∧n≤xs.length∧¬ R b∧K (.int .i64 (min ys.length n:Nat)) (upd s b (.row T k c (nR xs 0 (ys.take (min ys.length n)))))
  | _=>False
 | .emp=>K (.int .i64 0) s
 | _=>False
theorem mM {k:Nat}{R:Nat→Prop}{s:Store}{v:AV}{ys:List (List AV)}{K K':AV→Store→Prop}(h:∀ r b x,¬ R b→K r (upd s b x)→K' r (upd s b x))(h0:∀ r,K r s→K' r s)(hk:cpyD k R s v ys K):cpyD k R s v ys K':=by
 unfold cpyD at *;split
 ·split
  ·simp only[*]at hk ⊢; exact⟨hk.1,hk.2.1,hk.2.2.1,hk.2.2.2.1,h _ _ _ hk.2.2.2.1 hk.2.2.2.2⟩
  ·simp only[*]at hk
 ·split
  ·simp only[*]at hk ⊢; exact⟨hk.1,hk.2.1,hk.2.2.1,h _ _ _ hk.2.2.1 hk.2.2.2⟩
  ·simp only[*]at hk
 ·first
  | exact h0 _ hk
  | (simp only[*]at hk ⊢; done)
 ·simp only[*]at hk
def sZ (by_:Nat):AV→Prop
 | .int _ m=>0≤m∧by_*m≤140737488355328
 | _=>False
def nop (T : Tbl) (R : Nat → Prop) (o : AOp) (ρ : Opd → AV) (s : Store) (K : AV → Prop → Prop) : Prop :=
 match o with
 | .mov x => K (ρ x).val (ρ x).df
 | .bin ex op x y => uD ex op (ρ x).val (ρ y).val fun v p => K v ((ρ x).df ∧ (ρ y).df ∧ p)
 | .eqs ne n x y => match (ρ x).val, (ρ y).val with
  | .agg cs, .agg ds => cs.length = n ∧ dX cs ds true fun b => K (.bool (if ne then !b else b)) ((ρ x).df ∧ (ρ y).df)
  | _, _ => False
 | .unot x => match (ρ x).val with
  | .bool b => K (.bool (!b)) (ρ x).df
  | _ => False
 | .uneg x => match (ρ x).val with
  | .int k n => K (.int k (0 - n)) ((ρ x).df ∧ okk k (0 - n))
  | _ => False
 | .pick c a b => match (ρ c).val with
  | .bool g => K (cond g (ρ a).val (ρ b).val) ((ρ c).df ∧ (g = true → (ρ a).df) ∧ (g = false → (ρ b).df))
  | _ => False
 | .nilc x => match (ρ x).val with
  | .ptr b o => K (.ptr b o) (ρ x).df
  | .rptr b k i j => K (.rptr b k i j) (ρ x).df
  | .elm cs => K (.elm cs) (ρ x).df
  | _ => False
 | .fld x off => match (ρ x).val with
  | .ptr b o => K (.ptr b (o + off)) (ρ x).df
  | .rptr b k i j => K (.rptr b k i (j + off)) (ρ x).df
  | .elm cs => K (.elm (cs.drop off)) (ρ x).df
  | _ => False
 | .ld1 x fr => match (ρ x).val with
  | .elm cs => K (at_ cs 0) ((ρ x).df ∧ 1 ≤ cs.length)
  | .ptr b o => match s b with
   | some (.box cs) => K (at_ cs o) ((ρ x).df ∧ o + 1 ≤ cs.length ∧ (fr = true → R b))
   | _ => False
  | .rptr b k i j => match s b with
   | some (.row _ k' _ xs) => k = k' ∧ K (at_ (xs.getD i []) j) ((ρ x).df ∧ i < xs.length ∧ j + 1 ≤ k ∧ (fr = true → R b))
   | _ => False
  | _ => False
 | .ldn x n fr => match (ρ x).val with
  | .elm cs => K (.agg (cs.take n)) ((ρ x).df ∧ n ≤ cs.length)
  | .ptr b o => match s b with
   | some (.box cs) => K (.agg ((cs.drop o).take n)) ((ρ x).df ∧ o + n ≤ cs.length ∧ (fr = true → R b))
   | _ => False
  | .rptr b k i j => match s b with
   | some (.row _ k' _ xs) => k = k' ∧ K (.agg (((xs.getD i []).drop j).take n)) ((ρ x).df ∧ i < xs.length ∧ j + n ≤ k ∧ (fr = true → R b))
   | _ => False
  | _ => False
 | .fldv x off n ag => match (ρ x).val with
  | .agg cs => K (if ag then .agg ((cs.drop off).take n) else at_ cs off) ((ρ x).df ∧ off + n ≤ cs.length)
  | _ => False
 | .idx x i n => match (ρ x).val, (ρ i).val with
  | .lst k l get, .int _ z => k = n ∧ K (.elm (get z.toNat)) ((ρ x).df ∧ (ρ i).df ∧ 0 ≤ z ∧ z < l)
  | .slc b l _, .int _ z => K (.rptr b n z.toNat 0) ((ρ x).df ∧ (ρ i).df ∧ 0 ≤ z ∧ z < l)
  | .slo b k o l, .int _ z => k = n ∧ K (.rptr b n (o + z.toNat) 0) ((ρ x).df ∧ (ρ i).df ∧ 0 ≤ z ∧ z < l)
  | _, _ => False
 | .idxs x i => match (ρ x).val, (ρ i).val with
  | .str t, .int _ z => K (.int .u8 (t.toList.getD z.toNat 0).toNat) ((ρ x).df ∧ (ρ i).df ∧ 0 ≤ z ∧ z < t.size)
  | _, _ => False
 | .len x => match (ρ x).val with
  | .lst _ n _ => K (.int .i64 n) (ρ x).df
  | .slc _ n _ => K (.int .i64 n) (ρ x).df
  | .slo _ _ _ n => K (.int .i64 n) (ρ x).df
  | .emp => K (.int .i64 0) (ρ x).df
  | _ => False
 | .lens x => match (ρ x).val with
  | .str t => K (.int .i64 t.size) (ρ x).df
  | _ => False
 | .mnx mx x y => match (ρ x).val, (ρ y).val with
  | .int k a, .int k' b => k = k' ∧ K (.int k (if mx then max a b else min a b)) ((ρ x).df ∧ (ρ y).df)
  | _, _ => False
 | .ext x i => match (ρ x).val with
  | .tup vs => K (at_ vs i) ((ρ x).df ∧ i < vs.length)
  | _ => False
 | .bld z ps => K (.agg (mL z (iW ρ ps))) (CN ρ ps)
 | .mkf f caps => K (.fn f (vals ρ caps)) (ko ρ caps)
 | .cvt k x => match (ρ x).val with
  | .int _ n => K (.int k n) ((ρ x).df ∧ okk k n)
  | _ => False
 | .sl x lo hi m => match (ρ x).val with
  | .lst k n get => k = m ∧ lo_ ρ 0 lo fun l p => lo_ ρ n hi fun h q => K (mA k n get l.toNat (h - l).toNat) ((ρ x).df ∧ p ∧ q ∧ 0 ≤ l ∧ l ≤ h ∧ h ≤ n)
  | .emp => lo_ ρ 0 lo fun l p => lo_ ρ (0 : Nat) hi fun h q => K (mA m 0 (fun _ => []) l.toNat (h - l).toNat) ((ρ x).df ∧ p ∧ q ∧ 0 ≤ l ∧ l ≤ h ∧ h ≤ (0 : Nat))
  | _ => False
 | .sls x lo hi => match (ρ x).val with
  | .str t => lo_ ρ 0 lo fun l p => lo_ ρ t.size hi fun h q => K (.str (t.extract l.toNat h.toNat)) ((ρ x).df ∧ p ∧ q ∧ 0 ≤ l ∧ l ≤ h ∧ h ≤ t.size)
  | _ => False
 | .call f xs => match Tbl.get T f with
  | some sp => K (sp.val (vals ρ xs) s) (ko ρ xs ∧ sp.pre (vals ρ xs) s)
  | none => False
 | .callv f xs => match (ρ f).val with
  | .fn f' caps => match Tbl.get T f' with
   | some sp => K (sp.val (vals ρ xs ++ caps) s) ((ρ f).df ∧ ko ρ xs ∧ sp.pre (vals ρ xs ++ caps) s)
   | none => False
  | _ => False
 | .bsl k xs => K (if xs.length = 0 then .emp else .lst k xs.length (fun i => cellsOf (at_ (vals ρ xs) i))) (ko ρ xs ∧ eM AV.frz k (vals ρ xs))
 | .lkp ag ok z m key fr => match (ρ m).val with
  | .mp b => match s b with
   | some (.imap ag' es _) => ag = ag' ∧ keyOf ag (ρ key).val fun k =>
     K (if ok then .tup [(bK es k).getD z, .bool (bK es k).isSome] else (bK es k).getD z) ((ρ m).df ∧ (ρ key).df ∧ (fr = true → R b))
   | _ => False
  | _ => False
 | .lenm m fr => match (ρ m).val with
  | .mp b => match s b with
   | some (.imap _ es _) => K (.int .i64 es.length) ((ρ m).df ∧ (fr = true → R b))
   | _ => False
  | _ => False
 | .bad => K .undef False
 | .szk by_ x => K .undef ((ρ x).df ∧ sZ by_ (ρ x).val)
 | .bq ne x y => match (ρ x).val, (ρ y).val with
  | .bool a, .bool b => K (.bool (match ne with | true => a != b | false => a == b)) ((ρ x).df ∧ (ρ y).df)
  | _, _ => False
 | .mnl mx xs => match vals ρ xs with
  | .int k a :: l => sY mx k a l fun n => K (.int k n) (ko ρ xs)
  | _ => False
 | .pnn ne x => match (ρ x).val with
  | .nilp => K (.bool (!ne)) (ρ x).df
  | .ptr .. => K (.bool ne) (ρ x).df
  | .rptr .. => K (.bool ne) (ρ x).df
  | .elm _ => K (.bool ne) (ρ x).df
  | _ => False
 | .cap x => match (ρ x).val with
  | .emp => K (.int .i64 0) (ρ x).df
  | _ => False
 | .sle x hi => match (ρ x).val, (ρ hi).val with
  | .emp, .int _ z => K .emp ((ρ x).df ∧ (ρ hi).df ∧ z = 0)
  | _, _ => False
 | .idxa x i k n => match (ρ x).val, (ρ i).val with
  | .rptr b k' 0 0, .int _ z => k' = k ∧ K (.rptr b k z.toNat 0) ((ρ x).df ∧ (ρ i).df ∧ 0 ≤ z ∧ z < n)
  | _, _ => False
 | .sla x k n => match (ρ x).val with
  | .rptr b k' 0 0 => k' = k ∧ K (.slo b k 0 n) (ρ x).df
  | _ => False
 | .slo x lo hi k => match (ρ x).val with
  | .slc b n c => lo_ ρ 0 lo fun l p => lo_ ρ n hi fun h q => K (.slo b k l.toNat (h - l).toNat) ((ρ x).df ∧ p ∧ q ∧ 0 ≤ l ∧ l ≤ h ∧ h ≤ n)
  | .slo b k' o n => k' = k ∧ lo_ ρ 0 lo fun l p => lo_ ρ n hi fun h q => K (.slo b k (o + l.toNat) (h - l).toNat) ((ρ x).df ∧ p ∧ q ∧ 0 ≤ l ∧ l ≤ h ∧ h ≤ n)
  | _ => False
 | _ => False
def uE (v:AV)(K:Bool→Prop):Prop:=match v with
 | .lst _ n _=>∀ b,(b=true→n=0)→K b
 | .emp=>∀ b,K b
 | .slc ..=>K false
 | _=>False
def eff (P:Program)(R:Nat→Prop)(o:AOp)(ρ:Opd→AV)(s:Store)(K:AV→Store→Prop):Prop:=
 match o with
 | .alc z=>∀ b,s b=none→¬ R b→K (.ptr b 0) (upd s b (.box z))
 | .box x=>(ρ x).df∧(cellsOf (ρ x).val).all AV.one=true∧∀ b,s b=none→¬ R b→K (.ptr b 0) (upd s b (.box (cellsOf (ρ x).val)))
 | .sto p v n=>(ρ p).df∧(ρ v).df∧(cellsOf (ρ v).val).length=n∧(cellsOf (ρ v).val).all AV.one=true∧match(ρ p).val with
  | .ptr b o=>match s b with
   | some (.box cs)=>¬ R b∧o+n≤cs.length∧K .undef (upd s b (.box (cJ cs o (cellsOf (ρ v).val))))
   | _=>False
  | .rptr b k i j=>match s b with
   | some (.row T k' c xs)=>k=k'∧¬ R b∧i < xs.length∧j+n≤k∧K .undef (upd s b (.row T k c (xs.set i (cJ (xs.getD i []) j (cellsOf (ρ v).val)))))
   | _=>False
  | _=>False
 | .mkm ag _=>∀ b,s b=none→¬ R b→K (.mp b) (upd s b (.imap ag [] none))
 | .mks T k by_ z n=>(ρ n).df∧match(ρ n).val with
  | .int _ m=>0≤m∧by_*m≤140737488355328∧∀ b,s b=none→¬ R b→K (.slc b m.toNat m.toNat) (upd s b (.row T k m.toNat (List.replicate m.toNat z)))
  | _=>False
 | .bsr T k xs=>ko ρ xs∧eM AV.one k (vals ρ xs)∧∀ b,s b=none→¬ R b→K (.slc b xs.length xs.length) (upd s b (.row T k xs.length ((vals ρ xs).map cellsOf)))
 | .app T k by_ x y=>(ρ x).df∧(ρ y).df∧elems k s (ρ y).val fun ys=>match(ρ x).val with
  | .emp=>by_*ys.length≤140737488355328∧(ys.length=0→K .emp s) ∧
    (0 < ys.length→∀ b c,s b=none→¬ R b→ys.length≤c→K (.slc b ys.length c) (upd s b (.row T k c ys)))
  | .slc b n c=>match s b with
   | some (.row T' k' c' xs)=>T'=T∧k'=k∧c'=c∧n=xs.length∧¬ R b∧by_*(n+ys.length)≤140737488355328 ∧
     ∀ b' c'',(del s b) b'=none→¬ R b'→n+ys.length≤c''→K (.slc b' (n+ys.length) c'') (upd (del s b) b' (.row T k c'' (xs++ys)))
   | _=>False
  | _=>False
 | .mup ag m key v=>(ρ m).df∧(ρ key).df∧(ρ v).df∧match(ρ m).val with
  | .mp b=>match s b with
   | some (.imap ag' es _)=>ag=ag'∧¬ R b∧keyOf ag (ρ key).val fun k=>K .undef (upd s b (.imap ag (mput es k (ρ v).val) none))
   | _=>False
  | _=>False
 | .men ag z m key=>(ρ m).df∧(ρ key).df∧match(ρ m).val with
  | .mp b=>match s b with
   | some (.imap ag' es _)=>ag=ag'∧¬ R b∧keyOf ag (ρ key).val fun k=>∀ st:Int,
     K (.tup [(bK es k).getD z,.int .i64 st]) (upd s b (.imap ag (mput es k ((bK es k).getD z)) (some (st,aT es k))))
   | _=>False
  | _=>False
 | .ens m st v=>(ρ m).df∧(ρ st).df∧(ρ v).df∧match(ρ m).val,(ρ st).val with
  | .mp b,.int _ x=>match s b with
   | some (.imap ag es (some (y,i)))=>x=y∧¬ R b∧K .undef (upd s b (.imap ag (es.set i ((es.getD i default).1,(ρ v).val)) none))
   | _=>False
  | _,_=>False
 | .isn ne x=>(ρ x).df∧uE (ρ x).val fun b=>K (.bool (if ne then !b else b)) s
 | .xcall f xs=>ko ρ xs∧ACF P f (vals ρ xs) s fun r s'=>(∀ b,R b→s' b=s b)∧K r s'
 | .xcallv f xs=>(ρ f).df∧ko ρ xs∧match(ρ f).val with
  | .fn f' caps=>f'≠YB∧ACF P f' (vals ρ xs++caps) s fun r s'=>(∀ b,R b→s' b=s b)∧K r s'
  | .yld l pins caps=>ACF P YB (vals ρ xs++[.yld l pins caps]) s fun r s'=>(∀ b,R b→s' b=s b)∧K r s'
  | _=>False
 | .stl p v n=>(ρ p).df∧(ρ v).df∧(cellsOf (ρ v).val).length=n∧(cellsOf (ρ v).val).all AV.one=true∧match(ρ p).val with
  | .ptr b o=>match s b with
   | some (.box cs)=>o+n≤cs.length∧K .undef (upd s b (.box (cJ cs o (cellsOf (ρ v).val))))
   | _=>False
  | .rptr b k i j=>match s b with
   | some (.row T k' c xs)=>k=k'∧i < xs.length∧j+n≤k∧K .undef (upd s b (.row T k c (xs.set i (cJ (xs.getD i []) j (cellsOf (ρ v).val)))))
   | _=>False
  | _=>False
 | .alcr T k n z=>∀ b,s b=none→¬ R b→K (.rptr b k 0 0) (upd s b (.row T k n (List.replicate n z)))
 | .stoa p v k n=>(ρ p).df∧(ρ v).df∧match(ρ p).val,(ρ v).val with
  | .rptr b k' 0 0,.agg cs=>match s b with
   | some (.row T k'' c xs)=>k'=k∧k''=k∧xs.length=n∧cs.length=n*k∧cs.all AV.one=true∧¬ R b∧K .undef (upd s b (.row T k c (gn k n cs)))
   | _=>False
  | _,_=>False
 | .trn x hi=>(ρ x).df∧(ρ hi).df∧match(ρ x).val,(ρ hi).val with
  | .slc b n c,.int _ z=>match s b with
   | some (.row T k' c' xs)=>c'=c∧n=xs.length∧¬ R b∧0≤z∧z≤n∧∀ b',(del s b) b'=none→¬ R b'→K (.slc b' z.toNat c) (upd (del s b) b' (.row T k' c (xs.take z.toNat)))
   | _=>False
  | _,_=>False
 | .apz T k by_ z x n=>(ρ x).df∧(ρ n).df∧match(ρ x).val,(ρ n).val with
  | .emp,.int _ m=>0 < m∧by_*m≤140737488355328∧∀ b c,s b=none→¬ R b→m.toNat≤c→K (.slc b m.toNat c) (upd s b (.row T k c (List.replicate m.toNat z)))
  | _,_=>False
 | .cpy x y k=>(ρ x).df∧(ρ y).df∧elems k s (ρ y).val fun ys=>cpyD k R s (ρ x).val ys K
 | .clr x k z=>(ρ x).df∧match(ρ x).val with
  | .slo b k' o n=>match s b with
   | some (.row T k'' c xs)=>k'=k∧k''=k∧z.length=k∧o+n≤xs.length∧¬ R b∧K .undef (upd s b (.row T k c (qj xs o n z)))
   | _=>False
  | _=>False
 | _=>False
def bA:AOp→Bool
 | .alc _ | .box _ | .sto .. | .mkm .. | .mks .. | .bsr .. | .app .. | .mup .. | .men .. | .ens .. | .isn .. | .xcall .. | .xcallv .. | .stl .. | .alcr .. | .stoa .. | .trn .. | .clr .. | .cpy .. | .apz ..=>true
 | _=>false
def gb (want c:Bool):Bool:=match want with
 | true=>c
 | false=>!c
def ga (want:Bool):AV→Option Bool
 | .bool c=>some (gb want c)
 | .whn false _=>some false
 | .whn true (.bool c)=>some (gb want c)
 | _=>none
def xo (P:Program)(T:Tbl)(R:Nat→Prop)(o:AOper)(K:Env→Store→Prop)(e:Env)(s:Store):Prop:=
 match o.grd with
 | none=>match bA o.op with
  | true=>eff P R o.op (opd e) s fun r s'=>K (Env.put e o.dst r) s'
  | false=>nop T R o.op (opd e) s fun v ob=>ob∧K (Env.put e o.dst v) s
 | some (g,want)=>match ga want (e g)with
  | some c=>match bA o.op with
   | true=>(c=true→eff P R o.op (opd e) s fun r s'=>K (Env.put e o.dst r) s')∧(c=false→K (Env.put e o.dst .undef) s)
   | false=>match c with
    | true=>nop T R o.op (opd e) s fun v ob=>ob∧K (Env.put e o.dst (.whn true v)) s
    | false=>K (Env.put e o.dst (.whn false .undef)) s
  | none=>False
def xr (P:Program)(T:Tbl)(R:Nat→Prop):List AOper→(Env→Store→Prop)→Env→Store→Prop
 | [],K,e,s=>K e s
 | o::l,K,e,s=>xo P T R o (fun e' s'=>xr P T R l K e' s') e s
end Go.Proofs.YtdkaijofmigmbaaGreat.L

set_option linter.unusedVariables false
set_option linter.unusedSimpArgs false
namespace Go.Proofs.YtdkaijofmigmbaaGreat.L
open Go
section
variable {o:Nat→Prop} {w:World}
theorem aN {k:IntKind}{n:Int}{v:Value}(h:RV o w (.int k n) v):v = .int k n:=by
 cases h with | fz a v h=>cases h; rfl
theorem dC {b:Bool}{v:Value}(h:RV o w (.bool b) v):v = .bool b:=by
 cases h with | fz a v h=>cases h; rfl
theorem gN {b:ByteArray}{v:Value}(h:RV o w (.str b) v):v = .string b:=by
 cases h with | fz a v h=>cases h; rfl
theorem oN {v:Value}(h:RV o w .nilp v):v = .pointer none:=by
 cases h with | fz a v h=>cases h; rfl
theorem cE {b p:Nat}{v:Value}(h:RV o w (.ptr b p) v):v = .pointer (some ⟨b,p,none⟩):=by
 cases h with
 | fz a v h=>cases h
 | ptr=>rfl
theorem cU {b k i j:Nat}{v:Value}(h:RV o w (.rptr b k i j) v):v = .pointer (some ⟨b,i*k+j,none⟩):=by
 cases h with
 | fz a v h=>cases h
 | rptr=>rfl
theorem dy {b n c:Nat}{v:Value}(h:RV o w (.slc b n c) v):v = .slice (some ⟨b,0,none⟩) n c:=by
 cases h with
 | fz a v h=>cases h
 | slc=>rfl
theorem qk {b n c:Nat}{v:Value}(h:RV o w (.slc b n c) v):n≤c:=by
 cases h with
 | fz a v h=>cases h
 | slc _ _ _ hn=>exact hn
theorem fG {b k p n:Nat}{v:Value}(h:RV o w (.slo b k p n) v):∃ a c,v = .slice (some a) n c∧n≤c∧(0 < n→a=⟨b,p*k,none⟩):=by
 cases h with
 | fz a v h=>cases h
 | slo _ _ _ _ c a hn ha=>exact⟨a,c,rfl,hn,ha⟩
theorem iz {b:Nat}{v:Value}(h:RV o w (.mp b) v):v = .map (some b):=by
 cases h with
 | fz a v h=>cases h
 | mp=>rfl
theorem cV {v:Value}(h:RV o w .emp v):∃ a,v = .slice a 0 0:=by
 cases h with | fz a v h=>cases h; exact⟨_,rfl⟩
theorem iX {cs:List AV}{v:Value}(h:RV o w (.elm cs) v):∃ (a:Addr) (vf:Nat→Value),v = .pointer (some a)∧a.spot=none∧¬ o a.block∧a.block < w.heap.size ∧
  (∀ j,j < cs.length→w.cell? (a.add j)=some (vf j))∧(∀ j,j < cs.length→FV o w (at_ cs j) (vf j)):=by
 cases h with | fz a v h=>cases h with | elm cs a vf hsp ha hb hc hv=>exact⟨a,vf,rfl,hsp,ha,hb,hc,hv⟩
theorem iY {k n:Nat}{get:Nat→List AV}{v:Value}(h:RV o w (.lst k n get) v):∃ a c,v = .slice a n c∧n≤c∧(0 < n→∃ (ad:Addr) (vf:Nat→Nat→Value),a=some ad∧ad.spot=none∧¬ o ad.block∧ad.block < w.heap.size ∧
  (∀ i j,i < n→j < k→w.cell? (ad.add (i*k+j))=some (vf i j))∧(∀ i,i < n→(get i).length=k)∧(∀ i j,i < n→j < k→FV o w (at_ (get i) j) (vf i j))):=by
 cases h with
 | fz a v h=>cases h with
  | lst0 k get a c=>exact⟨a,c,rfl,Nat.zero_le _,fun h=>by omega⟩
  | lst k n get a c vf hn hnc hsp ha hb hc hl hv=>exact⟨some a,c,rfl,hnc,fun _=>⟨a,vf,rfl,hsp,ha,hb,hc,hl,hv⟩⟩
theorem gO {cs:List AV}{v:Value}(h:RV o w (.agg cs) v):∃ vs:List Value,v = .agg vs.toArray∧vs.length=cs.length∧∀ j,j < cs.length→RV o w (at_ cs j) (b9 vs j):=by
 cases h with
 | fz a v h=>cases h
 | agg cs vs hl h=>exact⟨vs,rfl,hl,h⟩
theorem kT {cs:List AV}{v:Value}(h:RV o w (.tup cs) v):∃ vs:List Value,v = .tuple vs.toArray∧vs.length=cs.length∧∀ j,j < cs.length→RV o w (at_ cs j) (b9 vs j):=by
 cases h with
 | fz a v h=>cases h
 | tup cs vs hl h=>exact⟨vs,rfl,hl,h⟩
theorem nS {f:FuncId}{cs:List AV}{v:Value}(h:RV o w (.fn f cs) v):∃ vs:List Value,v = .func (.func f) #[] vs.toArray∧vs.length=cs.length∧∀ j,j < cs.length→RV o w (at_ cs j) (b9 vs j):=by
 cases h with
 | fz a v h=>cases h
 | fn f cs vs hl h=>exact⟨vs,rfl,hl,h⟩
theorem rh {l:Nat}{pins cs:List AV}{v:Value}(h:RV o w (.yld l pins cs) v):v = .func (.yield l) #[] #[]∧cs=pins:=by
 cases h with
 | fz a v h=>cases h
 | yld=>exact⟨rfl,rfl⟩
theorem wz {g:Bool}{a:AV}{v:Value}(h:RV o w (.whn g a) v):(g=true→RV o w a v)∧(g=false→v=Go.undef):=by
 cases h with
 | whn _ _ _ h h'=>exact⟨h,h'⟩
 | fz _ _ h=>cases h
theorem al {x:AV}{v:Value}(h:RV o w x v)(hd:x.df):RV o w x.val v:=by
 cases x with
 | whn g a=>
  cases h with
  | fz a v h=>cases h
  | whn g a v h h'=>exact h hd
 | _=>exact h
theorem ql {x:AV}{v:Value}(h:RV o w x v)(h1:x.one=true):v.oneCell'=true:=by
 cases h with
 | undef=>simp[AV.one]at h1
 | fz a v h=>cases h <;> rfl
 | agg=>simp[AV.one]at h1
 | tup=>simp[AV.one]at h1
 | whn=>simp[AV.one]at h1
 | _=>rfl
theorem ff {x:AV}{v:Value}(h:RV o w x v)(h1:(cellsOf x).all AV.one=true):v.cells.size=(cellsOf x).length∧(∀ j,j < (cellsOf x).length→RV o w (at_ (cellsOf x) j) (v.cells.getD j Go.undef))∧(∀ u∈v.cells.toList,u.oneCell'=true):=by
 cases x with
 | agg cs=>
  obtain⟨vs,rfl,hl,hv⟩:=gO h;simp only[cellsOf]at *;refine⟨by simpa [Value.cells]using hl,fun j hj=>by simpa [Value.cells,b9]using hv j hj,fun u hu=>?_⟩;simp only[Value.cells]at hu;obtain⟨j,hj,rfl⟩:=List.getElem_of_mem hu;have hj':j < cs.length:=by rw[← hl]; simpa using hj
  have:=hv j hj';have h2:(at_ cs j).one=true:=by
   have:=List.all_eq_true.1 h1 (cs[j]) (List.getElem_mem hj')
   simpa [at_,List.getD_eq_getElem?_getD,hj']using this
  have h3:=ql this h2
  simpa [b9,List.getD_eq_getElem?_getD,hl,hj']using h3
 | _=>
  have h2:=ql h (by simpa [cellsOf]using h1);have hc:v.cells=#[v]:=by cases v <;> first | rfl | simp[Value.oneCell']at h2
  rw[hc];refine⟨by simp[cellsOf],fun j hj=>?_,fun u hu=>?_⟩
  ·obtain rfl:j=0:=by simp[cellsOf]at hj; omega
   simpa [cellsOf,at_]using h
  ·simp at hu; rw[hu]; exact h2
end
def YW (P:Program)(o:Oper)(a:Act)(s:Store)(w:World)(k:AV→Store→Prop):Prop:=
 ∀ (ro:Option Nat) (next:Act→World→Prop) (Q:Exit→Act→World→Prop),(∀ v r s' w',k r s'→RV (own s') w' r v→St s' w'→Mv (own s) (own s') w w'→next (a.put o.dst v) w')→owp ro P o a w next Q
section
variable {P:Program} {o:Oper} {a:Act} {s:Store} {w:World} {k:AV→Store→Prop}
theorem aL {v:Value}{r:AV}{s':Store}{w':World}(hr:(execOp a.eval o).run P w = .ok (.value v) w')(hk:k r s')(hv:RV (own s') w' r v)(hs:St s' w')(hm:Mv (own s) (own s') w w'):YW P o a s w k:=by
 intro ro next Q h
 exact gM hr (h v r s' w' hk hv hs hm)
theorem gP {s':Store}{w':World}(hr:(execOp a.eval o).run P w = .ok .skip w')(hk:k .undef s')(hs:St s' w')(hm:Mv (own s) (own s') w w'):YW P o a s w k:=by
 intro ro next Q h
 exact uA hr (h _ .undef s' w' hk (.undef _) hs hm)
theorem kU {f:FuncId}{as:List AV}{vs:List Value}{R:AV→Store→Prop}(hr:(execOp a.eval o).run P w = .ok (.enter f vs.toArray) w)(hne:f≠YB)(hc:AC P f as s R)(hk:∀ r s',R r s'→k r s')(hs:St s w)(hv:nP (own s) w as vs):YW P o a s w k:=by
 intro ro next Q h
 refine sU hr (((hc.2 vs w hs hv).1 hne).mono ?_);rintro en w' ⟨v,r,s',rfl,h1,h2,h3,h4⟩;exact⟨v,rfl,h v r s' w' (hk _ _ h1) h3 h2 h4⟩
theorem uF {l:Nat}{vs:List Value}{as:List AV}{R:AV→Store→Prop}(hr:(execOp a.eval o).run P w=(Instr.yield l vs.toArray).run P w)(hc:AC P YB as s R)(hk:∀ r s',R r s'→k r s')(hs:St s w)(hv:nP (own s) w as (vs++[.func (.yield l) #[] #[]])):YW P o a s w k:=by
 intro ro next Q h
 obtain⟨l',xs,e1,fn,tmps,assign,body,e2,e3⟩:=(hc.2 _ w hs hv).2 rfl;obtain⟨e4,e5⟩:=List.append_inj' e1 rfl;cases e5;subst e4;refine sV (hr.trans e2) (e3.mono ?_);rintro en w' ⟨v,r,s',rfl,h1,h2,h3,h4⟩;exact⟨v,rfl,h v r s' w' (hk _ _ h1) h3 h2 h4⟩
end
def NS (P:Program)(o:Oper)(a:Act)(s:Store)(w:World)(K:AV→Prop→Prop):Prop:=
 ∃ r p,K r p∧(p→YW P o a s w fun r' s'=>r'=r∧s'=s)
theorem az {P:Program}{o:Oper}{a:Act}{s:Store}{w:World}{K:AV→Prop→Prop}(hs:St s w){r:AV}{p:Prop}(hk:K r p)
  (h:p→∃ v,(execOp a.eval o).run P w = .ok (.value v) w∧RV (own s) w r v):NS P o a s w K:=
 ⟨r,p,hk,fun hp=>let ⟨v,h1,h2⟩:=h hp; aL h1 ⟨rfl,rfl⟩ h2 hs (Mv.refl _ _)⟩
structure TyR (P:Program) (T:TypeId) (ag:Bool) (n:Nat):Prop where
 ag:∀ w,(isAgg T).run P w = .ok ag w
 sz:∀ w,(sizeOf T).run P w = .ok n w
def zu (P:Program)(T:TypeId)(n:Nat):Prop:=∃ E,P.underlying T=some (.slice E)∧∀ w,(sizeOf E).run P w = .ok n w
def EO (P:Program)(T f off:Nat)(ag:Bool)(n:Nat):Prop:=∃ fs fd,P.underlying T=some (.struct fs)∧fs[f]?=some fd∧fd.offset=off∧TyR P fd.type ag n
def OkOpd:Operand→Opd→Prop
 | .tmp t,.t t'=>t=t'
 | .const v,.c a=>∀ o w,RV o w a v
 | .func f,.c (.fn f' [])=>f=f'
 | _,_=>False
section
variable {P:Program} {T:Tbl} {R:Nat→Prop} {o:Oper} {a:Act} {s:Store} {w:World} {ρ:Opd→AV} {K:AV→Prop→Prop}
theorem uG (hs:St s w){x:Operand}{y:Opd}(ho:o.op = .move x∨o.op = .assign x)(hx:RV (own s) w (ρ y) (a.eval x))(h:nop T R (.mov y) ρ s K):NS P o a s w K:=by
 refine az hs h fun hd=>⟨_,?_,al hx hd⟩
 rcases ho with ho | ho <;> simp[execOp,ho]
theorem wA (hs:St s w){t:TypeId}{x:Operand}{y:Opd}(ho:o.op = .unOp .not t x)(hx:RV (own s) w (ρ y) (a.eval x))(h:nop T R (.unot y) ρ s K):NS P o a s w K:=by
 simp only[nop]at h;split at h
 ·rename_i b hb;refine az hs h fun hd=>⟨.bool !b,?_,.fz _ _ (.bool _)⟩
  have:=al hx hd;rw[hb]at this
  simp[execOp,ho,dC this,Op.unary]
 ·exact h.elim
theorem wB (hs:St s w){t:TypeId}{x:Operand}{y:Opd}(ho:o.op = .unOp .neg t x)(hx:RV (own s) w (ρ y) (a.eval x))(h:nop T R (.uneg y) ρ s K):NS P o a s w K:=by
 simp only[nop]at h;split at h
 ·rename_i k n hb;refine az hs h fun hd=>⟨.int k (0-n),?_,.fz _ _ (.int _ _)⟩
  have:=al hx hd.1;rw[hb]at this;have h2:=hd.2;unfold okk at h2;simp only[execOp,ho,aN this,Op.unary,Op.intArith,h2,Sem.run_bind,Sem.run_pure,Result.andThen_ok]
 ·exact h.elim
theorem wC (hs:St s w){c x y:Operand}{c' x' y':Opd}(ho:o.op = .pick c x y)(hc:RV (own s) w (ρ c') (a.eval c))(hx:RV (own s) w (ρ x') (a.eval x))(hy:RV (own s) w (ρ y') (a.eval y))
  (h:nop T R (.pick c' x' y') ρ s K):NS P o a s w K:=by
 simp only[nop]at h;split at h
 ·rename_i g hg;have run:(ρ c').df→(execOp a.eval o).run P w = .ok (.value (if g then a.eval x else a.eval y)) w:=by
   intro hd;have:=al hc hd;rw[hg]at this
   simp[execOp,ho,dC this,asBool]
  refine az hs h fun hd=>⟨_,run hd.1,?_⟩
  cases g
  ·simpa using al hy (hd.2.2 rfl)
  ·simpa using al hx (hd.2.1 rfl)
 ·exact h.elim
theorem wD (hs:St s w){x:Operand}{y:Opd}(ho:o.op = .nilCheck x)(hx:RV (own s) w (ρ y) (a.eval x))(h:nop T R (.nilc y) ρ s K):NS P o a s w K:=by
 simp only[nop]at h;split at h
 ·rename_i b p hb;refine az hs h fun hd=>?_;have:=al hx hd;rw[hb]at this;exact⟨_,by simp only[execOp,ho,cE this]; rfl,.ptr _ _⟩
 ·rename_i b k i j hb;refine az hs h fun hd=>?_;have:=al hx hd;rw[hb]at this;exact⟨_,by simp only[execOp,ho,cU this]; rfl,.rptr _ _ _ _⟩
 ·rename_i cs hb;refine az hs h fun hd=>?_;have:=al hx hd;rw[hb]at this;obtain⟨ad,vf,h1,h2⟩:=iX this;rw[h1]at this;exact⟨_,by simp only[execOp,ho,h1]; rfl,this⟩
 ·exact h.elim
theorem iA {a:Addr}(h:a.spot=none)(n:Nat):a.add n=⟨a.block,a.off+n,none⟩:=by
 obtain⟨b,p,sp⟩:=a;subst h;unfold Addr.add;split
 ·rename_i h; subst h; rfl
 ·rfl
theorem nT {a:Addr}(h:a.spot=none)(n m:Nat):(a.add n).add m=a.add (n+m):=by
 rw[iA (a:=a.add n) (by rw[iA h]),iA h,iA h,Nat.add_assoc]
theorem ce (b p n:Nat):(⟨b,p,none⟩:Addr).add n=⟨b,p+n,none⟩:=by
 unfold Addr.add;split
 ·rename_i h; subst h; rfl
 ·rfl
theorem gQ (cs:List AV)(n j:Nat):at_ (cs.drop n) j=at_ cs (n+j):=by simp[at_,List.getD_eq_getElem?_getD,List.getElem?_drop]
theorem iZ (cs:List AV)(n j:Nat)(h:j < n):at_ (cs.take n) j=at_ cs j:=by simp[at_,List.getD_eq_getElem?_getD,List.getElem?_take,h]
theorem oO {P:Program}{T f off n:Nat}{ag:Bool}(hf:EO P T f off ag n)(hn:n≠0)(ad:Addr)(w:World):(Instr.fieldAt T (.pointer (some ad)) f).run P w = .ok (.pointer (some (ad.add off))) w:=by
 obtain⟨fs,fd,h1,h2,h3,h4⟩:=hf;simp only[Instr.fieldAt,Sem.run_bind,run_underlying h1,Result.andThen_ok,h2];simp only[Instr.sureAddr,fieldPlace,Sem.run_bind,Sem.run_pure,Result.andThen_ok,h4.sz,if_neg hn,h3]
theorem CO {T0:Tbl}(hs:St s w){T f off n:Nat}{ag:Bool}{x:Operand}{y:Opd}(ho:o.op = .fieldAddr T x f)(hf:EO P T f off ag n)(hn:n≠0)(hx:RV (own s) w (ρ y) (a.eval x))(h:nop T0 R (.fld y off) ρ s K):NS P o a s w K:=by
 have run:∀ ad,a.eval x = .pointer (some ad)→(execOp a.eval o).run P w = .ok (.value (.pointer (some (ad.add off)))) w:=fun ad he=>by
  simp only[execOp,ho,he,Sem.run_bind,oO hf hn,Result.andThen_ok,Sem.run_pure]
 simp only[nop]at h;split at h
 ·rename_i b p hb;refine az hs h fun hd=>?_;have:=al hx hd;rw[hb]at this;exact⟨_,run _ (cE this),by rw[ce]; exact .ptr _ _⟩
 ·rename_i b k i j hb;refine az hs h fun hd=>?_;have:=al hx hd;rw[hb]at this;exact⟨_,run _ (cU this),by rw[ce,Nat.add_assoc]; exact .rptr _ _ _ _⟩
 ·rename_i cs hb;refine az hs h fun hd=>?_;have:=al hx hd;rw[hb]at this;obtain⟨ad,vf,h1,h0,h2,h3,h4,h5⟩:=iX this;refine⟨_,run _ h1,.fz _ _ (.elm _ _ (fun j=>vf (off+j)) (by rw[iA h0]) (by rwa [bV]) (by rwa [bV]) (fun j hj=>?_) fun j hj=>?_)⟩
  ·rw[nT h0]; exact h4 _ (by simp at hj; omega)
  ·rw[gQ]; exact h5 _ (by simp at hj; omega)
 ·exact h.elim
end
end Go.Proofs.YtdkaijofmigmbaaGreat.L

set_option linter.unusedVariables false
set_option linter.unusedSimpArgs false
namespace Go.Proofs.YtdkaijofmigmbaaGreat.L
open Go
section
variable {P:Program} {T:Tbl} {R:Nat→Prop} {o:Oper} {a:Act} {s:Store} {w:World} {ρ:Opd→AV} {K:AV→Prop→Prop}
theorem kq {P:Program}{T n:Nat}(hT:TyR P T false n){ad:Addr}{v:Value}{w:World}(h:w.cell? ad=some v):(Instr.loadAt T (.pointer (some ad))).run P w = .ok v w:=by
 simp only[Instr.loadAt,Instr.sureAddr,loadVar,Sem.run_bind,Sem.run_pure,Result.andThen_ok,hT.ag,Bool.false_eq_true,if_false,run_load,h]
theorem kr {P:Program}{T n:Nat}(hT:TyR P T true n){ad:Addr}{vs:List Value}{w:World}(hl:vs.length=n)(h:∀ j,j < n→w.cell? (ad.add j)=some (b9 vs j)):(Instr.loadAt T (.pointer (some ad))).run P w = .ok (.agg vs.toArray) w:=by
 have h1:(loadCells ad n).run P w = .ok vs.toArray w:=by
  have:=run_loadCells_list (P:=P) (w:=w) ad vs (fun j v hv=>by
   have hj:j < vs.length:=(List.getElem?_eq_some_iff.1 hv).1;rw[h j (by omega)]
   simp[b9,List.getD_eq_getElem?_getD,hv])
  rwa [hl]at this
 simp only[Instr.loadAt,Instr.sureAddr,loadVar,Sem.run_bind,Sem.run_pure,Result.andThen_ok,hT.ag,if_true,hT.sz,h1]
theorem dY {b:Nat}{cs:List AV}(h:ObjR (own s) w b (.box cs)){j:Nat}(hj:j < cs.length):∃ v,w.cell? ⟨b,j,none⟩=some v∧RV (own s) w (at_ cs j) v:=by
 obtain⟨vs,T,h1,h2,h3⟩:=h;refine⟨vs.getD j Go.undef,?_,h3 j hj⟩;rw[cell_of_row w b j vs T (0,0) h1,Array.getD_eq_getD_getElem?,Array.getElem?_eq_getElem (by omega)];rfl
theorem lx {b T k c:Nat}{xs:List (List AV)}(h:ObjR (own s) w b (.row T k c xs)){i j:Nat}(hi:i < xs.length)(hj:j < k):∃ v,w.cell? ⟨b,i*k+j,none⟩=some v∧RV (own s) w (at_ (xs.getD i []) j) v:=by
 obtain⟨vs,h1,h2,h3,h3',h4,h5⟩:=h;refine⟨vs.getD (i*k+j) Go.undef,?_,(h5 i j hi hj).1⟩;have hlt:i*k+j < vs.size:=by
  rw[h2];have:(i+1)*k≤c*k:=Nat.mul_le_mul_right k (by omega);rw[Nat.add_mul]at this;omega
 rw[cell_of_row w b _ vs T (0,0) h1,Array.getD_eq_getD_getElem?,Array.getElem?_eq_getElem hlt];rfl
theorem gR {ad:Addr}{n:Nat}{cs:List AV}(hn:cs.length=n)(h:∀ j,j < n→∃ v,w.cell? (ad.add j)=some v∧RV (own s) w (at_ cs j) v):
  ∃ vs:List Value,vs.length=n∧(∀ j,j < n→w.cell? (ad.add j)=some (b9 vs j))∧RV (own s) w (.agg cs) (.agg vs.toArray):=by
 have hf:∃ f:Nat→Value,∀ j,j < n→w.cell? (ad.add j)=some (f j)∧RV (own s) w (at_ cs j) (f j):=
  ⟨fun j=>if hj:j < n then Classical.choose (h j hj)else Go.undef,fun j hj=>by simp only[dif_pos hj]; exact Classical.choose_spec (h j hj)⟩
 obtain⟨f,hf⟩:=hf;have hv:∀ j,j < n→b9 ((List.range n).map f) j=f j:=fun j hj=>by simp[b9,List.getD_eq_getElem?_getD,hj]
 exact⟨(List.range n).map f,by simp,fun j hj=>by rw[hv j hj]; exact(hf j hj).1,.agg _ _ (by simp[hn]) (fun j hj=>by rw[hv j (by omega)]; exact(hf j (by omega)).2)⟩
theorem CP (hs:St s w){Ty:Nat}{x:Operand}{y:Opd}{fr:Bool}(ho:o.op = .load Ty x)(hT:TyR P Ty false 1)(hx:RV (own s) w (ρ y) (a.eval x))(h:nop T R (.ld1 y fr) ρ s K):NS P o a s w K:=by
 have run:∀ ad v,a.eval x = .pointer (some ad)→w.cell? ad=some v→(execOp a.eval o).run P w = .ok (.value v) w:=fun ad v he hc=>by
  simp only[execOp,ho,he,Sem.run_bind,kq hT hc,Result.andThen_ok,Sem.run_pure]
 simp only[nop]at h;split at h
 ·rename_i cs hb;refine az hs h fun hd=>?_;have:=al hx hd.1;rw[hb]at this;obtain⟨ad,vf,h1,h0,h2,h3,h4,h5⟩:=iX this;have hc:=h4 0 (by omega);rw[show ad.add 0=ad from rfl]at hc;exact⟨_,run _ _ h1 hc,.fz _ _ (h5 0 (by omega))⟩
 ·rename_i b p hb;split at h
  ·rename_i cs hsb;refine az hs h fun hd=>?_;have:=al hx hd.1;rw[hb]at this;obtain⟨v,hc,hv⟩:=dY (hs _ _ hsb) (show p < cs.length by omega);exact⟨v,run _ _ (cE this) hc,hv⟩
  ·exact h.elim
 ·rename_i b k i j hb;split at h
  ·rename_i T' k' c xs hsb;obtain⟨rfl,h⟩:=h;refine az hs h fun hd=>?_;have:=al hx hd.1;rw[hb]at this;obtain⟨v,hc,hv⟩:=lx (hs _ _ hsb) hd.2.1 (show j < k by omega);exact⟨v,run _ _ (cU this) hc,hv⟩
  ·exact h.elim
 ·exact h.elim
theorem CQ (hs:St s w){Ty n:Nat}{x:Operand}{y:Opd}{fr:Bool}(ho:o.op = .load Ty x)(hT:TyR P Ty true n)(hx:RV (own s) w (ρ y) (a.eval x))(h:nop T R (.ldn y n fr) ρ s K):NS P o a s w K:=by
 have run:∀ ad (vs:List Value),a.eval x = .pointer (some ad)→vs.length=n→(∀ j,j < n→w.cell? (ad.add j)=some (b9 vs j))→(execOp a.eval o).run P w = .ok (.value (.agg vs.toArray)) w:=fun ad vs he hl hc=>by
  simp only[execOp,ho,he,Sem.run_bind,kr hT hl hc,Result.andThen_ok,Sem.run_pure]
 simp only[nop]at h;split at h
 ·rename_i cs hb;refine az hs h fun hd=>?_;have:=al hx hd.1;rw[hb]at this;obtain⟨ad,vf,h1,h0,h2,h3,h4,h5⟩:=iX this;obtain⟨vs,e1,e2,e3⟩:=gR (s:=s) (w:=w) (ad:=ad) (n:=n) (cs:=cs.take n) (by simp; omega) (fun j hj=>⟨vf j,h4 j (by omega),by rw[iZ _ _ _ hj]; exact .fz _ _ (h5 j (by omega))⟩);exact⟨_,run _ vs h1 e1 e2,e3⟩
 ·rename_i b p hb;split at h
  ·rename_i cs hsb;refine az hs h fun hd=>?_;have:=al hx hd.1;rw[hb]at this;obtain⟨vs,e1,e2,e3⟩:=gR (s:=s) (w:=w) (ad:=⟨b,p,none⟩) (n:=n) (cs:=(cs.drop p).take n) (by simp; omega) (fun j hj=>by
    rw[ce,iZ _ _ _ hj,gQ]; exact dY (hs _ _ hsb) (by omega))
   exact⟨_,run _ vs (cE this) e1 e2,e3⟩
  ·exact h.elim
 ·rename_i b k i j hb;split at h
  ·rename_i T' k' c xs hsb;obtain⟨rfl,h⟩:=h;refine az hs h fun hd=>?_;have:=al hx hd.1;rw[hb]at this;have hl:(xs.getD i []).length=k:=by obtain⟨_,_,_,_,_,h4,_⟩:=hs _ _ hsb; exact h4 i hd.2.1
   obtain⟨vs,e1,e2,e3⟩:=gR (s:=s) (w:=w) (ad:=⟨b,i*k+j,none⟩) (n:=n) (cs:=((xs.getD i []).drop j).take n) (by simp only[List.length_take,List.length_drop,hl]; omega) (fun l hj=>by
    rw[ce,iZ _ _ _ hj,gQ,Nat.add_assoc]; exact lx (hs _ _ hsb) hd.2.1 (by omega))
   exact⟨_,run _ vs (cU this) e1 e2,e3⟩
  ·exact h.elim
 ·exact h.elim
theorem CS (hs:St s w){Ty n:Nat}{x i:Operand}{y j:Opd}(ho:o.op = .indexAddr Ty x i)(hT:zu P Ty n)(hx:RV (own s) w (ρ y) (a.eval x))(hi:RV (own s) w (ρ j) (a.eval i))(h:nop T R (.idx y j n) ρ s K):NS P o a s w K:=by
 obtain⟨E,hE,hn⟩:=hT;have run:∀ ad l c kk z,a.eval x = .slice (some ad) l c→a.eval i = .int kk z→0≤z→z < l→(execOp a.eval o).run P w = .ok (.value (.pointer (some (ad.add (z.toNat*n))))) w:=fun ad l c kk z h1 h2 h3 h4=>by
  simp only[execOp,ho,h1,h2,Instr.indexAt,asIntOf,Sem.run_bind,Sem.run_pure,Result.andThen_ok,run_underlying hE];simp only[Sem.run_ite,if_pos (show 0≤z∧z < (l:Int)from⟨h3,h4⟩),Sem.run_bind,hn,Result.andThen_ok,Sem.run_pure]
 simp only[nop]at h;split at h
 ·rename_i k l get kk z hb hz;obtain⟨rfl,h⟩:=h;refine az hs h fun hd=>?_;have h1:=al hx hd.1;rw[hb]at h1;have h2:=al hi hd.2.1;rw[hz]at h2;obtain⟨ad,c,e1,-,e2⟩:=iY h1;obtain⟨ad,vf,rfl,e0,e3,e4,e5,e6,e7⟩:=e2 (by omega);have hlt:z.toNat < l:=by omega
  refine⟨_,run _ _ _ _ _ e1 (aN h2) hd.2.2.1 hd.2.2.2,.fz _ _ (.elm _ _ (fun j=>vf z.toNat j) (by rw[iA e0]) (by rwa [bV]) (by rwa [bV]) (fun j hj=>?_) fun j hj=>?_)⟩
  ·rw[nT e0]; exact e5 _ _ hlt (by rw[← e6 _ hlt]; exact hj)
  ·exact e7 _ _ hlt (by rw[← e6 _ hlt]; exact hj)
 ·rename_i b l c kk z hb hz;refine az hs h fun hd=>?_;have h1:=al hx hd.1;rw[hb]at h1;have h2:=al hi hd.2.1;rw[hz]at h2;refine⟨_,run _ _ _ _ _ (dy h1) (aN h2) hd.2.2.1 hd.2.2.2,?_⟩;rw[ce,Nat.zero_add];exact .rptr _ _ _ 0
 ·rename_i b k p l kk z hb hz;obtain⟨rfl,h⟩:=h;refine az hs h fun hd=>?_;have h1:=al hx hd.1;rw[hb]at h1;have h2:=al hi hd.2.1;rw[hz]at h2;obtain⟨ad,c,e1,-,e2⟩:=fG h1;have e2:=e2 (by omega);subst e2;refine⟨_,run _ _ _ _ _ e1 (aN h2) hd.2.2.1 hd.2.2.2,?_⟩;rw[ce,← Nat.add_mul];exact .rptr _ _ _ 0
 ·exact h.elim
theorem CT (hs:St s w){x:Operand}{ts:Array TypeId}{t0 E:Nat}{y:Opd}(ho:o.op = .call {callee:=.builtin .len,args:=#[x],argTypes:=ts })(ht:ts[0]?=some t0)(hE:P.underlying t0=some (.slice E))(hx:RV (own s) w (ρ y) (a.eval x))(h:nop T R (.len y) ρ s K):NS P o a s w K:=by
 have run:∀ ad l c,a.eval x = .slice ad l c→(execOp a.eval o).run P w = .ok (.value (.int .i64 l)) w:=fun ad l c h1=>by
  simp[execOp,ho,h1,resolve,invoke,builtin,Builtin.len_,ht,run_underlying hE,goInt]
 simp only[nop]at h;split at h
 ·rename_i k n get hb;refine az hs h fun hd=>?_;have h1:=al hx hd;rw[hb]at h1;obtain⟨ad,c,e1,e2⟩:=iY h1;exact⟨_,run _ _ _ e1,.fz _ _ (.int _ _)⟩
 ·rename_i b n c hb;refine az hs h fun hd=>?_;have h1:=al hx hd;rw[hb]at h1;exact⟨_,run _ _ _ (dy h1),.fz _ _ (.int _ _)⟩
 ·rename_i b k p n hb;refine az hs h fun hd=>?_;have h1:=al hx hd;rw[hb]at h1;obtain⟨ad,c,e1,-,-⟩:=fG h1;exact⟨_,run _ _ _ e1,.fz _ _ (.int _ _)⟩
 ·rename_i hb;refine az hs h fun hd=>?_;have h1:=al hx hd;rw[hb]at h1;obtain⟨ad,e1⟩:=cV h1;exact⟨_,run _ _ _ e1,.fz _ _ (.int _ _)⟩
 ·exact h.elim
theorem wE (hs:St s w){x:Operand}{ts:Array TypeId}{t0:Nat}{y:Opd}(ho:o.op = .call {callee:=.builtin .len,args:=#[x],argTypes:=ts })(ht:ts[0]?=some t0)(hE:P.underlying t0=some .string)(hx:RV (own s) w (ρ y) (a.eval x))(h:nop T R (.lens y) ρ s K):NS P o a s w K:=by
 simp only[nop]at h;split at h
 ·rename_i t hb;refine az hs h fun hd=>⟨.int .i64 t.size,?_,.fz _ _ (.int _ _)⟩
  have h1:=al hx hd;rw[hb]at h1
  simp[execOp,ho,gN h1,resolve,invoke,builtin,Builtin.len_,ht,run_underlying hE,goInt]
 ·exact h.elim
theorem ns_ext (hs:St s w){x:Operand}{i:Nat}{y:Opd}(ho:o.op = .extract x i)(hx:RV (own s) w (ρ y) (a.eval x))(h:nop T R (.ext y i) ρ s K):NS P o a s w K:=by
 simp only[nop]at h;split at h
 ·rename_i vs hb;refine az hs h fun hd=>?_;have h1:=al hx hd.1;rw[hb]at h1;obtain⟨us,e1,e2,e3⟩:=kT h1;have hi:i < us.length:=by omega
  refine⟨b9 us i,?_,e3 i hd.2⟩
  simp[execOp,ho,e1,Instr.extract,b9,List.getD_eq_getElem?_getD,hi]
 ·exact h.elim
theorem uH {P:Program}{T n:Nat}{ag:Bool}(hT:TyR P T ag n)(cs:Array Value)(off:Nat)(w:World)(h:off+n≤cs.size)(hn:0 < n):
  (part T cs off).run P w = .ok (if ag then .agg (cs.extract off (off+n))else cs.getD off Go.undef) w:=by
 unfold part;simp only[Sem.run_bind,hT.ag,Result.andThen_ok];cases ag with
 | true=>simp only[if_true,Sem.run_bind,hT.sz,Result.andThen_ok,Sem.run_pure]
 | false=>
  simp only[Bool.false_eq_true,if_false];rw[Array.getElem?_eq_getElem (by omega)]
  simp[Array.getD_eq_getD_getElem?,Array.getElem?_eq_getElem (show off < cs.size by omega)]
theorem oP (vs:List Value)(off n j:Nat)(hj:j < n):b9 (vs.toArray.extract off (off+n)).toList j=b9 vs (off+j):=by
 simp[b9,List.getD_eq_getElem?_getD,List.getElem?_take,hj,List.getElem?_drop]
theorem wF (hs:St s w){Ty f off n:Nat}{ag:Bool}{x:Operand}{y:Opd}(ho:o.op = .field Ty x f)(hf:EO P Ty f off ag n)(hn:0 < n)(h1:ag=false→n=1)(hx:RV (own s) w (ρ y) (a.eval x))(h:nop T R (.fldv y off n ag) ρ s K):NS P o a s w K:=by
 simp only[nop]at h;split at h
 ·rename_i cs hb;refine az hs h fun hd=>?_;have hv:=al hx hd.1;rw[hb]at hv;obtain⟨us,e1,e2,e3⟩:=gO hv;obtain⟨fs,fd,g1,g2,g3,g4⟩:=hf;have hle:=hd.2;have hrun:=uH g4 us.toArray off w (by simp; omega) hn;cases ag with
  | true=>
   refine⟨.agg (us.toArray.extract off (off+n)),?_,?_⟩
   ·simp only[execOp,ho,e1,Instr.field,Sem.run_bind,run_underlying g1,Result.andThen_ok,g2,asAgg,Sem.run_pure,g3,hrun,if_true]
   ·have:=RV.agg (own:=own s) (w:=w) ((cs.drop off).take n) (us.toArray.extract off (off+n)).toList (by simp; omega) (fun j hj=>by
     have hj':j < n:=by simp at hj; omega
     rw[oP _ _ _ _ hj',iZ _ _ _ hj',gQ]; exact e3 _ (by omega))
    simpa using this
  | false=>
   obtain rfl:=h1 rfl;refine⟨us.toArray.getD off Go.undef,?_,?_⟩
   ·simp only[execOp,ho,e1,Instr.field,Sem.run_bind,run_underlying g1,Result.andThen_ok,g2,asAgg,Sem.run_pure,g3,hrun,Bool.false_eq_true,if_false]
   ·have:=e3 off (by omega)
    simpa [b9,Array.getD_eq_getD_getElem?,List.getD_eq_getElem?_getD]using this
 ·exact h.elim
theorem uI (hs:St s w){x y:Operand}{ts:Array TypeId}{x' y':Opd}{mx:Bool}(ho:o.op = .call {callee:=.builtin (if mx then .max else .min),args:=#[x,y],argTypes:=ts })(hx:RV (own s) w (ρ x') (a.eval x))(hy:RV (own s) w (ρ y') (a.eval y))(h:nop T R (.mnx mx x' y') ρ s K):NS P o a s w K:=by
 simp only[nop]at h;split at h
 ·rename_i k u k' v hu hv;obtain⟨rfl,h⟩:=h;refine az hs h fun hd=>⟨_,?_,.fz _ _ (.int _ _)⟩
  have h1:=al hx hd.1;rw[hu]at h1;have h2:=al hy hd.2;rw[hv]at h2;cases mx
  ·have e:(if v < u then v else u)=min u v:=by rw[Int.min_def]; split <;> split <;> omega
   simp[execOp,ho,aN h1,aN h2,resolve,invoke,builtin,Builtin.min_,Builtin.min2,e]
  ·have e:(if u < v then v else u)=max u v:=by rw[Int.max_def]; split <;> split <;> omega
   simp[execOp,ho,aN h1,aN h2,resolve,invoke,builtin,Builtin.max_,Builtin.max2,e]
 ·exact h.elim
theorem i6 (f:Operand→Value)(xs:Array Operand):xs.map f=(xs.toList.map f).toArray:=by cases xs; simp
def cK:List Operand→List Opd→Prop
 | [],[]=>True
 | x::l,y::l'=>OkOpd x y∧cK l l'
 | _,_=>False
theorem cW (hρ:∀ x y,OkOpd x y→RV (own s) w (ρ y) (a.eval x)):∀ (xs:List Operand) (ys:List Opd),cK xs ys→ko ρ ys→nP (own s) w (vals ρ ys) (xs.map a.eval)
 | [],[],_,_=>⟨rfl,fun j hj=>by simp[vals]at hj⟩
 | x::xs,y::ys,h,hd=>by
  obtain⟨h1,h2⟩:=cW hρ xs ys h.2 hd.2;refine⟨by simp[vals]at h1 ⊢; exact h1,fun j hj=>?_⟩;cases j with
  | zero=>simpa [vals,at_,b9]using al (hρ _ _ h.1) hd.1
  | succ j=>simpa [vals,at_,b9]using h2 j (by simpa [vals]using hj)
 | [],_::_,h,_=>h.elim
 | _::_,[],h,_=>h.elim
theorem iB {o:Nat→Prop}{as bs:List AV}{vs us:List Value}(h:nP o w as vs)(k:nP o w bs us):nP o w (as++bs) (vs++us):=by
 refine⟨by simp[h.1,k.1],fun j hj=>?_⟩;by_cases hj':j < as.length
 ·have:=h.2 j hj'
  simpa [at_,b9,List.getD_eq_getElem?_getD,List.getElem?_append_left,hj',h.1]using this
 ·have:=k.2 (j-as.length) (by simp at hj; omega)
  simpa [at_,b9,List.getD_eq_getElem?_getD,List.getElem?_append_right,Nat.le_of_not_lt hj',h.1]using this
theorem CU (hs:St s w)(hρ:∀ x y,OkOpd x y→RV (own s) w (ρ y) (a.eval x)){f:FuncId}{xs:Array Operand}{ys:List Opd}(ho:o.op = .makeFunc (.func f) #[] xs)(hx:cK xs.toList ys)(h:nop T R (.mkf f ys) ρ s K):NS P o a s w K:=by
 simp only[nop]at h;refine az hs h fun hd=>?_;obtain⟨h1,h2⟩:=cW hρ _ _ hx hd;refine⟨.func (.func f) #[] (xs.toList.map a.eval).toArray,?_,.fn _ _ _ h1 h2⟩;rw[← i6]
 simp[execOp,ho,Instr.makeFunc]
theorem CV (hs:St s w){t u:TypeId}{k:IntKind}{d:TypeDesc}{x:Operand}{y:Opd}(ho:o.op = .convert t u x)(ht:P.underlying t=some d)(hu:P.underlying u=some (.int k))(hx:RV (own s) w (ρ y) (a.eval x))(h:nop T R (.cvt k y) ρ s K):NS P o a s w K:=by
 simp only[nop]at h;split at h
 ·rename_i k' n hb;refine az hs h fun hd=>⟨.int k n,?_,.fz _ _ (.int _ _)⟩
  have h1:=al hx hd.1;rw[hb]at h1;have h2:=hd.2;unfold okk at h2;simp only[execOp,ho,aN h1,convert,Sem.run_bind,run_underlying ht,run_underlying hu,Result.andThen_ok,Conv.intToInt,Sem.run_pure,h2]
 ·exact h.elim
theorem jx {f:FuncId}(hf:lr P f)(args:Array Value)(w:World):(callFunc f args).run P w = .ok (.enter f args) w:=by
 obtain⟨fn,h1,h2,h3⟩:=hf;simp only[callFunc,Sem.run_bind,run_program,Result.andThen_ok,h1,h2,h3,Bool.false_eq_true,if_false,Sem.run_pure]
theorem oQ {f:FuncId}{xs:Array Operand}{ts:Array TypeId}(ho:o.op = .call {callee:=.value (.func f),args:=xs,argTypes:=ts })(hf:lr P f):(execOp a.eval o).run P w = .ok (.enter f (xs.toList.map a.eval).toArray) w:=by
 rw[← i6]
 simp[execOp,ho,resolve,Deferred.ofValue,Act.eval,invoke,jx hf]
theorem mN {f:FuncId}{c:Operand}{cs:List Value}{xs:Array Operand}{ts:Array TypeId}(ho:o.op = .call {callee:=.value c,args:=xs,argTypes:=ts })(hc:a.eval c = .func (.func f) #[] cs.toArray)(hf:lr P f):(execOp a.eval o).run P w = .ok (.enter f (xs.toList.map a.eval++cs).toArray) w:=by
 have e:(xs.toList.map a.eval++cs).toArray=xs.map a.eval++cs.toArray:=by rw[i6]; simp
 rw[e]
 simp[execOp,ho,resolve,Deferred.ofValue,hc,invoke,jx hf]
theorem s6 {l:Nat}{c:Operand}{xs:Array Operand}{ts:Array TypeId}(ho:o.op = .call {callee:=.value c,args:=xs,argTypes:=ts })(hc:a.eval c = .func (.yield l) #[] #[]):(execOp a.eval o).run P w=(Instr.yield l (xs.toList.map a.eval).toArray).run P w:=by
 rw[← i6]
 simp[execOp,ho,resolve,Deferred.ofValue,hc,invoke]
def fg (P:Program)(T:Tbl):Prop:=∀ f sp,Tbl.get T f=some sp→f≠YB∧∀ as s,sp.pre as s→AC P f as s fun r s'=>r=sp.val as s∧s'=s
theorem mO (P:Program):fg P []:=fun f sp h=>by simp[Tbl.get]at h
theorem wG (hT:fg P T)(hs:St s w)(hρ:∀ x y,OkOpd x y→RV (own s) w (ρ y) (a.eval x)){f:FuncId}{xs:Array Operand}{ts:Array TypeId}{ys:List Opd}(ho:o.op = .call {callee:=.value (.func f),args:=xs,argTypes:=ts })(hx:cK xs.toList ys)(h:nop T R (.call f ys) ρ s K):NS P o a s w K:=by
 simp only[nop]at h;split at h
 ·rename_i sp hsp;have hc:=hT f sp hsp;exact⟨_,_,h,fun hp=>kU (oQ ho ((hc.2 _ _ hp.2).1 hc.1)) hc.1 (hc.2 _ _ hp.2) (fun _ _ h=>h) hs (cW hρ _ _ hx hp.1)⟩
 ·exact h.elim
theorem uJ (hT:fg P T)(hs:St s w)(hρ:∀ x y,OkOpd x y→RV (own s) w (ρ y) (a.eval x)){c:Operand}{c':Opd}{xs:Array Operand}{ts:Array TypeId}{ys:List Opd}(ho:o.op = .call {callee:=.value c,args:=xs,argTypes:=ts })(hc:OkOpd c c')(hx:cK xs.toList ys)(h:nop T R (.callv c' ys) ρ s K):NS P o a s w K:=by
 simp only[nop]at h;split at h
 ·rename_i f caps hfn;split at h
  ·rename_i sp hsp;have hcon:=hT f sp hsp;refine⟨_,_,h,fun hp=>?_⟩;have hv:=al (hρ _ _ hc) hp.1;rw[hfn]at hv;obtain⟨us,e1,e2,e3⟩:=nS hv;exact kU (mN ho e1 ((hcon.2 _ _ hp.2.2).1 hcon.1)) hcon.1 (hcon.2 _ _ hp.2.2) (fun _ _ h=>h) hs (iB (cW hρ _ _ hx hp.2.1) ⟨e2,e3⟩)
  ·exact h.elim
 ·exact h.elim
end
end Go.Proofs.YtdkaijofmigmbaaGreat.L

set_option linter.unusedVariables false
set_option linter.unusedSimpArgs false
namespace Go.Proofs.YtdkaijofmigmbaaGreat.L
open Go
section
variable {P:Program} {T:Tbl} {R:Nat→Prop} {o:Oper} {a:Act} {s:Store} {w:World} {ρ:Opd→AV} {K:AV→Prop→Prop}
theorem ri (a b:Int):(a==b)=decide (a=b):=by by_cases h:a=b <;> simp[h]
theorem kI (op:BinOp)(t:TypeId)(x y:Operand)(k:IntKind)(n:Int)(v:Value)(w:World):(eqGuard op t x y (.int k n) v).run P w = .ok () w:=by
 cases op <;> simp[eqGuard]
theorem kJ (op:BinOp)(t:TypeId)(x y:Operand)(n:ByteArray)(v:Value)(w:World):(eqGuard op t x y (.string n) v).run P w = .ok () w:=by
 cases op <;> simp[eqGuard]
theorem ly {op:BinOp}{t t':TypeId}{x y:Operand}(ho:o.op = .binOp op t x y t'){u v r:Value}(hx:a.eval x=u)(hy:a.eval y=v)(hg:(eqGuard op t x y u v).run P w = .ok () w)(hb:(binOp op t u v).run P w = .ok r w):
  (execOp a.eval o).run P w = .ok (.value r) w:=by
 simp only[execOp,ho,hx,hy,Sem.run_bind,hg,hb,Result.andThen_ok,Sem.run_pure]
theorem CW (hs:St s w){op:BinOp}{t t':TypeId}{x y:Operand}{x' y':Opd}{ex:Bool}(ho:o.op = .binOp op t x y t')(hx:RV (own s) w (ρ x') (a.eval x))(hy:RV (own s) w (ρ y') (a.eval y))
  (h:nop T R (.bin ex op x' y') ρ s K):NS P o a s w K:=by
 simp only[nop]at h;generalize hu:(ρ x').val=u at h;generalize hv:(ρ y').val=v at h;have hx':(ρ x').df→RV (own s) w u (a.eval x):=fun hd=>by rw[← hu]; exact al hx hd
 have hy':(ρ y').df→RV (own s) w v (a.eval y):=fun hd=>by rw[← hv]; exact al hy hd
 have ar:∀ (k:IntKind) (n:Int) (r:AV),True:=fun _ _ _=>trivial;unfold uD at h;have int2:∀ (k k':IntKind) (m n:Int) (r:AV) (p:Prop) (rv:Value),u = .int k m→v = .int k' n→K r ((ρ x').df∧(ρ y').df∧p)→RV (own s) w r rv→(p→(binOp op t (.int k m) (.int k' n)).run P w = .ok rv w)→NS P o a s w K:=by
  intro k k' m n r p rv e1 e2 hk hr hrun;refine az hs hk fun hd=>⟨rv,?_,hr⟩
  have h1:=hx' hd.1;have h2:=hy' hd.2.1;rw[e1]at h1;rw[e2]at h2;exact ly ho (aN h1) (aN h2) (kI ..) (hrun hd.2.2)
 have str2:∀ (m n:ByteArray) (r:AV) (p:Prop) (rv:Value),u = .str m→v = .str n→K r ((ρ x').df∧(ρ y').df∧p)→RV (own s) w r rv→(p→(binOp op t (.string m) (.string n)).run P w = .ok rv w)→NS P o a s w K:=by
  intro m n r p rv e1 e2 hk hr hrun;refine az hs hk fun hd=>⟨rv,?_,hr⟩
  have h1:=hx' hd.1;have h2:=hy' hd.2.1;rw[e1]at h1;rw[e2]at h2;exact ly ho (gN h1) (gN h2) (kJ ..) (hrun hd.2.2)
 split at h
 ·obtain⟨rfl,h⟩:=h;cases ex
  ·exact int2 _ _ _ _ _ _ _ rfl rfl h (.fz _ _ (.int _ _)) fun _=>by simp[binOp,Op.intArith]
  ·exact int2 _ _ _ _ _ _ _ rfl rfl h (.fz _ _ (.int _ _)) fun hp=>by unfold okk at hp; simp[binOp,Op.intArith,hp]
 ·obtain⟨rfl,h⟩:=h;cases ex
  ·exact int2 _ _ _ _ _ _ _ rfl rfl h (.fz _ _ (.int _ _)) fun _=>by simp[binOp,Op.intArith]
  ·exact int2 _ _ _ _ _ _ _ rfl rfl h (.fz _ _ (.int _ _)) fun hp=>by unfold okk at hp; simp[binOp,Op.intArith,hp]
 ·obtain⟨rfl,h⟩:=h;cases ex
  ·exact int2 _ _ _ _ _ _ _ rfl rfl h (.fz _ _ (.int _ _)) fun _=>by simp[binOp,Op.intArith]
  ·exact int2 _ _ _ _ _ _ _ rfl rfl h (.fz _ _ (.int _ _)) fun hp=>by unfold okk at hp; simp[binOp,Op.intArith,hp]
 ·obtain⟨rfl,h⟩:=h;exact int2 _ _ _ _ _ _ _ rfl rfl h (.fz _ _ (.int _ _)) fun hp=>by have:=hp.2; unfold okk at this; simp[binOp,Op.intDiv,hp.1,this]
 ·obtain⟨rfl,h⟩:=h;exact int2 _ _ _ _ _ _ _ rfl rfl h (.fz _ _ (.int _ _)) fun hp=>by simp[binOp,Op.intDiv,hp]
 ·obtain⟨rfl,h⟩:=h;exact int2 _ _ _ _ _ _ _ rfl rfl h (.fz _ _ (.int _ _)) fun hp=>by simp[binOp,Op.intBits,cD]
 ·obtain⟨rfl,h⟩:=h;exact int2 _ _ _ _ _ _ _ rfl rfl h (.fz _ _ (.int _ _)) fun hp=>by simp[binOp,Op.intBits,Kf]
 ·obtain⟨rfl,h⟩:=h;exact int2 _ _ _ _ _ _ _ rfl rfl h (.fz _ _ (.int _ _)) fun hp=>by simp[binOp,Op.intBits,CM]
 ·exact int2 _ _ _ _ _ _ _ rfl rfl h (.fz _ _ (.int _ _)) fun hp=>by simp[binOp,Op.shift,Int.not_lt.2 hp]
 ·exact int2 _ _ _ _ _ _ _ rfl rfl h (.fz _ _ (.int _ _)) fun hp=>by simp[binOp,Op.shift,Int.not_lt.2 hp]
 ·obtain⟨rfl,h⟩:=h;exact int2 _ _ _ _ _ _ _ rfl rfl h (.fz _ _ (.bool _)) fun _=>by simp[binOp,Op.intCmp,ri]
 ·obtain⟨rfl,h⟩:=h;exact int2 _ _ _ _ _ _ _ rfl rfl h (.fz _ _ (.bool _)) fun _=>by simp[binOp,Op.intCmp,bne,ri]
 ·obtain⟨rfl,h⟩:=h;exact int2 _ _ _ _ _ _ _ rfl rfl h (.fz _ _ (.bool _)) fun _=>by simp[binOp,Op.intCmp]
 ·obtain⟨rfl,h⟩:=h;exact int2 _ _ _ _ _ _ _ rfl rfl h (.fz _ _ (.bool _)) fun _=>by simp[binOp,Op.intCmp]
 ·obtain⟨rfl,h⟩:=h;exact int2 _ _ _ _ _ _ _ rfl rfl h (.fz _ _ (.bool _)) fun _=>by simp[binOp,Op.intCmp]
 ·obtain⟨rfl,h⟩:=h;exact int2 _ _ _ _ _ _ _ rfl rfl h (.fz _ _ (.bool _)) fun _=>by simp[binOp,Op.intCmp]
 ·exact str2 _ _ _ _ _ rfl rfl h (.fz _ _ (.str _)) fun hp=>by
   have hm:IntKind.i64.max=9223372036854775807:=by decide
   simp only[binOp,Op.stringOp,Sem.run_ite,hm];rw[if_neg (by omega)];rfl
 ·exact str2 _ _ _ _ _ rfl rfl h (.fz _ _ (.bool _)) fun _=>by simp[binOp,Op.stringOp]
 ·exact str2 _ _ _ _ _ rfl rfl h (.fz _ _ (.bool _)) fun _=>by simp[binOp,Op.stringOp]
 ·exact str2 _ _ _ _ _ rfl rfl h (.fz _ _ (.bool _)) fun _=>by simp[binOp,Op.stringOp]
 ·exact h.elim
structure IntS (P:Program) (T:TypeId) (n:Nat):Prop where
 und:P.underlying T=some (.struct (P.fieldsOf T))
 held:P.stoodInHeld T=false
 grd:P.eqGuardType P.depth T=false
 len:(P.fieldsOf T).toList.length=n
 fld : ∀ (i : Nat) (f : Field), (P.fieldsOf T).toList[i]? = some f → f.name ≠ "_" ∧ f.offset = i ∧ P.underlying f.type = some (.int .i64)
theorem ii {P:Program}{t:TypeId}{k:IntKind}(h:P.underlying t=some (.int k))(w:World):(isAgg t).run P w = .ok false w:=by
 simp[isAgg,run_underlying h]
theorem i7 (d : Nat) (xs ys : List Int) : ∀ (fs : List Field) (i : Nat) (w : World), (∀ j f, fs[j]? = some f → f.name ≠ "_" ∧ f.offset = i + j ∧ P.underlying f.type = some (.int .i64)) → xs.length = i + fs.length → ys.length = i + fs.length →
  (Op.eqFields (d+1) (xs.map (Value.int .i64)).toArray (ys.map (Value.int .i64)).toArray fs).run P w = .ok (decide (xs.drop i=ys.drop i)) w
 | [],i,w,_,h1,h2=>by simp at h1 h2; simp[Op.eqFields,← h1,h2]
 | f::fs,i,w,hf,h1,h2=>by
  obtain⟨g1,g2,g3⟩:=hf 0 f rfl
  simp at h1 h2
  have hx:i < xs.length:=by omega
  have hy:i < ys.length:=by omega
  have p1:∀ (zs:List Int) (h:i < zs.length) (w:World),(part f.type (zs.map (Value.int .i64)).toArray f.offset).run P w = .ok (.int .i64 zs[i]) w:=fun zs h w=>by
   simp only[part,Sem.run_bind,ii g3,Result.andThen_ok,Bool.false_eq_true,if_false,g2,Nat.add_zero]
   simp[h]
  simp only[Op.eqFields,if_pos g1,Sem.run_bind,p1 xs hx,p1 ys hy,Result.andThen_ok,run_equalIn_int w d f.type .i64 .i64 _ _ g3];have hd1:xs.drop i=xs[i]::xs.drop (i+1):=List.drop_eq_getElem_cons hx;have hd2:ys.drop i=ys[i]::ys.drop (i+1):=List.drop_eq_getElem_cons hy;have key:(xs.drop i=ys.drop i)↔(xs[i]=ys[i]∧xs.drop (i+1)=ys.drop (i+1)):=by rw[hd1,hd2,List.cons.injEq]
  have key':(decide (xs.drop i=ys.drop i):Bool)=(decide (xs[i]=ys[i])&&decide (xs.drop (i+1)=ys.drop (i+1))):=by
   rw[Bool.eq_iff_iff]; simp only[decide_eq_true_eq,Bool.and_eq_true]; exact key
  rw[key'];have ih:=i7 d xs ys fs (i+1) w (fun j f hj=>by have:=hf (j+1) f (by simpa using hj); refine⟨this.1,by omega,this.2.2⟩) (by omega) (by omega)
  clear key key' hd1 hd2
  generalize xs.drop (i+1)=u at ih ⊢;generalize ys.drop (i+1)=v at ih ⊢;by_cases he:xs[i]=ys[i]
  ·simp only[he,beq_self_eq_true,Bool.not_true,Bool.false_eq_true,if_false,decide_true,Bool.true_and];exact ih
  ·simp[he]
theorem ku {T n:Nat}(hT:IntS P T n)(d:Nat)(xs ys:List Int)(hx:xs.length=n)(hy:ys.length=n)(w:World):
  (Op.equalIn (d+2) T (.agg (xs.map (Value.int .i64)).toArray) (.agg (ys.map (Value.int .i64)).toArray)).run P w = .ok (decide (xs=ys)) w:=by
 rw[run_equalIn_struct w (d+1) T _ _ hT.und hT.held,i7 d xs ys _ 0 w (fun j f hj=>by have:=hT.fld j f hj; simpa using this) (by rw[hT.len]; omega) (by rw[hT.len]; omega)]
 simp
theorem i8:∀ (cs ds:List AV) (acc:Bool) (K:Bool→Prop),dX cs ds acc K→∃ xs ys:List Int,cs=xs.map (AV.int .i64)∧ds=ys.map (AV.int .i64)∧xs.length=ys.length∧K (acc&&decide (xs=ys))
 | [],[],acc,K,h=>⟨[],[],rfl,rfl,rfl,by simpa [dX]using h⟩
 | c::cs,d::ds,acc,K,h=>by
  cases c <;> cases d <;> simp only[dX]at h
  rename_i k a k' b;obtain⟨rfl,rfl,h⟩:=h;obtain⟨xs,ys,h1,h2,h3,h4⟩:=i8 cs ds _ K h;refine⟨a::xs,b::ys,by simp[h1],by simp[h2],by simp[h3],?_⟩;have e:(acc&&decide (a::xs=b::ys))=((acc&&decide (a=b))&&decide (xs=ys)):=by
   by_cases e1:a=b <;> by_cases e2:xs=ys <;> simp[e1,e2]
  rw[e]; exact h4
 | [],_::_,_,_,h=>by simp[dX]at h
 | _::_,[],_,_,h=>by simp[dX]at h
theorem lz {xs:List Int}{v:Value}(h:RV (own s) w (.agg (xs.map (AV.int .i64))) v):v = .agg (xs.map (Value.int .i64)).toArray:=by
 obtain⟨vs,e1,e2,e3⟩:=gO h;rw[e1];congr 2
 simp at e2 e3
 apply List.ext_getElem (by simp[e2]);intro i h1 h2;have:=e3 i (by omega);have e:at_ (xs.map (AV.int .i64)) i=AV.int .i64 (xs[i]'(by omega)):=by simp[at_,List.getD_eq_getElem?_getD,show i < xs.length by omega]
 rw[e]at this;have:=aN this
 simpa [b9,List.getD_eq_getElem?_getD,h1]using this
theorem uK (hs:St s w){op:BinOp}{t t' n:Nat}{x y:Operand}{x' y':Opd}{ne:Bool}(ho:o.op = .binOp op t x y t')(hop:op=if ne then .neq else .eql)(hT:IntS P t n)(hx:RV (own s) w (ρ x') (a.eval x))(hy:RV (own s) w (ρ y') (a.eval y))(h:nop T R (.eqs ne n x' y') ρ s K):NS P o a s w K:=by
 simp only[nop]at h;split at h
 ·rename_i cs ds hu hv;obtain⟨hn,h⟩:=h;obtain⟨xs,ys,rfl,rfl,h3,h4⟩:=i8 _ _ _ _ h;have hl:xs.length=n:=by simpa using hn
  refine az hs h4 fun hd=>⟨_,?_,.fz _ _ (.bool _)⟩
  have h1:=al hx hd.1;rw[hu]at h1;have h2:=al hy hd.2;rw[hv]at h2;have key:=ku hT 9998 xs ys hl (by omega) w;refine ly ho (lz h1) (lz h2) (run_eqGuard_agg _ _ _ _ _ _ _ hT.grd) ?_;subst hop;cases ne
  ·simp only[Bool.false_eq_true,if_false,run_eql_struct,key,Result.andThen_ok,Bool.true_and]
  ·simp only[if_true,run_neq_struct,key,Result.andThen_ok,Bool.true_and]
 ·exact h.elim
end
end Go.Proofs.YtdkaijofmigmbaaGreat.L

set_option linter.unusedVariables false
set_option linter.unusedSimpArgs false
namespace Go.Proofs.YtdkaijofmigmbaaGreat.L
open Go
theorem cq (cs vs:List AV)(o:Nat)(h:o+vs.length≤cs.length):(cJ cs o vs).length=cs.length:=by
 simp[cJ]; omega
theorem jy (cs vs:List AV)(o j:Nat)(h:o+vs.length≤cs.length):at_ (cJ cs o vs) j=if o≤j∧j < o+vs.length then at_ vs (j-o)else at_ cs j:=by
 simp only[at_,cJ,List.getD_eq_getElem?_getD];have hl:(cs.take o).length=o:=by simp; omega
 by_cases h1:j < o
 ·rw[if_neg (by omega),List.getElem?_append_left (by omega),List.getElem?_take,if_pos h1]
 ·rw[List.getElem?_append_right (by omega),hl];by_cases h2:j < o+vs.length
  ·rw[if_pos ⟨by omega,h2⟩,List.getElem?_append_left (by omega)]
  ·rw[if_neg (by omega),List.getElem?_append_right (by omega),List.getElem?_drop];congr 2;omega
theorem jz (off:Nat):∀ (vs:List Value) (i:Nat) (cs:Array Value),off+i+vs.length≤cs.size →
  ((vs.zipIdx i).foldl (fun(cs:Array Value) (x:Value×Nat)=>cs.setIfInBounds (off+x.2) x.1) cs).size=cs.size ∧
  ∀ j,((vs.zipIdx i).foldl (fun(cs:Array Value) (x:Value×Nat)=>cs.setIfInBounds (off+x.2) x.1) cs).getD j Go.undef=if off+i≤j∧j < off+i+vs.length then b9 vs (j-(off+i))else cs.getD j Go.undef
 | [],i,cs,h=>⟨rfl,fun j=>by rw[if_neg (by simp)]; rfl⟩
 | v::vs,i,cs,h=>by
  simp only[List.length_cons]at h;obtain⟨h1,h2⟩:=jz off vs (i+1) (cs.setIfInBounds (off+i) v) (by simp; omega);simp only[List.zipIdx_cons,List.foldl_cons];refine⟨by rw[h1]; simp,fun j=>?_⟩;rw[h2];simp only[List.length_cons];by_cases hj:j=off+i
  ·subst hj;rw[if_neg (by omega),if_pos (by omega)];simp only[Nat.sub_self,b9,List.getD_cons_zero];rw[Array.getD_eq_getD_getElem?,Array.getElem?_setIfInBounds_self_of_lt (by omega)];rfl
  ·by_cases hj2:off+(i+1)≤j∧j < off+(i+1)+vs.length
   ·rw[if_pos hj2,if_pos (by omega)];simp only[b9];rw[show j-(off+i)=(j-(off+(i+1)))+1 from by omega,List.getD_cons_succ]
   ·rw[if_neg hj2,if_neg (by omega)];simp only[Array.getD_eq_getD_getElem?];rw[Array.getElem?_setIfInBounds_ne (by omega)]
def CR (o:Nat→Prop)(w:World)(z:List AV)(cs:Array Value):Prop:=cs.size=z.length∧∀ j,j < z.length→RV o w (at_ z j) (cs.getD j Go.undef)
theorem ta {o:Nat→Prop}{w:World}{z:List AV}{cs:Array Value}(h:CR o w z cs){off:Nat}{x:AV}{v:Value}(hx:RV o w x v)(h1:(cellsOf x).all AV.one=true)(hle:off+(cellsOf x).length≤z.length):
  CR o w (cJ z off (cellsOf x)) (v.cells.zipIdx.foldl (fun(cs:Array Value) (x:Value×Nat)=>cs.setIfInBounds (off+x.2) x.1) cs):=by
 obtain⟨g1,g2,g3⟩:=ff hx h1;have hl:v.cells.toList.length=(cellsOf x).length:=by rw[Array.length_toList]; exact g1
 have e:v.cells.zipIdx.foldl (fun(cs:Array Value) (x:Value×Nat)=>cs.setIfInBounds (off+x.2) x.1) cs=(v.cells.toList.zipIdx 0).foldl (fun(cs:Array Value) (x:Value×Nat)=>cs.setIfInBounds (off+x.2) x.1) cs:=by
  rw[← Array.foldl_toList,Array.toList_zipIdx]
 rw[e];obtain⟨f1,f2⟩:=jz off v.cells.toList 0 cs (by rw[hl,h.1]; omega);refine⟨by rw[f1,cq _ _ _ hle]; exact h.1,fun j hj=>?_⟩;rw[f2,jy _ _ _ _ hle,hl,Nat.add_zero];by_cases hc:off≤j∧j < off+(cellsOf x).length
 ·rw[if_pos hc,if_pos hc];have:=g2 (j-off) (by omega)
  simpa [b9,Array.getD_eq_getD_getElem?,List.getD_eq_getElem?_getD]using this
 ·rw[if_neg hc,if_neg hc];exact h.2 j (by rw[cq _ _ _ hle]at hj; exact hj)
def ZR (z:List AV)(zv:Array Value):Prop:=∀ o w,CR o w z zv
def CX (P:Program)(T:TypeId)(pl:List (Nat×Nat))(z:List AV):Prop:=∃ it fs zv,P.info? T=some it∧P.underlying T=some (.struct fs)∧it.zero=some zv∧ZR z zv.cells ∧
 fs.toList.mapM (fun f=>(P.info? f.type).map fun i=>(f.offset,i.size))=some pl
def CY (P:Program)(T:TypeId)(pl:List (Nat×Nat))(z:List AV):Prop:=∃ it n E ie zv,P.info? T=some it∧P.underlying T=some (.array n E)∧it.zero=some zv∧ZR z zv.cells∧P.info? E=some ie∧pl=(List.range n).map fun i=>(i*ie.size,ie.size)
def i9 (pl:List (Nat×Nat))(m:Nat):List (Nat×Operand)→List (Nat×Nat×Opd)→Prop
 | [],[]=>True
 | (i,x)::l,(off,n,y)::l'=>pl[i]?=some (off,n)∧off+n≤m∧OkOpd x y∧i9 pl m l l'
 | _,_=>False
section
variable {P:Program} {T:Tbl} {R:Nat→Prop} {o:Oper} {a:Act} {s:Store} {w:World} {ρ:Opd→AV} {K:AV→Prop→Prop}
theorem iC (hρ:∀ x y,OkOpd x y→RV (own s) w (ρ y) (a.eval x))(pl:List (Nat×Nat))(place:Nat→Option (Nat×Nat))(hpl:∀ (i:Nat) x,pl[i]?=some x→place i=some x):∀ (l:List (Nat×Operand)) (l':List (Nat×Nat×Opd)) (z:List AV) (cs:Array Value),i9 pl z.length l l'→CN ρ l'→CR (own s) w z cs →
  ∃ cs',Instr.fill place cs (l.map fun x=>(x.1,a.eval x.2))=some cs'∧CR (own s) w (mL z (iW ρ l')) cs'
 | [],[],z,cs,_,_,h=>⟨cs,rfl,h⟩
 | (i,x)::l,(off,n,y)::l',z,cs,hk,hp,h=>by
  obtain⟨k1,k2,k3,k4⟩:=hk;obtain⟨p1,p2,p3,p4⟩:=hp;have hx:=al (hρ _ _ k3) p1;obtain⟨g1,g2,g3⟩:=ff hx p3;have hle:off+(cellsOf (ρ y).val).length≤z.length:=by omega
  have hC:=ta h hx p3 hle;obtain⟨cs',e1,e2⟩:=iC hρ pl place hpl l l' _ _ (by rw[cq _ _ _ hle]; exact k4) p4 hC;refine⟨cs',?_,e2⟩;simp only[List.map_cons,Instr.fill,hpl _ _ k1];rw[if_neg (by rw[g1,p2,h.1]; simp; omega)]
  simpa using e1
 | [],_::_,_,_,h,_,_=>h.elim
 | _::_,[],_,_,h,_,_=>h.elim
theorem CZ (hs:St s w)(hρ:∀ x y,OkOpd x y→RV (own s) w (ρ y) (a.eval x)){Ty:Nat}{pl:List (Nat×Nat)}{z:List AV}{ps:Array (Nat×Operand)}{ps':List (Nat×Nat×Opd)}(ho:o.op = .build Ty ps)(hB:CX P Ty pl z∨CY P Ty pl z)(hk:i9 pl z.length ps.toList ps')
  (h:nop T R (.bld z ps') ρ s K):NS P o a s w K:=by
 simp only[nop]at h;refine az hs h fun hp=>?_;have hb:∃ cs',P.built Ty (ps.toList.map fun x=>(x.1,a.eval x.2))=some cs'∧CR (own s) w (mL z (iW ρ ps')) cs':=by
  rcases hB with⟨it,fs,zv,b1,b2,b3,b4,b5⟩ | ⟨it,n,E,ie,zv,b1,b2,b3,b4,b5,rfl⟩
  ·obtain⟨cs',e1,e2⟩:=iC hρ pl (pl.toArray[·]?) (fun i x hx=>by simpa using hx) _ _ _ _ hk hp (b4 _ _);refine⟨cs',?_,e2⟩;unfold Program.built;simp only[b1,b2,b3,b5];exact e1
  ·obtain⟨cs',e1,e2⟩:=iC hρ _ (fun i=>some (i*ie.size,ie.size)) (fun i x hx=>by
    simp only[List.getElem?_map,Option.map_eq_some_iff]at hx;obtain⟨i',h1,h2⟩:=hx;have:i'=i:=by
     rw[List.getElem?_eq_some_iff]at h1;obtain⟨_,h1⟩:=h1
     simpa using h1.symm
    rw[← h2,this]) _ _ _ _ hk hp (b4 _ _)
   refine⟨cs',?_,e2⟩;unfold Program.built;simp only[b1,b2,b3,b5];exact e1
 obtain⟨cs',hb,e2⟩:=hb;refine⟨.agg cs',?_,?_⟩
 ·have e:(ps.map fun(i,x)=>(i,a.eval x)).toList=ps.toList.map fun x=>(x.1,a.eval x.2):=by simp
  have:=run_build w Ty (ps.map fun(i,x)=>(i,a.eval x)) cs' (by rw[e]; exact hb);simp only[execOp,ho,Sem.run_bind,this,Result.andThen_ok,Sem.run_pure]
 ·have:=RV.agg (own:=own s) (w:=w) (mL z (iW ρ ps')) cs'.toList (by rw[Array.length_toList]; exact e2.1) (fun j hj=>by
   have:=e2.2 j hj
   simpa [b9,Array.getD_eq_getD_getElem?,List.getD_eq_getElem?_getD]using this)
  simpa using this
theorem gS {d:Int}{x:Option Opd}{K:Int→Prop→Prop}(h:lo_ ρ d x K):∃ n p,K n p∧((x=none∧n=d)∨∃ y kk,x=some y∧(ρ y).val = .int kk n∧p=(ρ y).df):=by
 unfold lo_ at h;split at h
 ·exact⟨_,_,h,.inl ⟨rfl,rfl⟩⟩
 ·rename_i y;split at h
  ·rename_i kk n hn; exact⟨_,_,h,.inr ⟨y,kk,rfl,hn,rfl⟩⟩
  ·exact h.elim
def bN:Option Operand→Option Opd→Prop
 | none,none=>True
 | some x,some y=>OkOpd x y
 | _,_=>False
theorem bD {P:Program}{kk:IntKind}{n:Int}{m:Nat}{cd:BoundsCode}(h0:0≤n)(h1:n≤m)(w:World):(Instr.sliceBound (.int kk n) m cd).run P w = .ok n.toNat w:=by
 simp[Instr.sliceBound,asIntOf,h0,h1]
theorem dL (hρ:∀ x y,OkOpd x y→RV (own s) w (ρ y) (a.eval x)){sl:Bool}{n c:Nat}{lo hi:Option Operand}{lo' hi':Option Opd}{l h:Int}{p q:Prop}(hlo:bN lo lo')(hhi:bN hi hi')
  (e1:(lo'=none∧l=0)∨∃ y kk,lo'=some y∧(ρ y).val = .int kk l∧p=(ρ y).df) (e2:(hi'=none∧h=n)∨∃ y kk,hi'=some y∧(ρ y).val = .int kk h∧q=(ρ y).df) (hp:p) (hq:q) (h0:0≤l) (h1:l≤h) (h2:h≤n) (h3:n≤c) :
  (Instr.sliceBounds sl n c (lo.map a.eval) (hi.map a.eval) none).run P w = .ok (l.toNat,h.toNat,c) w:=by
 have hi_run:∀ v kk,hi.map a.eval=some v→v = .int kk h→∀ cd,(Instr.sliceBound v c cd).run P w = .ok h.toNat w:=fun v kk _ e cd=>by
  rw[e]; exact bD (by omega) (by omega) w
 rcases e1 with⟨rfl,rfl⟩ | ⟨y,kk,rfl,g1,rfl⟩
 ·obtain rfl:lo=none:=by cases lo <;> first | rfl | exact hlo.elim
  rcases e2 with⟨rfl,rfl⟩ | ⟨y',kk',rfl,g2,rfl⟩
  ·obtain rfl:hi=none:=by cases hi <;> first | rfl | exact hhi.elim
   simp[Instr.sliceBounds]
  ·obtain⟨x',rfl⟩:∃ x',hi=some x':=by cases hi <;> first | exact⟨_,rfl⟩ | exact hhi.elim
   have hv:=al (hρ _ _ hhi) hq;rw[g2]at hv;simp only[Instr.sliceBounds,Option.map_none,Option.map_some,aN hv,Sem.run_bind,Sem.run_pure,Result.andThen_ok,bD (P:=P) (kk:=kk') (n:=h) (m:=c) (w:=w) (by omega) (by omega)];rfl
 ·obtain⟨x,rfl⟩:∃ x,lo=some x:=by cases lo <;> first | exact⟨_,rfl⟩ | exact hlo.elim
  have hv:=al (hρ _ _ hlo) hp;rw[g1]at hv;rcases e2 with⟨rfl,rfl⟩ | ⟨y',kk',rfl,g2,rfl⟩
  ·obtain rfl:hi=none:=by cases hi <;> first | rfl | exact hhi.elim
   simp only[Instr.sliceBounds,Option.map_none,Option.map_some,aN hv,Sem.run_bind,Sem.run_pure,Result.andThen_ok,bD (P:=P) (kk:=kk) (n:=l) (m:=n) (w:=w) (by omega) (by omega)]
   simp
  ·obtain⟨x',rfl⟩:∃ x',hi=some x':=by cases hi <;> first | exact⟨_,rfl⟩ | exact hhi.elim
   have hv':=al (hρ _ _ hhi) hq;rw[g2]at hv';simp only[Instr.sliceBounds,Option.map_some,aN hv,aN hv',Sem.run_bind,Sem.run_pure,Result.andThen_ok,bD (P:=P) (kk:=kk') (n:=h) (m:=c) (w:=w) (by omega) (by omega),bD (P:=P) (kk:=kk) (n:=l) (m:=h.toNat) (w:=w) (by omega) (by omega)]
theorem C0 (hs:St s w)(hρ:∀ x y,OkOpd x y→RV (own s) w (ρ y) (a.eval x)){Ty:Nat}{x:Operand}{y:Opd}{lo hi:Option Operand}{lo' hi':Option Opd}(ho:o.op = .slice Ty x lo hi none)(hT:P.underlying Ty=some .string)
  (hx:OkOpd x y) (hlo:bN lo lo') (hhi:bN hi hi') (h:nop T R (.sls y lo' hi') ρ s K):NS P o a s w K:=by
 simp only[nop]at h;split at h
 ·rename_i t hb;obtain⟨l,p,h,e1⟩:=gS h;obtain⟨hh,q,h,e2⟩:=gS h;refine az hs h fun hd=>?_;obtain⟨d1,d2,d3,d4,d5,d6⟩:=hd;have hv:=al (hρ _ _ hx) d1;rw[hb]at hv;have run:=dL (P:=P) (sl:=false) (n:=t.size) (c:=t.size) hρ hlo hhi e1 e2 d2 d3 d4 d5 d6 (Nat.le_refl _);refine⟨.string (t.extract l.toNat hh.toNat),?_,.fz _ _ (.str _)⟩;simp only[execOp,ho,gN hv,Option.map_none,Instr.sliceAt,Instr.slice,Sem.run_bind,run_underlying hT,Result.andThen_ok,Option.isSome_none,Bool.false_eq_true,if_false,run,Sem.run_pure]
 ·exact h.elim
theorem Fz (hs:St s w)(hρ:∀ x y,OkOpd x y→RV (own s) w (ρ y) (a.eval x)){Ty n:Nat}{x:Operand}{y:Opd}{lo hi:Option Operand}{lo' hi':Option Opd}(ho:o.op = .slice Ty x lo hi none)(hT:zu P Ty n)
  (hx:OkOpd x y) (hlo:bN lo lo') (hhi:bN hi hi') (h:nop T R (.sl y lo' hi' n) ρ s K):NS P o a s w K:=by
 obtain⟨E,hE,hn⟩:=hT;have main:∀ (k m:Nat) (get:Nat→List AV),k=n→((ρ y).df→RV (own s) w (.lst k m get) (a.eval x)) →
   (lo_ ρ 0 lo' fun l p=>lo_ ρ m hi' fun h q=>K (mA k m get l.toNat (h-l).toNat) ((ρ y).df∧p∧q∧0≤l∧l≤h∧h≤m))→NS P o a s w K:=by
  intro k m get hkn hval h0
  clear h
  subst hkn;obtain⟨l,p,h0,e1⟩:=gS h0;obtain⟨hh,q,h0,e2⟩:=gS h0;refine az hs h0 fun hd=>?_;obtain⟨d1,d2,d3,d4,d5,d6⟩:=hd;have hv:=hval d1;obtain⟨ad,c,f1,hc,f2⟩:=iY hv;have run:=dL (P:=P) (sl:=true) (n:=m) (c:=c) hρ hlo hhi e1 e2 d2 d3 d4 d5 d6 hc;have ex:(execOp a.eval o).run P w = .ok (.value (.slice (if c=l.toNat then ad else ad.map (·.add (l.toNat*k))) (hh.toNat-l.toNat) (c-l.toNat))) w:=by
   simp only[execOp,ho,f1,Option.map_none,Instr.sliceAt,Instr.slice,Sem.run_bind,run_underlying hE,Result.andThen_ok,run,hn,Sem.run_pure]
  refine⟨_,ex,?_⟩;have hs1:(hh-l).toNat=hh.toNat-l.toNat:=by omega
  have hs2:hh.toNat≤m:=by omega
  have hs3:l.toNat≤hh.toNat:=by omega
  rw[hs1];unfold mA;rw[show min (hh.toNat-l.toNat) (m-l.toNat)=hh.toNat-l.toNat by omega];generalize l.toNat=L at *;generalize hh.toNat=H at *
  clear d4 d5 d6 hs1 h0 run ex e1 e2
  by_cases h0:0 < H-L
  ·obtain⟨ad,vf,rfl,g0,g1,g2,g3,g4,g5⟩:=f2 (by omega)
   clear f2
   rw[if_neg (by omega)];refine .fz _ _ (.lst _ _ _ (ad.add (L*k)) _ (fun i j=>vf (L+i) j) h0 (by omega) (by rw[iA g0]) (by rwa [bV]) (by rwa [bV]) (fun i j hi hj=>?_) (fun i hi=>by rw[if_pos hi]; exact g4 _ (by omega)) fun i j hi hj=>by rw[if_pos hi]; exact g5 _ _ (by omega) hj);rw[nT g0,← Nat.add_assoc,← Nat.add_mul];exact g3 _ _ (by omega) hj
  ·have e:H-L=0:=by omega
   rw[e];exact .fz _ _ (.lst0 _ _ _ _)
 simp only[nop]at h;split at h
 ·rename_i k m get hb;exact main k m get h.1 (fun d1=>by have hv:=al (hρ _ _ hx) d1; rwa [hb]at hv) h.2
 ·rename_i hb;refine main n 0 (fun _=>[]) rfl (fun d1=>?_) h;have hv:=al (hρ _ _ hx) d1;rw[hb]at hv;obtain⟨ad,e⟩:=cV hv;rw[e];exact .fz _ _ (.lst0 _ _ _ _)
 ·exact h.elim
end
end Go.Proofs.YtdkaijofmigmbaaGreat.L

set_option linter.unusedVariables false
set_option linter.unusedSimpArgs false
namespace Go.Proofs.YtdkaijofmigmbaaGreat.L
open Go
theorem St.fresh {s:Store}{w:World}(h:St s w):s w.heap.size=none:=by
 cases hs:s w.heap.size with
 | none=>rfl
 | some x=>exact absurd (h _ _ hs).lt (Nat.lt_irrefl _)
theorem Mv.alloc {o:Nat→Prop}(w:World)(x:Obj):Mv o o w (w.alloc x):=
 ⟨rfl,rfl,rfl,by simp,fun b hb _=>RowKit.Below.heap_alloc w x b hb,fun b h=>.inl h⟩
theorem St.mv {s:Store}{w w':World}(h:St s w)(hm:Mv (own s) (own s) w w')(hb:∀ b,own s b→w'.heap[b]?=w.heap[b]?):St s w':=fun b x hx=>
 (h b x hx).mv hm (hb b (by unfold own; rw[hx]; simp))
theorem St.alloc {s:Store}{w:World}(h:St s w)(x:Obj):St s (w.alloc x):=
 h.mv (Mv.alloc w x) fun b hb=>RowKit.Below.heap_alloc w x b (h.lt hb)
theorem tc {o:Nat→Prop}{w:World}{x:AV}{v:Value}(h:RV o w x v)(hf:x.frz=true):FV o w x v:=by
 cases h with
 | fz a v h=>exact h
 | _=>simp[AV.frz]at hf
theorem qm {x:AV}(hf:x.frz=true):x.one=true:=by cases x <;> first | rfl | simp[AV.frz]at hf
theorem oR (k:Nat):∀ (vs:List Value) (i0:Nat) (cs:Array Value),(i0+vs.length)*k≤cs.size→(∀ v∈vs,v.cells.size=k) →
  ∃ cs',Instr.fill (fun i=>some (i*k,k)) cs ((vs.zipIdx i0).map fun x=>(x.2,x.1))=some cs'∧cs'.size=cs.size∧(∀ i j,i < vs.length→j < k→cs'.getD ((i0+i)*k+j) Go.undef=(b9 vs i).cells.getD j Go.undef)∧(∀ p,p < i0*k→cs'.getD p Go.undef=cs.getD p Go.undef)
 | [],i0,cs,_,_=>⟨cs,rfl,rfl,fun i j hi=>by simp at hi,fun _ _=>rfl⟩
 | v::vs,i0,cs,h,hv=>by
  simp only[List.length_cons]at h;have hk:v.cells.size=k:=hv v (by simp);have h':(i0+1+vs.length)*k≤cs.size:=by rw[show i0+1+vs.length=i0+(vs.length+1)from by omega]; exact h
  have hle:i0*k+k≤cs.size:=by
   have:(i0+1)*k≤(i0+1+vs.length)*k:=Nat.mul_le_mul_right k (by omega);rw[Nat.add_mul,Nat.one_mul]at this;omega
  have e:v.cells.zipIdx.foldl (fun(cs:Array Value) (x:Value×Nat)=>cs.setIfInBounds (i0*k+x.2) x.1) cs=(v.cells.toList.zipIdx 0).foldl (fun(cs:Array Value) (x:Value×Nat)=>cs.setIfInBounds (i0*k+x.2) x.1) cs:=by
   rw[← Array.foldl_toList,Array.toList_zipIdx]
  obtain⟨f1,f2⟩:=jz (i0*k) v.cells.toList 0 cs (by rw[Array.length_toList,hk]; omega);obtain⟨cs',g1,g2,g3,g4⟩:=oR k vs (i0+1) ((v.cells.toList.zipIdx 0).foldl (fun(cs:Array Value) (x:Value×Nat)=>cs.setIfInBounds (i0*k+x.2) x.1) cs) (by rw[f1]; exact h') (fun u hu=>hv u (by simp[hu]));refine⟨cs',?_,by rw[g2,f1],fun i j hi hj=>?_,fun p hp=>?_⟩
  ·simp only[List.zipIdx_cons,List.map_cons,Instr.fill];rw[if_neg (by rw[hk]; simp; omega)];have e':(v.cells.zipIdx.foldl (fun cs (x:Value×Nat)=>cs.setIfInBounds (i0*k+x.2) x.1) cs)=(v.cells.toList.zipIdx 0).foldl (fun(cs:Array Value) (x:Value×Nat)=>cs.setIfInBounds (i0*k+x.2) x.1) cs:=e;rw[e'];exact g1
  ·cases i with
   | zero=>
    rw[g4 _ (by rw[Nat.add_zero,Nat.add_mul]; omega),f2,Nat.add_zero,Nat.add_zero,if_pos (by rw[Array.length_toList,hk]; omega)]
    simp[b9,Array.getD_eq_getD_getElem?,List.getD_eq_getElem?_getD]
   | succ i=>
    simp only[List.length_cons]at hi;rw[show i0+(i+1)=i0+1+i from by omega,g3 i j (by omega) hj]
    simp[b9]
  ·rw[g4 p (by rw[Nat.add_mul]; omega),f2,if_neg (by omega)]
def td (P:Program)(T E k:Nat):Prop:=P.underlying T=some (.slice E)∧∃ ie z,P.info? E=some ie∧ie.size=k∧0 < k∧ie.zero=some z∧z.cells.size=k
def kv:Nat→List (Nat×Operand)→List Opd→Prop
 | _,[],[]=>True
 | i,(i',x)::l,y::l'=>i'=i∧OkOpd x y∧kv (i+1) l l'
 | _,_,_=>False
section
variable {P:Program} {T:Tbl} {R:Nat→Prop} {o:Oper} {a:Act} {s:Store} {w:World} {ρ:Opd→AV} {K:AV→Prop→Prop}
theorem fH:∀ (l:List (Nat×Operand)) (l':List Opd) (i:Nat),kv i l l'→cK (l.map (·.2)) l'∧l.length=l'.length∧∀ f:Operand→Value,(l.map fun x=>(x.1,f x.2))=(((l.map (·.2)).map f).zipIdx i).map fun x=>(x.2,x.1)
 | [],[],_,_=>⟨trivial,rfl,fun _=>rfl⟩
 | (i',x)::l,y::l',i,h=>by
  obtain⟨rfl,h1,h2⟩:=h;obtain⟨g1,g2,g3⟩:=fH l l' _ h2;exact⟨⟨h1,g1⟩,by simp[g2],fun f=>by simp[g3 f]⟩
 | [],_::_,_,h=>h.elim
 | _::_,[],_,h=>h.elim
theorem fh {p:AV→Bool}{k:Nat}:∀ (l:List AV),eM p k l→∀ i,i < l.length→(cellsOf (at_ l i)).length=k∧(cellsOf (at_ l i)).all p=true
 | [],_,i,hi=>by simp at hi
 | v::l,h,0,_=>⟨h.1,h.2.1⟩
 | v::l,h,i+1,hi=>by
  have:=fh l h.2.2 i (by simpa using hi)
  simpa [at_]using this
theorem mP (hρ:∀ x y,OkOpd x y→RV (own s) w (ρ y) (a.eval x)){Ty E k:Nat}{ps:Array (Nat×Operand)}{n:Nat}{ys:List Opd}(hB:td P Ty E k)(hk:kv 0 ps.toList ys)(hn:ys.length=n)(h0:0 < n)(hsm:n*k≤16777216)(hd:ko ρ ys)(hr:eM AV.one k (vals ρ ys)):
  ∃ cs:Array Value,(Instr.buildSlice Ty n (ps.map fun(i,x)=>(i,a.eval x))).run P w = .ok (.slice (some ⟨w.heap.size,0,none⟩) n n) (w.alloc (.cells cs E))∧cs.size=n*k∧∀ i j,i < n→j < k→RV (own s) w (at_ (cellsOf (at_ (vals ρ ys) i)) j) (cs.getD (i*k+j) Go.undef):=by
 obtain⟨hE,ie,z,b1,rfl,b3,b4,b5⟩:=hB;obtain⟨g1,g2,g3⟩:=fH _ _ _ hk;obtain⟨v1,v2⟩:=cW hρ _ _ g1 hd;have hlen:(ps.toList.map (·.2)).length=n:=by rw[List.length_map,g2,hn]
 have hcell:∀ i,i < n→(b9 ((ps.toList.map (·.2)).map a.eval) i).cells.size=ie.size∧∀ j,j < ie.size→RV (own s) w (at_ (cellsOf (at_ (vals ρ ys) i)) j) ((b9 ((ps.toList.map (·.2)).map a.eval) i).cells.getD j Go.undef):=fun i hi=>by
  have hi':i < (vals ρ ys).length:=by rw[← v1,List.length_map,hlen]; exact hi
  obtain⟨r1,r2⟩:=fh _ hr i hi';obtain⟨c1,c2,c3⟩:=ff (v2 i hi') r2;exact⟨by rw[c1,r1],fun j hj=>c2 j (by omega)⟩
 obtain⟨cs,f1,f2,f3,f4⟩:=oR ie.size ((ps.toList.map (·.2)).map a.eval) 0 ((Array.range (n*ie.size)).map (z.cells[· % z.cells.size]!)) (by simp[hlen,← hn,g2]) (fun v hv=>by
  obtain⟨i,hi,rfl⟩:=List.getElem_of_mem hv;have hi':i < n:=by simpa [hlen,← hn,g2]using hi
  have:=(hcell i hi').1
  rwa [b9,List.getD_eq_getElem?_getD,List.getElem?_eq_getElem hi]at this)
 have hfill:Instr.fill (fun i=>some (i*ie.size,ie.size)) ((Array.range (n*ie.size)).map (z.cells[· % z.cells.size]!)) (ps.map fun(i,x)=>(i,a.eval x)).toList=some cs:=by
  have e:(ps.map fun(i,x)=>(i,a.eval x)).toList=ps.toList.map fun x=>(x.1,a.eval x.2):=by simp
  rw[e,g3 a.eval];exact f1
 have hpos:0 < n*ie.size:=Nat.mul_pos h0 b3;refine⟨cs,?_,by rw[f2]; simp,fun i j hi hj=>?_⟩
 ·have hz:(zeroValue E).run P w = .ok z w:=by simp[zeroValue,typeInfo,b1,b4]
  have hsz:(sizeOf E).run P w = .ok ie.size w:=by simp[sizeOf,typeInfo,b1]
  simp only[Instr.buildSlice,Sem.run_bind,run_underlying hE,Result.andThen_ok,hsz];rw[if_neg (by omega),if_neg (by omega)];simp only[Sem.run_bind,hz,Result.andThen_ok,Sem.run_pure,hfill,newRow,run_newObj];rfl
 ·have:=(hcell i hi).2 j hj;rw[show i*ie.size+j=(0+i)*ie.size+j from by simp,f3 i j (by simp[hlen,← hn,g2]at *; omega) hj];exact this
theorem C1 (hs:St s w)(hρ:∀ x y,OkOpd x y→RV (own s) w (ρ y) (a.eval x)){Ty E k n:Nat}{ps:Array (Nat×Operand)}{ys:List Opd}(ho:o.op = .buildSlice Ty n ps)(hB:td P Ty E k)(hk:kv 0 ps.toList ys)(hn:ys.length=n)(hsm:n*k≤16777216)
  (h:nop T R (.bsl k ys) ρ s K):NS P o a s w K:=by
 simp only[nop]at h;refine⟨_,_,h,fun hd=>?_⟩;by_cases h0:n=0
 ·rw[if_pos (by omega)];obtain⟨hE,ie,z,b1,rfl,b3,b4,b5⟩:=hB;subst h0;have hps:ps=#[]:=by
   obtain⟨g1,g2,g3⟩:=fH _ _ _ hk;rw[hn]at g2;exact Array.eq_empty_of_size_eq_zero (by simpa using g2)
  subst hps;have hsz:(sizeOf E).run P w = .ok ie.size w:=by simp[sizeOf,typeInfo,b1]
  refine aL (v:=.slice (some ⟨w.heap.size,0,none⟩) 0 0) (w':=w.alloc (.cells #[] E)) ?_ ⟨rfl,rfl⟩ (.fz _ _ (.emp _)) (hs.alloc _) (Mv.alloc _ _);have e0:∀ f:Nat→Value,(Array.range 0).map f=#[]:=fun f=>Array.eq_empty_of_size_eq_zero (by simp)
  simp[execOp,ho,Instr.buildSlice,run_underlying hE,hsz,Instr.fill,newRow,e0]
 ·rw[if_neg (by omega)];have hone:eM AV.one k (vals ρ ys):=by
   have:∀ l,eM AV.frz k l→eM AV.one k l:=by
    intro l
    induction l with
    | nil=>exact fun h=>h
    | cons v l ih=>exact fun h=>⟨h.1,by rw[List.all_eq_true]at *; exact fun x hx=>qm (List.all_eq_true.1 h.2.1 x hx),ih h.2.2⟩
   exact this _ hd.2
  obtain⟨cs,e1,e2,e3⟩:=mP hρ hB hk hn (by omega) hsm hd.1 hone;refine aL (v:=.slice (some ⟨w.heap.size,0,none⟩) n n) (w':=w.alloc (.cells cs E)) ?_ ⟨rfl,rfl⟩ ?_ (hs.alloc _) (Mv.alloc _ _)
  ·simp only[execOp,ho,Sem.run_bind,e1,Result.andThen_ok,Sem.run_pure]
  ·rw[hn];have hfresh:¬ own s w.heap.size:=by unfold own; rw[hs.fresh]; simp
   have hvl:(vals ρ ys).length=n:=by simp[vals,hn]
   refine .fz _ _ (.lst _ _ _ _ _ (fun i j=>cs.getD (i*k+j) Go.undef) (by omega) (Nat.le_refl _) rfl hfresh (by simp) (fun i j hi hj=>?_) (fun i hi=>(fh _ hd.2 i (by omega)).1) fun i j hi hj=>?_)
   ·rw[ce,Nat.zero_add,World.cell?_alloc_new];have hlt:i*k+j < cs.size:=by
     rw[e2];have:(i+1)*k≤n*k:=Nat.mul_le_mul_right k hi;rw[Nat.add_mul,Nat.one_mul]at this;omega
    simp[Array.getD_eq_getD_getElem?,hlt]
   ·obtain⟨r1,r2⟩:=fh _ hd.2 i (by omega);refine FV.mv (Mv.alloc w _) (tc (e3 i j hi hj) ?_);rw[List.all_eq_true]at r2;refine r2 _ ?_;have hj':j < (cellsOf (at_ (vals ρ ys) i)).length:=by omega
    generalize cellsOf (at_ (vals ρ ys) i)=l at hj' ⊢;rw[at_,List.getD_eq_getElem?_getD,List.getElem?_eq_getElem hj'];exact List.getElem_mem hj'
end
end Go.Proofs.YtdkaijofmigmbaaGreat.L

set_option linter.unusedVariables false
set_option linter.unusedSimpArgs false
namespace Go.Proofs.YtdkaijofmigmbaaGreat.L
open Go
def jA (P:Program)(kt:TypeId):Nat→Prop
 | 0=>P.underlying kt=some (.int .i64)
 | n+1=>IntS P kt (n+1)
def hU (k:List Int):List MapEntry→List (List Int)→Nat→Option (Nat×Value)
 | e::es,x::xs,i=>if x=k then some (i,e.val)else hU k es xs (i+1)
 | _,_,_=>none
section
variable {P:Program}
theorem qo {kt kn:Nat}(hk:jA P kt (kn+1)){x y:List Int}(hx:x.length=jv (kn+1))(hy:y.length=jv (kn+1))(w:World):(Op.equal kt (bU (kn+1) x) (bU (kn+1) y)).run P w = .ok (decide (x=y)) w:=
 ku hk 9998 x y hx hy w
theorem jB {kt kn:Nat}(hk:jA P kt kn){k:List Int}(hl:k.length=jv kn)(es:List MapEntry)(ks:List (List Int))(h:es.map (·.key)=ks.map (bU kn))(hls:∀ x∈ks,x.length=jv kn)(w:World):
  (Instr.findKey kt (bU kn k) es).run P w = .ok (hU k es ks 0) w:=by
 cases kn with
 | zero=>
  have key:∀ (es:List MapEntry) (ks:List (List Int)) (i:Nat),es.map (·.key)=ks.map (bU 0)→(∀ x∈ks,x.length=jv 0)→Instr.findNow (.int .i64) (bU 0 k) es i=some (hU k es ks i):=by
   intro es
   induction es with
   | nil=>intro ks i h _; cases ks <;> simp_all [Instr.findNow,hU]
   | cons e es ih=>
    intro ks i h hls;cases ks with
    | nil=>simp at h
    | cons x xs=>
     simp only[List.map_cons,List.cons.injEq]at h;simp only[jv]at hls hl;obtain⟨a,rfl⟩:=List.length_eq_one_iff.1 hl;obtain⟨b,rfl⟩:=List.length_eq_one_iff.1 (hls x (by simp));simp only[Instr.findNow,h.1,bU,List.headD_cons,Instr.sameNow,if_true];by_cases he:a=b
     ·subst he; simp[hU]
     ·have:(a==b)=false:=by simp[he]
      rw[this];simp only[hU];rw[if_neg (by simp; exact fun h=>he h.symm)];exact ih xs (i+1) h.2 (fun y hy=>hls y (by simp[hy]))
  exact MapKept.run_findKey hk (key es ks 0 h hls)
 | succ n=>
  have key:∀ (es:List MapEntry) (ks:List (List Int)) (i:Nat),es.map (·.key)=ks.map (bU (n+1))→(∀ x∈ks,x.length=jv (n+1))→(Instr.findAsking kt (bU (n+1) k) es i).run P w = .ok (hU k es ks i) w:=by
   intro es
   induction es with
   | nil=>intro ks i h _; cases ks <;> simp_all [Instr.findAsking,hU]
   | cons e es ih=>
    intro ks i h hls;cases ks with
    | nil=>simp at h
    | cons x xs=>
     simp only[List.map_cons,List.cons.injEq]at h;simp only[Instr.findAsking,Sem.run_bind,h.1,qo hk hl (hls x (by simp)),Result.andThen_ok];by_cases he:k=x
     ·subst he; simp[hU]
     ·simp only[he,decide_false,Bool.false_eq_true,if_false,hU];rw[if_neg (fun h=>he h.symm)];exact ih xs (i+1) h.2 (fun y hy=>hls y (by simp[hy]))
  have hu:P.underlying kt=some (.struct (P.fieldsOf kt)):=(show IntS P kt (n+1)from hk).und;cases es with
  | nil=>cases ks <;> simp_all [Instr.findKey,run_underlying hu,Instr.findNow,hU]
  | cons e es=>
   simp only[Instr.findKey,Sem.run_bind,run_underlying hu,Result.andThen_ok,Instr.findNow];have:Instr.sameNow (.struct (P.fieldsOf kt)) (bU (n+1) k) e.key=none:=by simp[Instr.sameNow]
   rw[this];exact key _ ks 0 h hls
theorem ja {kt kn:Nat}(hk:jA P kt kn){k:List Int}(hl:k.length=jv kn)(em:Bool)(m:Nat)(w:World):(Instr.checkKey em (m+2) kt (bU kn k)).run P w = .ok () w:=by
 cases kn with
 | zero=>have hu:P.underlying kt=some (.int .i64):=hk; simp[Instr.checkKey,run_underlying hu,bU]
 | succ n=>
  have hI:IntS P kt (n+1):=hk;rw[Instr.checkKey];simp only[bU,Sem.run_bind,run_underlying hI.und,Result.andThen_ok];rw[← Array.forIn_toList];have key:∀ (fs:List Field),(∀ (j:Nat) (f:Field),fs[j]?=some f→f.offset < k.length∧P.underlying f.type=some (.int .i64)) →
    (forIn fs PUnit.unit (fun (f : Field) (_ : PUnit) => (if f.name ≠ "_" then (part f.type (k.map (Value.int .i64)).toArray f.offset >>= fun x => Instr.checkKey em (m + 1) f.type x >>= fun _ => pure (ForInStep.yield PUnit.unit)) else pure (ForInStep.yield PUnit.unit) : Sem (ForInStep PUnit)))).run P w = .ok PUnit.unit w := by
   intro fs
   induction fs with
   | nil=>intro _; simp
   | cons f fs ih=>
    intro hf;obtain⟨g1,g2⟩:=hf 0 f rfl;have hp:(part f.type (k.map (Value.int .i64)).toArray f.offset).run P w = .ok (.int .i64 k[f.offset]) w:=by
     simp only[part,Sem.run_bind,ii g2,Result.andThen_ok,Bool.false_eq_true,if_false]
     simp[g1]
    have hc:(Instr.checkKey em (m+1) f.type (.int .i64 k[f.offset])).run P w = .ok () w:=by simp[Instr.checkKey,run_underlying g2]
    have ih':=ih (fun j f hj=>hf (j+1) f (by simpa using hj));simp only[List.forIn_cons,Sem.run_bind,Sem.run_ite];split
    ·simp only[Sem.run_bind,hp,hc,Result.andThen_ok,Sem.run_pure];exact ih'
    ·simp only[Sem.run_pure,Result.andThen_ok];exact ih'
  have:=key (P.fieldsOf kt).toList (fun j f hj=>by
   obtain⟨g1,g2,g3⟩:=hI.fld j f hj;have:j < (P.fieldsOf kt).toList.length:=(List.getElem?_eq_some_iff.1 hj).1;rw[hI.len]at this;exact⟨by rw[g2,hl]; exact this,g3⟩)
  rw[this];rfl
end
theorem mQ (k:List Int):∀ (es:List MapEntry) (ae:List (List Int×AV)) (i:Nat),es.length=ae.length →
  (hU k es (ae.map (·.1)) i=none∧bK ae k=none∧aT ae k=ae.length) ∨
  (aT ae k < ae.length∧hU k es (ae.map (·.1)) i=some (i+aT ae k,(es.getD (aT ae k) default).val)∧bK ae k=some (ae.getD (aT ae k) default).2∧(ae.getD (aT ae k) default).1=k)
 | [],[],i,_=>.inl ⟨rfl,rfl,rfl⟩
 | e::es,x::xs,i,h=>by
  obtain⟨xk,xv⟩:=x;by_cases hx:xk=k
  ·right;have hm:aT ((xk,xv)::xs) k=0:=by simp[aT,List.findIdx_cons,hx]
   rw[hm];refine⟨by simp,by simp[hU,hx],by simp[bK,hx],by simpa using hx⟩
  ·have hm:aT ((xk,xv)::xs) k=aT xs k+1:=by simp[aT,List.findIdx_cons,hx]
   have hg:bK ((xk,xv)::xs) k=bK xs k:=by simp[bK,hx]
   rcases mQ k es xs (i+1) (by simpa using h)with⟨h1,h2,h3⟩ | ⟨h0,h1,h2,h3⟩
   ·left;exact⟨by simp[hU,hx,h1],by rw[hg,h2],by rw[hm,h3]; simp⟩
   ·right;rw[hm,hg];refine⟨by simpa using h0,?_,by simpa using h2,by simpa using h3⟩;simp only[List.map_cons,hU,if_neg hx,h1]
    simp; omega
 | [],_::_,_,h=>by simp at h
 | _::_,[],_,h=>by simp at h
theorem kw:∀ (cs:List AV) (l:List Int),fF cs=some l→cs=l.map (AV.int .i64)
 | [],l,h=>by simp[fF]at h; subst h; rfl
 | c::cs,l,h=>by
  cases c with
  | int k n=>
   cases k with
   | i64=>
    simp only[fF]at h;split at h
    ·rename_i r hr;cases h;rw[List.map_cons,← kw cs r hr]
    ·cases h
   | _=>simp[fF]at h
  | _=>simp[fF]at h
theorem fI {kn:Nat}{v:AV}{K:List Int→Prop}(h:keyOf kn v K):∃ k,K k∧k.length=jv kn∧(∀ s w u,RV (own s) w v u→u=bU kn k):=by
 unfold keyOf at h;split at h
 ·exact⟨_,h,rfl,fun s w u hu=>by simpa [bU]using aN hu⟩
 ·rename_i m cs;split at h
  ·rename_i l hl;have:=kw _ _ hl;subst this;exact⟨l,h.2,h.1,fun s w u hu=>by simpa [bU]using lz hu⟩
  ·exact h.elim
 ·exact h.elim
section
variable {P:Program} {T:Tbl} {R:Nat→Prop} {o:Oper} {a:Act} {s:Store} {w:World} {ρ:Opd→AV} {K:AV→Prop→Prop}
theorem lA {kt kn:Nat}(hk:jA P kt kn){b:Nat}{ae:List (List Int×AV)}{pd:Option (Int×Nat)}(hb:ObjR (own s) w b (.imap kn ae pd)){k:List Int}(hl:k.length=jv kn):
  ∃ (en:Array MapEntry) (cl:Nat),w.heap[b]?=some (.map en cl)∧en.size=ae.length∧(∀ em,(Instr.checkKey em 10000 kt (bU kn k)).run P w = .ok () w) ∧
   (((Instr.findKey kt (bU kn k) en.toList).run P w = .ok none w∧bK ae k=none∧aT ae k=ae.length) ∨
    (aT ae k < ae.length∧(Instr.findKey kt (bU kn k) en.toList).run P w = .ok (some (aT ae k,(en.getD (aT ae k) default).val)) w∧bK ae k=some (ae.getD (aT ae k) default).2∧(ae.getD (aT ae k) default).1=k ∧
     RV (own s) w (ae.getD (aT ae k) default).2 (en.getD (aT ae k) default).val)):=by
 obtain⟨en,cl,h1,h2,h3,h4,h5⟩:=hb;refine⟨en,cl,h1,h2,fun em=>ja hk hl em 9998 w,?_⟩;have hkeys:en.toList.map (·.key)=(ae.map (·.1)).map (bU kn):=by
  apply List.ext_getElem (by simp[h2]);intro i g1 g2;have hi:i < ae.length:=by simpa using g2
  have:=(h3 i hi).1;simp only[Array.getD_eq_getD_getElem?,List.getD_eq_getElem?_getD]at this;rw[Array.getElem?_eq_getElem (by omega),List.getElem?_eq_getElem hi]at this
  simpa using this
 have hlens:∀ x∈ae.map (·.1),x.length=jv kn:=by
  intro x hx;obtain⟨i,hi,rfl⟩:=List.getElem_of_mem hx;have hi':i < ae.length:=by simpa using hi
  have:=(h3 i hi').2.1;simp only[List.getD_eq_getElem?_getD]at this;rw[List.getElem?_eq_getElem hi']at this
  simpa using this
 have hrun:=jB hk hl en.toList (ae.map (·.1)) hkeys hlens w;rcases mQ k en.toList ae 0 (by simpa using h2)with⟨g1,g2,g3⟩ | ⟨g0,g1,g2,g3⟩
 ·left; rw[hrun,g1]; exact⟨rfl,g2,g3⟩
 ·right;refine⟨g0,?_,g2,g3,(h3 _ g0).2.2⟩;rw[hrun,g1,Nat.zero_add]
  simp[Array.getD_eq_getD_getElem?,List.getD_eq_getElem?_getD]
def FA (P:Program)(et:TypeId)(z:AV):Prop:=∃ zv,(∀ w,(zeroValue et).run P w = .ok zv w)∧∀ o w,RV o w z zv
theorem C2 (hs:St s w){Ty kt et kn:Nat}{m key:Operand}{m' key':Opd}{ok fr:Bool}{z:AV}(ho:o.op = .lookup Ty m key ok)(hT:P.underlying Ty=some (.map kt et))(hk:jA P kt kn)(hz:FA P et z)
  (hm:RV (own s) w (ρ m') (a.eval m)) (hkey:RV (own s) w (ρ key') (a.eval key)) (h:nop T R (.lkp kn ok z m' key' fr) ρ s K):NS P o a s w K:=by
 obtain⟨zv,z1,z2⟩:=hz;simp only[nop]at h;split at h
 ·rename_i b hb;split at h
  ·rename_i kn' ae pd hsb;obtain⟨rfl,h⟩:=h;obtain⟨k,h,hl,hkv⟩:=fI h;refine az hs h fun hd=>?_;have hmv:=al hm hd.1;rw[hb]at hmv;have hkeyv:=hkv _ _ _ (al hkey hd.2.1);obtain⟨en,cl,e1,e2,e3,e4⟩:=lA hk (hs _ _ hsb) hl;have hobj:(getObj b).run P w = .ok (.map en cl) w:=run_getObj_map w b en cl e1;rcases e4 with⟨f1,f2,f3⟩ | ⟨f0,f1,f2,f3,f4⟩
   ·refine⟨if ok then .tuple #[zv,.bool false]else zv,?_,?_⟩
    ·simp only[execOp,ho,iz hmv,hkeyv,Instr.lookup,Sem.run_bind,run_underlying hT,Result.andThen_ok,hobj,Sem.run_pure,e3,f1,z1]
    ·rw[f2];cases ok
     ·exact z2 _ _
     ·exact .tup [z,.bool false] [zv,.bool false] rfl (fun j hj=>by
       match j,hj with
       | 0,_=>exact z2 _ _
       | 1,_=>exact .fz _ _ (.bool _))
   ·refine⟨if ok then .tuple #[(en.getD (aT ae k) default).val,.bool true]else(en.getD (aT ae k) default).val,?_,?_⟩
    ·simp only[execOp,ho,iz hmv,hkeyv,Instr.lookup,Sem.run_bind,run_underlying hT,Result.andThen_ok,hobj,Sem.run_pure,e3,f1]
    ·rw[f2];cases ok
     ·exact f4
     ·exact .tup [_,.bool true] [_,.bool true] rfl (fun j hj=>by
       match j,hj with
       | 0,_=>exact f4
       | 1,_=>exact .fz _ _ (.bool _))
  ·exact h.elim
 ·exact h.elim
theorem wH (hs:St s w){m:Operand}{ts:Array TypeId}{t0 kt et:Nat}{m':Opd}{fr:Bool}(ho:o.op = .call {callee:=.builtin .len,args:=#[m],argTypes:=ts })(ht:ts[0]?=some t0)(hT:P.underlying t0=some (.map kt et))
  (hm:RV (own s) w (ρ m') (a.eval m)) (h:nop T R (.lenm m' fr) ρ s K):NS P o a s w K:=by
 simp only[nop]at h;split at h
 ·rename_i b hb;split at h
  ·rename_i kn ae pd hsb;refine az hs h fun hd=>⟨.int .i64 ae.length,?_,.fz _ _ (.int _ _)⟩
   have hmv:=al hm hd.1;rw[hb]at hmv;obtain⟨en,cl,h1,h2,_⟩:=hs _ _ hsb;have hobj:(getObj b).run P w = .ok (.map en cl) w:=run_getObj_map w b en cl h1
   simp[execOp,ho,iz hmv,resolve,invoke,builtin,Builtin.len_,ht,run_underlying hT,hobj,goInt,h2]
  ·exact h.elim
 ·exact h.elim
theorem wI (hs:St s w){Ty:Nat}{x i:Operand}{y j:Opd}(ho:o.op = .index Ty x i)(hT:P.underlying Ty=some .string)(hx:RV (own s) w (ρ y) (a.eval x))(hi:RV (own s) w (ρ j) (a.eval i))(h:nop T R (.idxs y j) ρ s K):NS P o a s w K:=by
 simp only[nop]at h;split at h
 ·rename_i t kk z hb hz;refine az hs h fun hd=>⟨_,?_,.fz _ _ (.int _ _)⟩
  have h1:=al hx hd.1;rw[hb]at h1;have h2:=al hi hd.2.1;rw[hz]at h2;have hlt:z.toNat < t.size:=by have:=hd.2.2; omega
  have e:t[z.toNat]?=some t[z.toNat]:=by rw[getElem?_pos t z.toNat hlt]
  have e2:t.toList.getD z.toNat 0=t[z.toNat]:=by
   rw[ByteArray.toList_eq];rw[List.getD_eq_getElem?_getD,List.getElem?_eq_getElem (by simpa using hlt)];rfl
  simp only[execOp,ho,gN h1,aN h2,Instr.index,asIntOf,Sem.run_bind,Sem.run_pure,Result.andThen_ok,run_underlying hT,if_pos hd.2.2.1,e,e2]
 ·exact h.elim
end
end Go.Proofs.YtdkaijofmigmbaaGreat.L

set_option linter.unusedVariables false
set_option linter.unusedSimpArgs false
namespace Go.Proofs.YtdkaijofmigmbaaGreat.L
open Go
theorem upd_same (s:Store)(b:Nat)(x:AObj):upd s b x b=some x:=by simp[upd]
theorem ay (s:Store){b c:Nat}(x:AObj)(h:c≠b):upd s b x c=s c:=by simp[upd,h]
theorem fJ {s:Store}{b:Nat}{x:AObj}{c:Nat}(h:own (upd s b x) c):c=b∨own s c:=by
 by_cases hc:c=b
 ·exact .inl hc
 ·right; unfold own at *; rwa [ay _ _ hc]at h
theorem nU {s:Store}{w w':World}(hs:St s w){x:AObj}(hm:Mv (own s) (own s) w w')(hold:∀ c,c < w.heap.size→w'.heap[c]?=w.heap[c]?)(hx:ObjR (own (upd s w.heap.size x)) w' w.heap.size x):
  St (upd s w.heap.size x) w'∧Mv (own s) (own (upd s w.heap.size x)) w w':=by
 have hm':Mv (own s) (own (upd s w.heap.size x)) w w':=⟨hm.os,hm.tape,hm.output,hm.size,hm.block,fun c hc=>by
  rcases fJ hc with rfl | h
  ·exact .inr (Nat.le_refl _)
  ·exact .inl h⟩
 refine⟨fun c y hc=>?_,hm'⟩;by_cases h:c=w.heap.size
 ·subst h;rw[upd_same]at hc;cases hc;exact hx
 ·rw[ay _ _ h]at hc;exact(hs c y hc).mv hm' (hold c (hs c y hc).lt)
theorem fK {s:Store}{w w':World}(hs:St s w){b:Nat}{x:AObj}(hb:own s b)(h1:w'.os=w.os)(h2:w'.tape=w.tape)(h3:w'.output=w.output)(h4:w'.heap.size=w.heap.size)(hold:∀ c,c≠b→w'.heap[c]?=w.heap[c]?)
  (hx:Mv (own s) (own (upd s b x)) w w'→ObjR (own (upd s b x)) w' b x):St (upd s b x) w'∧Mv (own s) (own (upd s b x)) w w':=by
 have hm':Mv (own s) (own (upd s b x)) w w':=⟨h1,h2,h3,by omega,fun c _ hc=>hold c (fun e=>hc (e▸hb)),fun c hc=>by
  rcases fJ hc with rfl | h
  ·exact .inl hb
  ·exact .inl h⟩
 refine⟨fun c y hc=>?_,hm'⟩;by_cases h:c=b
 ·subst h;rw[upd_same]at hc;cases hc;exact hx hm'
 ·rw[ay _ _ h]at hc;exact(hs c y hc).mv hm' (hold c h)
theorem bB {s:Store}{b:Nat}{x:AObj}(h:s b=some x):own s b:=by unfold own; rw[h]; simp
section
variable {P:Program} {R:Nat→Prop} {o:Oper} {a:Act} {s:Store} {w:World} {ρ:Opd→AV} {K:AV→Store→Prop}
theorem rj (hs:St s w){cs:Array Value}{T:TypeId}{z:List AV}(h:CR (own s) w z cs):St (upd s w.heap.size (.box z)) (w.alloc (.cells cs T))∧Mv (own s) (own (upd s w.heap.size (.box z))) w (w.alloc (.cells cs T)):=by
 have hm:=Mv.alloc (o:=own s) w (.cells cs T);refine nU hs hm (fun c hc=>RowKit.Below.heap_alloc w _ c hc) ⟨cs,T,heap_alloc_new w _,h.1,fun j hj=>(h.2 j hj).mv ?_⟩;exact⟨hm.os,hm.tape,hm.output,hm.size,hm.block,fun c hc=>by
  rcases fJ hc with rfl | h
  ·exact .inr (Nat.le_refl _)
  ·exact .inl h⟩
def C3 (P:Program)(T:TypeId)(z:List AV):Prop:=∃ zv,(∀ w,(zeroValue T).run P w = .ok zv w)∧ZR z zv.cells
theorem C4 (hs:St s w)(hR:∀ b,R b→b < w.heap.size){Ty:Nat}{z:List AV}(ho:o.op = .alloc Ty)(hz:C3 P Ty z)(h:eff P R (.alc z) ρ s K):YW P o a s w K:=by
 obtain⟨zv,z1,z2⟩:=hz;simp only[eff]at h;obtain⟨g1,g2⟩:=rj (T:=Ty) hs (z2 (own s) w);refine aL (v:=.pointer (some ⟨w.heap.size,0,none⟩)) (w':=w.alloc (.cells zv.cells Ty)) ?_ (h w.heap.size hs.fresh (fun h=>absurd (hR _ h) (Nat.lt_irrefl _))) (.ptr _ _) g1 g2;simp only[execOp,ho,Instr.alloc,Sem.run_bind,z1,Result.andThen_ok,newVar,newRow,run_newObj,Sem.run_pure];rfl
theorem C5 (hs:St s w)(hR:∀ b,R b→b < w.heap.size){Ty:Nat}{x:Operand}{y:Opd}(ho:o.op = .box Ty x)(hx:RV (own s) w (ρ y) (a.eval x))(h:eff P R (.box y) ρ s K):YW P o a s w K:=by
 simp only[eff]at h;obtain⟨hd,h1,h⟩:=h;have hv:=al hx hd;obtain⟨c1,c2,c3⟩:=ff hv h1;obtain⟨g1,g2⟩:=rj (T:=Ty) hs (z:=cellsOf (ρ y).val) (cs:=(a.eval x).cells) ⟨c1,c2⟩;refine aL (v:=.pointer (some ⟨w.heap.size,0,none⟩)) (w':=w.alloc (.cells (a.eval x).cells Ty)) ?_ (h w.heap.size hs.fresh (fun h=>absurd (hR _ h) (Nat.lt_irrefl _))) (.ptr _ _) g1 g2;simp only[execOp,ho,Instr.box,Sem.run_bind,Result.andThen_ok,newVar,newRow,run_newObj,Sem.run_pure];rfl
theorem jb (cs:List Value)(p:Nat)(vs:List Value)(j:Nat)(h:p+vs.length≤cs.length):
  (cs.take p++vs++cs.drop (p+vs.length)).toArray.getD j Go.undef=if p≤j∧j < p+vs.length then b9 vs (j-p)else cs.toArray.getD j Go.undef:=by
 simp only[Array.getD_eq_getD_getElem?,List.getElem?_toArray,b9,List.getD_eq_getElem?_getD,List.append_assoc];have hl:(cs.take p).length=p:=by simp; omega
 by_cases h1:j < p
 ·rw[if_neg (by omega),List.getElem?_append_left (by omega),List.getElem?_take,if_pos h1]
 ·rw[List.getElem?_append_right (by omega),hl];by_cases h2:j < p+vs.length
  ·rw[if_pos ⟨by omega,h2⟩,List.getElem?_append_left (by omega)]
  ·rw[if_neg (by omega),List.getElem?_append_right (by omega),List.getElem?_drop];congr 2;omega
theorem uL (hs:St s w){Ty n:Nat}{p v:Operand}{p' v':Opd}(ho:o.op = .store Ty p v)(hT:∀ w,(sizeOf Ty).run P w = .ok n w)(hp:RV (own s) w (ρ p') (a.eval p))(hv:RV (own s) w (ρ v') (a.eval v))(h:eff P R (.sto p' v' n) ρ s K):YW P o a s w K:=by
 simp only[eff]at h;obtain⟨hd1,hd2,hl,h1,h⟩:=h;have hvv:=al hv hd2;obtain⟨c1,c2,c3⟩:=ff hvv h1;have hpv:=al hp hd1;have hlen:(a.eval v).cells.toList.length=n:=by rw[Array.length_toList,c1,hl]
 have run:∀ b q (cur:Array Value) (t:TypeId),a.eval p = .pointer (some ⟨b,q,none⟩)→w.heap[b]?=some (.cells cur t (0,0))→q+n≤cur.size →
   (execOp a.eval o).run P w = .ok .skip (w.setRow b (cur.toList.take q++(a.eval v).cells.toList++cur.toList.drop (q+(a.eval v).cells.toList.length)).toArray):=fun b q cur t he hb hq=>by
  have hst:=run_storeCells_at P b q t (a.eval v).cells.toList 0 cur w hb (by rw[hlen]; omega) c3;simp only[Nat.add_zero]at hst;simp only[execOp,ho,he,Instr.storeAt,Instr.sureAddr,storeVar,Sem.run_bind,Sem.run_pure,Result.andThen_ok,hT];rw[if_neg (by rw[c1,hl]; simp),hst];rfl
 have cell:∀ j,j < n→RV (own s) w (at_ (cellsOf (ρ v').val) j) (b9 (a.eval v).cells.toList j):=fun j hj=>by
  have:=c2 j (by omega)
  simpa [b9,Array.getD_eq_getD_getElem?,List.getD_eq_getElem?_getD]using this
 split at h
 ·rename_i b q hb;split at h
  ·rename_i cs hsb;obtain⟨-,hle,h⟩:=h;rw[hb]at hpv;obtain⟨vs,t,e1,e2,e3⟩:=hs _ _ hsb;have hr:=run b q vs t (cE hpv) e1 (by omega);generalize hw':w.setRow b _=w' at hr;have hS:=fK (x:=.box (cJ cs q (cellsOf (ρ v').val))) (w':=w') hs (bB hsb) (by rw[← hw']; rfl) (by rw[← hw']; rfl) (by rw[← hw']; rfl) (by rw[← hw']; simp) (fun c hc=>by rw[← hw']; exact setRow_other w b c _ hc) (fun hm=>by
    refine⟨_,t,by rw[← hw']; exact setRow_heap w b vs _ t _ e1,?_,fun j hj=>?_⟩
    ·rw[cq _ _ _ (by omega),← e2];simp only[List.size_toArray,List.length_append,List.length_take,List.length_drop,Array.length_toList]at hlen ⊢;omega
    ·rw[cq _ _ _ (by omega)]at hj;rw[jb _ _ _ _ (by rw[hlen,Array.length_toList]; omega),jy _ _ _ _ (by omega),hlen,hl];by_cases hc:q≤j∧j < q+n
     ·rw[if_pos hc,if_pos hc]; exact(cell _ (by omega)).mv hm
     ·rw[if_neg hc,if_neg hc]; simpa using(e3 j hj).mv hm)
   exact gP hr h hS.1 hS.2
  ·exact h.elim
 ·rename_i b k i j hb;split at h
  ·rename_i T' k' c xs hsb;obtain⟨rfl,-,hi,hle,h⟩:=h;rw[hb]at hpv;obtain⟨vs,e1,e2,e3,e3',e4,e5⟩:=hs _ _ hsb;have hbound:i*k+k≤vs.size:=by
    rw[e2];have:(i+1)*k≤c*k:=Nat.mul_le_mul_right k (by omega);rw[Nat.add_mul]at this;omega
   have hr:=run b (i*k+j) vs T' (cU hpv) e1 (by omega);generalize hw':w.setRow b _=w' at hr;have hxi:(xs.getD i []).length=k:=e4 i hi;have hS:=fK (x:=.row T' k c (xs.set i (cJ (xs.getD i []) j (cellsOf (ρ v').val)))) (w':=w') hs (bB hsb) (by rw[← hw']; rfl) (by rw[← hw']; rfl) (by rw[← hw']; rfl) (by rw[← hw']; simp) (fun c hc=>by rw[← hw']; exact setRow_other w b c _ hc) (fun hm=>by
    have hget:∀ i',i' < xs.length→(xs.set i (cJ (xs.getD i []) j (cellsOf (ρ v').val))).getD i' []=if i'=i then cJ (xs.getD i []) j (cellsOf (ρ v').val)else xs.getD i' []:=fun i' hi'=>by
     simp only[List.getD_eq_getElem?_getD,List.getElem?_set];by_cases hh:i=i'
     ·subst hh; simp[hi]
     ·rw[if_neg hh,if_neg (fun e=>hh e.symm)]
    refine⟨_,by rw[← hw']; exact setRow_heap w b vs _ T' _ e1,?_,by simpa using e3,e3',fun i' hi'=>?_,fun i' j' hi' hj'=>?_⟩
    ·rw[← e2];simp only[List.size_toArray,List.length_append,List.length_take,List.length_drop,Array.length_toList]at hlen ⊢;omega
    ·simp only[List.length_set]at hi';rw[hget i' hi'];split
     ·rw[cq _ _ _ (by omega)]; exact hxi
     ·exact e4 i' hi'
    ·simp only[List.length_set]at hi';rw[hget i' hi',jb _ _ _ _ (by rw[hlen,Array.length_toList]; omega),hlen];by_cases hh:i'=i
     ·subst hh;rw[if_pos rfl,jy _ _ _ _ (by omega),hl];by_cases hc:j≤j'∧j' < j+n
      ·rw[if_pos hc,if_pos (by omega)];rw[show i'*k+j'-(i'*k+j)=j'-j from by omega];refine⟨(cell _ (by omega)).mv hm,?_⟩;have:j'-j < (a.eval v).cells.toList.length:=by omega
       exact c3 _ (by rw[b9,List.getD_eq_getElem?_getD,List.getElem?_eq_getElem this]; exact List.getElem_mem this)
      ·rw[if_neg hc,if_neg (by omega)];have:=e5 i' j' hi' hj';exact⟨by simpa using this.1.mv hm,by simpa using this.2⟩
     ·rw[if_neg hh,if_neg ?_]
      ·have:=e5 i' j' hi' hj';exact⟨by simpa using this.1.mv hm,by simpa using this.2⟩
      ·intro hc;rcases Nat.lt_or_gt_of_ne hh with hlt | hlt
       ·have:(i'+1)*k≤i*k:=Nat.mul_le_mul_right k hlt;rw[Nat.add_mul]at this;omega
       ·have:(i+1)*k≤i'*k:=Nat.mul_le_mul_right k hlt;rw[Nat.add_mul]at this;omega)
   exact gP hr h hS.1 hS.2
  ·exact h.elim
 ·exact h.elim
end
end Go.Proofs.YtdkaijofmigmbaaGreat.L

set_option linter.unusedVariables false
set_option linter.unusedSimpArgs false
namespace Go.Proofs.YtdkaijofmigmbaaGreat.L
open Go
structure ElR (P:Program) (T E k by_:Nat) (z:List AV) (i:TypeInfo) (zv:Value):Prop where
 und:P.underlying T=some (.slice E)
 info:P.info? E=some i
 sz:i.size=k
 bys:i.bytes=by_
 zero:i.zero=some zv
 zs:zv.cells.size=k
 pos:0 < k
 bpos:0 < by_
 one:∀ u∈zv.cells.toList,u.oneCell'=true
 zr:z.length=k→ZR z zv.cells
section
variable {P:Program} {R:Nat→Prop} {o:Oper} {a:Act} {s:Store} {w:World} {ρ:Opd→AV} {K:AV→Store→Prop}
theorem C6 (hs:St s w)(hR:∀ b,R b→b < w.heap.size){Ty kn:Nat}(ho:o.op = .makeMap Ty none)(h:eff P R (.mkm kn Ty) ρ s K):YW P o a s w K:=by
 simp only[eff]at h;have hm:=Mv.alloc (o:=own s) w (.map #[] 0);obtain⟨g1,g2⟩:=nU (x:=.imap kn [] none) hs hm (fun c hc=>RowKit.Below.heap_alloc w _ c hc) ⟨#[],0,heap_alloc_new w _,rfl,fun i hi=>by simp at hi,fun i hi=>by simp at hi,fun i j hi=>by simp at hi,fun x i h=>by simp at h⟩;refine aL (v:=.map (some w.heap.size)) (w':=w.alloc (.map #[] 0)) ?_ (h w.heap.size hs.fresh (fun h=>absurd (hR _ h) (Nat.lt_irrefl _))) (.mp _) g1 g2
 simp[execOp,ho,Instr.makeMap]
theorem kV (hs:St s w){cs:Array Value}{T k n:Nat}{xs:List (List AV)}(h2:cs.size=n*k)(hn:xs.length=n)(h3:n≤9223372036854775807)(h4:∀ i,i < xs.length→(xs.getD i []).length=k)
  (h5:∀ i j,i < xs.length→j < k→RV (own s) w (at_ (xs.getD i []) j) (cs.getD (i*k+j) Go.undef)∧(cs.getD (i*k+j) Go.undef).oneCell'=true) :
  St (upd s w.heap.size (.row T k n xs)) (w.alloc (.cells cs T))∧Mv (own s) (own (upd s w.heap.size (.row T k n xs))) w (w.alloc (.cells cs T)):=by
 have hm:=Mv.alloc (o:=own s) w (.cells cs T);refine nU hs hm (fun c hc=>RowKit.Below.heap_alloc w _ c hc) ⟨cs,heap_alloc_new w _,h2,by omega,h3,h4,fun i j hi hj=>⟨(h5 i j hi hj).1.mv ?_,(h5 i j hi hj).2⟩⟩;exact⟨hm.os,hm.tape,hm.output,hm.size,hm.block,fun c hc=>by
  rcases fJ hc with rfl | h
  ·exact .inr (Nat.le_refl _)
  ·exact .inl h⟩
theorem nV {zv:Array Value}{k n i j:Nat}(hz:zv.size=k)(hi:i < n)(hj:j < k):(madeCells zv (n*k)).getD (i*k+j) Go.undef=zv.getD j Go.undef:=by
 have hlt:i*k+j < n*k:=by
  have:(i+1)*k≤n*k:=Nat.mul_le_mul_right k hi;rw[Nat.add_mul,Nat.one_mul]at this;omega
 have hmod:(i*k+j) % zv.size=j:=by rw[hz,Nat.add_comm,Nat.add_mul_mod_self_right,Nat.mod_eq_of_lt hj]
 simp only[madeCells,Array.getD_eq_getD_getElem?]
 simp[hlt,hmod,show j < zv.size by omega]
theorem C7 (hs:St s w)(hR:∀ b,R b→b < w.heap.size){Ty E k by_:Nat}{z:List AV}{i:TypeInfo}{zv:Value}{n c:Operand}{n':Opd}(ho:o.op = .makeSlice Ty n c)(hnc:a.eval c=a.eval n)(hE:ElR P Ty E k by_ z i zv)(hz:z.length=k)(hn:RV (own s) w (ρ n') (a.eval n))
  (h:eff P R (.mks E k by_ z n') ρ s K):YW P o a s w K:=by
 simp only[eff]at h;obtain⟨hd,h⟩:=h;have hv:=al hn hd;split at h
 ·rename_i kk m hb;obtain⟨h0,hby,h⟩:=h;rw[hb]at hv;have hZ:=hE.zr hz (own s) w;have hle:m≤9223372036854775807:=by
   have h2:(1:Int)*m≤by_*m:=Int.mul_le_mul_of_nonneg_right (by have:=hE.bpos; omega) h0;omega
  obtain⟨g1,g2⟩:=kV (T:=E) (k:=k) (n:=m.toNat) (xs:=List.replicate m.toNat z) (cs:=madeCells zv.cells (m.toNat*k)) hs (size_madeCells _ _) (by simp) (by omega) (fun i hi=>by
    have hi':i < m.toNat:=by simpa using hi
    simp[List.getD_eq_getElem?_getD,hi',hz]) (fun i j hi hj=>by
    have hi':i < m.toNat:=by simpa using hi
    rw[nV hE.zs hi' hj];refine⟨?_,?_⟩
    ·have:=hZ.2 j (by omega)
     simpa [List.getD_eq_getElem?_getD,hi']using this
    ·refine hE.one _ ?_;have:=hE.zs
     simp[Array.getD_eq_getD_getElem?,show j < zv.cells.size by omega])
  refine aL (v:=.slice (some ⟨w.heap.size,0,none⟩) m.toNat m.toNat) (w':=w.alloc (.cells (madeCells zv.cells (m.toNat*k)) E)) ?_ (h w.heap.size hs.fresh (fun h=>absurd (hR _ h) (Nat.lt_irrefl _))) (.slc _ _ _ (Nat.le_refl _)) g1 g2;have hrun:=run_make (P:=P) w Ty E i zv hE.und hE.info hE.zero kk kk m m h0 (Int.le_refl _) (by rw[hE.bys]; omega) hle;rw[hE.sz]at hrun;simp only[execOp,ho,hnc,aN hv,Sem.run_bind,hrun,Result.andThen_ok,Sem.run_pure]
 ·exact h.elim
theorem C8 (hs:St s w)(hR:∀ b,R b→b < w.heap.size)(hρ:∀ x y,OkOpd x y→RV (own s) w (ρ y) (a.eval x)){Ty E k n:Nat}{ps:Array (Nat×Operand)}{ys:List Opd}(ho:o.op = .buildSlice Ty n ps)(hB:td P Ty E k)(hk:kv 0 ps.toList ys)(hn:ys.length=n)(hsm:n*k≤16777216)
  (h:eff P R (.bsr E k ys) ρ s K):YW P o a s w K:=by
 simp only[eff]at h;obtain⟨hd,hr,h⟩:=h;have hvl:(vals ρ ys).length=n:=by simp[vals,hn]
 have hget:∀ i,i < n→((vals ρ ys).map cellsOf).getD i []=cellsOf (at_ (vals ρ ys) i):=fun i hi=>by
  simp[List.getD_eq_getElem?_getD,at_,show i < (vals ρ ys).length by omega]
 have hpos:0 < k:=by obtain⟨_,ie,z,_,rfl,h,_⟩:=hB; exact h
 have hnle:n≤n*k:=Nat.le_mul_of_pos_right n hpos;by_cases h0:n=0
 ·obtain⟨hE,ie,z,b1,rfl,b3,b4,b5⟩:=hB;subst h0;have hps:ps=#[]:=by
   obtain⟨g1,g2,g3⟩:=fH _ _ _ hk;rw[hn]at g2;exact Array.eq_empty_of_size_eq_zero (by simpa using g2)
  subst hps;have hys:ys=[]:=List.eq_nil_of_length_eq_zero hn;subst hys;have hsz:(sizeOf E).run P w = .ok ie.size w:=by simp[sizeOf,typeInfo,b1]
  obtain⟨g1,g2⟩:=kV (T:=E) (k:=ie.size) (n:=0) (xs:=[]) (cs:=#[]) hs (by simp) rfl (by omega) (fun i hi=>by simp at hi) (fun i j hi=>by simp at hi);refine aL (v:=.slice (some ⟨w.heap.size,0,none⟩) 0 0) (w':=w.alloc (.cells #[] E)) ?_ (h w.heap.size hs.fresh (fun h=>absurd (hR _ h) (Nat.lt_irrefl _))) (.slc _ _ _ (Nat.le_refl _)) g1 g2;have e0:∀ f:Nat→Value,(Array.range 0).map f=#[]:=fun f=>Array.eq_empty_of_size_eq_zero (by simp)
  simp[execOp,ho,Instr.buildSlice,run_underlying hE,hsz,Instr.fill,newRow,e0]
 ·obtain⟨cs,e1,e2,e3⟩:=mP hρ hB hk hn (by omega) hsm hd hr;obtain⟨g1,g2⟩:=kV (T:=E) (k:=k) (n:=n) (xs:=(vals ρ ys).map cellsOf) (cs:=cs) hs e2 (by simp[hvl]) (by omega) (fun i hi=>by
    have hi':i < n:=by simpa [hvl]using hi
    rw[hget i hi']; exact(fh _ hr i (by omega)).1) (fun i j hi hj=>by
    have hi':i < n:=by simpa [hvl]using hi
    rw[hget i hi'];refine⟨e3 i j hi' hj,ql (e3 i j hi' hj) ?_⟩;obtain⟨r1,r2⟩:=fh _ hr i (by omega);rw[List.all_eq_true]at r2;refine r2 _ ?_;have hj':j < (cellsOf (at_ (vals ρ ys) i)).length:=by omega
    generalize cellsOf (at_ (vals ρ ys) i)=l at hj' ⊢;rw[at_,List.getD_eq_getElem?_getD,List.getElem?_eq_getElem hj'];exact List.getElem_mem hj')
  refine aL (v:=.slice (some ⟨w.heap.size,0,none⟩) n n) (w':=w.alloc (.cells cs E)) ?_ (by have:=h w.heap.size hs.fresh (fun h=>absurd (hR _ h) (Nat.lt_irrefl _)); rw[hn]at this; exact this) (.slc _ _ _ (Nat.le_refl _)) g1 g2;simp only[execOp,ho,Sem.run_bind,e1,Result.andThen_ok,Sem.run_pure]
theorem uM (hs:St s w)(hρ:∀ x y,OkOpd x y→RV (own s) w (ρ y) (a.eval x)){f:FuncId}{xs:Array Operand}{ts:Array TypeId}{ys:List Opd}(ho:o.op = .call {callee:=.value (.func f),args:=xs,argTypes:=ts })(hx:cK xs.toList ys)(hne:f≠YB)(h:eff P R (.xcall f ys) ρ s K):YW P o a s w K:=by
 simp only[eff]at h;exact kU (oQ ho (h.2.ac.1 hne)) hne h.2.ac (fun _ _ h=>h.2) hs (cW hρ _ _ hx h.1)
theorem te (hs:St s w)(hρ:∀ x y,OkOpd x y→RV (own s) w (ρ y) (a.eval x)){c:Operand}{c':Opd}{xs:Array Operand}{ts:Array TypeId}{ys:List Opd}(ho:o.op = .call {callee:=.value c,args:=xs,argTypes:=ts })(hc:OkOpd c c')(hx:cK xs.toList ys)
  (h:eff P R (.xcallv c' ys) ρ s K):YW P o a s w K:=by
 simp only[eff]at h;obtain⟨h1,h2,h⟩:=h;split at h
 ·rename_i f caps hfn;have hv:=al (hρ _ _ hc) h1;rw[hfn]at hv;obtain⟨us,e1,e2,e3⟩:=nS hv;exact kU (mN ho e1 (h.2.ac.1 h.1)) h.1 h.2.ac (fun _ _ h=>h.2) hs (iB (cW hρ _ _ hx h2) ⟨e2,e3⟩)
 ·rename_i l pins caps hfn;have hv:=al (hρ _ _ hc) h1;rw[hfn]at hv;obtain⟨e1,e2⟩:=rh hv;exact uF (s6 ho e1) h.ac (fun _ _ h=>h.2) hs (iB (cW hρ _ _ hx h2) ⟨rfl,fun j hj=>by
   obtain rfl:j=0:=by simp at hj; omega
   rw[e1]at hv; exact hv⟩)
 ·exact h.elim
end
end Go.Proofs.YtdkaijofmigmbaaGreat.L

set_option linter.unusedVariables false
set_option linter.unusedSimpArgs false
namespace Go.Proofs.YtdkaijofmigmbaaGreat.L
open Go
theorem C9 {o:Nat→Prop}{w:World}{x:AV}{v:Value}(h:FV o w x v):v.oneCell'=true:=by cases h <;> rfl
def dp (f:Nat→Nat→Value)(m k:Nat):List Value:=(List.range (m*k)).map fun p=>f (p / k) (p % k)
theorem aP (f:Nat→Nat→Value)(m k:Nat):(dp f m k).length=m*k:=by simp[dp]
theorem kW (f:Nat→Nat→Value){m k i j:Nat}(hi:i < m)(hj:j < k):b9 (dp f m k) (i*k+j)=f i j:=by
 have hlt:i*k+j < m*k:=by
  have:(i+1)*k≤m*k:=Nat.mul_le_mul_right k hi;rw[Nat.add_mul,Nat.one_mul]at this;omega
 have hk:0 < k:=by omega
 have h1:(i*k+j) / k=i:=by rw[Nat.add_comm,Nat.add_mul_div_right _ _ hk,Nat.div_eq_of_lt hj,Nat.zero_add]
 have h2:(i*k+j) % k=j:=by rw[Nat.add_comm,Nat.add_mul_mod_self_right,Nat.mod_eq_of_lt hj]
 simp[b9,dp,List.getD_eq_getElem?_getD,hlt,h1,h2]
theorem oS (f:Nat→Nat→Value){m k:Nat}{u:Value}(hu:u∈dp f m k):∃ i j,i < m∧j < k∧u=f i j:=by
 simp only[dp,List.mem_map,List.mem_range]at hu;obtain⟨p,hp,rfl⟩:=hu;have hk:0 < k:=by
  rcases Nat.eq_zero_or_pos k with h | h
  ·subst h; simp at hp
  ·exact h
 exact⟨p / k,p % k,(Nat.div_lt_iff_lt_mul hk).2 hp,Nat.mod_lt _ hk,rfl⟩
theorem lB {f:Nat→Nat→Value}{m k q:Nat}{u:Value}(hu:(dp f m k)[q]?=some u):q / k < m∧q % k < k∧u=f (q / k) (q % k)∧q / k*k+q % k=q:=by
 have hq:q < m*k:=by
  have:=(List.getElem?_eq_some_iff.1 hu).1
  rwa [aP]at this
 have hk:0 < k:=by
  rcases Nat.eq_zero_or_pos k with h | h
  ·subst h; simp at hq
  ·exact h
 simp[dp,hq]at hu
 exact⟨(Nat.div_lt_iff_lt_mul hk).2 hq,Nat.mod_lt _ hk,hu.symm,by rw[Nat.mul_comm]; exact Nat.div_add_mod q k⟩
section
variable {P:Program} {R:Nat→Prop} {o:Oper} {a:Act} {s:Store} {w:World} {ρ:Opd→AV} {K:AV→Store→Prop}
theorem lC (hs:St s w){k:Nat}{y:AV}{v:Value}{Q:List (List AV)→Prop}(hv:RV (own s) w y v)(h:elems k s y Q):
  ∃ ys,Q ys∧∃ ad c,v = .slice ad ys.length c∧(∀ i,i < ys.length→(ys.getD i []).length=k)∧(0 < ys.length→∃ (b:Addr) (f:Nat→Nat→Value),ad=some b ∧
   (∀ i j,i < ys.length→j < k→w.cell? (b.add (i*k+j))=some (f i j))∧∀ i j,i < ys.length→j < k→RV (own s) w (at_ (ys.getD i []) j) (f i j)∧(f i j).oneCell'=true):=by
 unfold elems at h;split at h
 ·obtain⟨ad,e⟩:=cV hv;exact⟨[],h,ad,0,e,fun i hi=>by simp at hi,fun hi=>by simp at hi⟩
 ·rename_i k' n get;obtain⟨rfl,h⟩:=h;obtain⟨ad,c,e1,e2,e3⟩:=iY hv;have hget:∀ i,i < n→((List.range n).map get).getD i []=get i:=fun i hi=>by simp[List.getD_eq_getElem?_getD,hi]
  refine⟨_,h,ad,c,by simpa using e1,fun i hi=>?_,fun hi=>?_⟩
  ·have hi':i < n:=by simpa using hi
   obtain⟨b,vf,_,_,_,_,_,g,_⟩:=e3 (by omega);rw[hget i hi']; exact g i hi'
  ·obtain⟨b,vf,rfl,g0,g1,g2,g3,g4,g5⟩:=e3 (by simpa using hi);refine⟨b,vf,rfl,fun i j hi hj=>g3 i j (by simpa using hi) hj,fun i j hi hj=>?_⟩;have hi':i < n:=by simpa using hi
   rw[hget i hi'];exact⟨.fz _ _ (g5 i j hi' hj),C9 (g5 i j hi' hj)⟩
 ·rename_i b n c;split at h
  ·rename_i T k' c' xs hsb;obtain⟨rfl,rfl,rfl,h⟩:=h;have hb:=hs _ _ hsb;obtain⟨vs,e1,e2,e3,e3',e4,e5⟩:=hb;refine⟨xs,h,some ⟨b,0,none⟩,c',dy hv,e4,fun _=>⟨⟨b,0,none⟩,fun i j=>vs.getD (i*k'+j) Go.undef,rfl,fun i j hi hj=>?_,e5⟩⟩;rw[ce,Nat.zero_add,cell_of_row w b _ vs T (0,0) e1];have hlt:i*k'+j < vs.size:=by
    rw[e2];have:(i+1)*k'≤c'*k':=Nat.mul_le_mul_right k' (by omega);rw[Nat.add_mul]at this;omega
   simp[Array.getD_eq_getD_getElem?,hlt]
  ·exact h.elim
 ·rename_i b k1 p n;split at h
  ·rename_i T k' c' xs hsb;obtain⟨rfl,rfl,hle,h⟩:=h;have hb:=hs _ _ hsb;obtain⟨vs,e1,e2,e3,e3',e4,e5⟩:=hb;obtain⟨ad,c,g1,g2,g3⟩:=fG hv;have hlen:((xs.drop p).take n).length=n:=by simp; omega
   have hget:∀ i,i < n→((xs.drop p).take n).getD i []=xs.getD (p+i) []:=fun i hi=>by
    simp[List.getD_eq_getElem?_getD,List.getElem?_take,hi,List.getElem?_drop]
   refine⟨_,h,some ad,c,by rw[hlen]; exact g1,fun i hi=>?_,fun hpos=>⟨ad,fun i j=>vs.getD ((p+i)*k'+j) Go.undef,rfl,fun i j hi hj=>?_,fun i j hi hj=>?_⟩⟩
   ·rw[hlen]at hi;rw[hget i hi]; exact e4 _ (by omega)
   ·rw[hlen]at hi hpos;rw[g3 hpos,ce,cell_of_row w b _ vs T (0,0) e1];have e:p*k'+(i*k'+j)=(p+i)*k'+j:=by rw[Nat.add_mul]; omega
    rw[e];have hlt:(p+i)*k'+j < vs.size:=by
     rw[e2];have:(p+i+1)*k'≤c'*k':=Nat.mul_le_mul_right k' (by omega);rw[Nat.add_mul (p+i) 1]at this;omega
    simp[Array.getD_eq_getD_getElem?,hlt]
   ·rw[hlen]at hi;rw[hget i hi]; exact e5 _ _ (by omega) hj
  ·exact h.elim
 ·exact h.elim
theorem wJ {s:Store}{b:Nat}{x:AObj}{b' c:Nat}(h:own (upd (del s b) b' x) c):c=b'∨own s c:=by
 by_cases hc:c=b'
 ·exact .inl hc
 ·right;unfold own upd del at h;simp only[hc,if_false]at h;by_cases hb:c=b
  ·simp[hb]at h
  ·unfold own; simpa [hb]using h
theorem nW {s:Store}{w w':World}(hs:St s w){b:Nat}{x:AObj}(h1:w'.os=w.os)(h2:w'.tape=w.tape)(h3:w'.output=w.output)(h4:w.heap.size≤w'.heap.size)(hold:∀ c,c < w.heap.size→w'.heap[c]?=w.heap[c]?)
  (hx:Mv (own s) (own (upd (del s b) w.heap.size x)) w w'→ObjR (own (upd (del s b) w.heap.size x)) w' w.heap.size x):St (upd (del s b) w.heap.size x) w'∧Mv (own s) (own (upd (del s b) w.heap.size x)) w w':=by
 have hm:Mv (own s) (own (upd (del s b) w.heap.size x)) w w':=⟨h1,h2,h3,h4,fun c hc _=>hold c hc,fun c hc=>by
  rcases wJ hc with rfl | h
  ·exact .inr (Nat.le_refl _)
  ·exact .inl h⟩
 refine⟨fun c y hc=>?_,hm⟩;by_cases h:c=w.heap.size
 ·subst h;rw[upd_same]at hc;cases hc;exact hx hm
 ·rw[ay _ _ h]at hc;unfold del at hc;split at hc
  ·cases hc
  ·exact(hs c y hc).mv hm (hold c (hs c y hc).lt)
theorem cX (s:Store)(b:Nat)(x:AObj):upd (del s b) b x=upd s b x:=by
 funext c; unfold upd del; split <;> rfl
theorem fi (xs ys:List (List AV))(i:Nat):(xs++ys).getD i []=if i < xs.length then xs.getD i []else ys.getD (i-xs.length) []:=by
 simp only[List.getD_eq_getElem?_getD];split
 ·rename_i h; rw[List.getElem?_append_left h]
 ·rename_i h; rw[List.getElem?_append_right (by omega)]
theorem jC {T k c' n:Nat}{xs ys:List (List AV)}{w':World}{olds news rest:List Value}{o':Nat→Prop}(hm:Mv (own s) o' w w')
  (hb:w'.heap[w.heap.size]?=some (.cells (olds++news++rest).toArray T (0,0))) (hsz:(olds++news++rest).length=c'*k) (hn:xs.length+ys.length≤c') (hc:c'≤9223372036854775807)
  (ho:olds.length=xs.length*k) (hw:news.length=ys.length*k) (hxl:∀ i,i < xs.length→(xs.getD i []).length=k) (hyl:∀ i,i < ys.length→(ys.getD i []).length=k)
  (hx:∀ i j,i < xs.length→j < k→RV (own s) w (at_ (xs.getD i []) j) (b9 olds (i*k+j))∧(b9 olds (i*k+j)).oneCell'=true)
  (hy:∀ i j,i < ys.length→j < k→RV (own s) w (at_ (ys.getD i []) j) (b9 news (i*k+j))∧(b9 news (i*k+j)).oneCell'=true) :
  ObjR o' w' w.heap.size (.row T k c' (xs++ys)):=by
 refine⟨_,hb,by simpa using hsz,by simpa using hn,hc,fun i hi=>?_,fun i j hi hj=>?_⟩
 ·rw[fi];split
  ·exact hxl i (by assumption)
  ·exact hyl _ (by simp at hi; omega)
 ·rw[fi];simp only[Array.getD_eq_getD_getElem?,List.getElem?_toArray];by_cases h:i < xs.length
  ·rw[if_pos h];have hlt:i*k+j < olds.length:=by
    rw[ho];have:(i+1)*k≤xs.length*k:=Nat.mul_le_mul_right k h;rw[Nat.add_mul,Nat.one_mul]at this;omega
   have:=hx i j h hj;rw[List.append_assoc,List.getElem?_append_left hlt];simp only[b9,List.getD_eq_getElem?_getD]at this;exact⟨this.1.mv hm,this.2⟩
  ·rw[if_neg h];have hi':i-xs.length < ys.length:=by simp at hi; omega
   have e:i*k+j=olds.length+((i-xs.length)*k+j):=by
    rw[ho,← Nat.add_assoc,← Nat.add_mul,Nat.add_sub_cancel' (by omega)]
   have hlt:(i-xs.length)*k+j < news.length:=by
    rw[hw];have:(i-xs.length+1)*k≤ys.length*k:=Nat.mul_le_mul_right k hi';rw[Nat.add_mul,Nat.one_mul]at this;omega
   have:=hy (i-xs.length) j hi' hj;rw[e,List.append_assoc,List.getElem?_append_right (by omega),Nat.add_sub_cancel_left,List.getElem?_append_left hlt];simp only[b9,List.getD_eq_getElem?_getD]at this;exact⟨this.1.mv hm,this.2⟩
theorem Da (hs:St s w)(hR:∀ b,R b→b < w.heap.size){Ty E k by_:Nat}{z:List AV}{i:TypeInfo}{zv:Value}{x y:Operand}{x' y':Opd}(ho:o.op = .call {callee:=.builtin .append,args:=#[x,y],argTypes:=#[Ty,Ty] })(hE:ElR P Ty E k by_ z i zv)
  (hx:RV (own s) w (ρ x') (a.eval x)) (hy:RV (own s) w (ρ y') (a.eval y)) (h:eff P R (.app E k by_ x' y') ρ s K):YW P o a s w K:=by
 simp only[eff]at h;obtain⟨hd1,hd2,h⟩:=h;have hxv:=al hx hd1;have hyv:=al hy hd2;obtain⟨ys,h,ad,cy,ey,hyl,hyc⟩:=lC hs hyv h;have exec:∀ r w',(Builtin.append_ #[Ty,Ty] o.type #[a.eval x,a.eval y]).run P w = .ok r w'→(execOp a.eval o).run P w = .ok (.value r) w':=fun r w' hr=>by
  obtain⟨cs,e1⟩:∃ cs,(resolve a.eval {callee:=.builtin .append,args:=#[x,y],argTypes:=#[Ty,Ty] } o.type).run P w = .ok {target:=.builtin .append #[Ty,Ty] o.type cs,args:=#[a.eval x,a.eval y] } w:=by
   have ea:Array.map a.eval #[x,y]=#[a.eval x,a.eval y]:=by simp
   have e0:(resolve a.eval {callee:=.builtin .append,args:=#[x,y],argTypes:=#[Ty,Ty] } o.type).run P w = .ok {target:=.builtin .append #[Ty,Ty] o.type (#[x,y].map fun z=>match z with | .const _=>true | _=>false),args:=#[x,y].map a.eval } w:=rfl;rw[ea]at e0;exact⟨_,e0⟩
  simp only[execOp,ho,Sem.run_bind,e1,Result.andThen_ok,invoke,builtin,hr,Sem.run_pure]
 have hszr:∀ w,(sizeOf E).run P w = .ok k w:=fun w=>by simp[sizeOf,typeInfo,hE.info,hE.sz]
 have hkp:=hE.pos;have hbp:=hE.bpos;have hin:E=E:=rfl;split at h
 ·rename_i hb;obtain⟨hby,h0,h1⟩:=h;rw[hb]at hxv;obtain⟨ax,ex⟩:=cV hxv;by_cases hm:ys.length=0
  ·refine aL (v:=.slice ax 0 0) (w':=w) (exec _ _ ?_) (h0 hm) (.fz _ _ (.emp _)) hs (Mv.refl _ _);rw[ex,ey,hm];cases ax with
   | none=>simp[Builtin.append_,run_underlying hE.und,hszr,Builtin.lenOf]; cases ad <;> simp[Builtin.firstCells,loadCells,loadCellsFrom]
   | some b=>simp[Builtin.append_,run_underlying hE.und,hszr,Builtin.lenOf]; cases ad <;> simp[Builtin.firstCells,loadCells,loadCellsFrom,storeCells]
  ·obtain⟨b,f,rfl,f1,f2⟩:=hyc (by omega);have hnews:∀ j v,(dp f ys.length k)[j]?=some v→w.cell? (b.add j)=some v:=fun j v hj=>by
    obtain⟨g1,g2,g3,g4⟩:=lB hj;rw[g3,← f1 _ _ g1 g2,g4]
   have hle:ys.length≤140737488355328:=by
    have:1*ys.length≤by_*ys.length:=Nat.mul_le_mul_right _ hbp;omega
   have hcap:=grownCap_ge w ys.length 0 E;have hcap2:=grownCap_le_maxLen w ys.length 0 E (by simp only[maxLen]; omega);have hrun:(Builtin.append_ #[Ty,Ty] o.type #[a.eval x,a.eval y]).run P w = .ok (.slice (some ⟨w.heap.size,0,none⟩) ys.length (grownCap w ys.length 0 E)) (w.drew.alloc (.cells ((dp f ys.length k).toArray++Builtin.zeroCells zv.cells (grownCap w ys.length 0 E-ys.length)) E)):=by
    rw[ex,ey];cases ax with
    | none=>exact run_append_nil (P:=P) w Ty o.type E i zv hE.und hE.info hE.zero b ys.length cy (dp f ys.length k) (by rw[aP,hE.sz]) hnews (by omega) (by omega) (by rw[hE.bys,Nat.mul_comm]; omega)
    | some b0=>
     have:=run_append_grow (P:=P) w Ty o.type E i zv hE.und hE.info hE.zero b0 0 0 [] (by simp) (fun j v hj=>by simp at hj) b ys.length cy (dp f ys.length k) (by rw[aP,hE.sz]) hnews (by omega) (by omega) (growslice_fits (by omega) (by rw[hE.bys,Nat.mul_comm,Nat.zero_add]; omega))
     simpa using this
   have hS:=nW (s:=s) (w:=w) (b:=w.heap.size) (x:=.row E k (grownCap w ys.length 0 E) ys) (w':=w.drew.alloc (.cells ((dp f ys.length k).toArray++Builtin.zeroCells zv.cells (grownCap w ys.length 0 E-ys.length)) E)) hs rfl rfl rfl (by simp) (fun c hc=>RowKit.Below.heap_alloc w.drew _ c hc) (fun hm=>by
    have:=jC (s:=s) (w:=w) (T:=E) (k:=k) (c':=grownCap w ys.length 0 E) (n:=0) (xs:=[]) (ys:=ys) (olds:=[]) (news:=dp f ys.length k) (rest:=(Builtin.zeroCells zv.cells (grownCap w ys.length 0 E-ys.length)).toList) hm (by
      have e:=heap_alloc_new w.drew (.cells ((dp f ys.length k).toArray++Builtin.zeroCells zv.cells (grownCap w ys.length 0 E-ys.length)) E);rw[show w.drew.heap.size=w.heap.size from rfl]at e;rw[e]; simp) (by simp[aP,size_zeroCells,hE.zs,← Nat.add_mul]; congr 1; omega) (by simpa using hcap) (by simpa [maxLen]using hcap2) (by simp) (aP _ _ _) (fun i hi=>by simp at hi) hyl (fun i j hi=>by simp at hi) (fun i j hi hj=>by rw[kW f hi hj]; exact f2 i j hi hj)
    simpa using this)
   rw[cX]at hS;exact aL (exec _ _ hrun) (h1 (by omega) w.heap.size _ hs.fresh (fun h=>absurd (hR _ h) (Nat.lt_irrefl _)) hcap) (.slc _ _ _ hcap) hS.1 hS.2
 ·rename_i b n c hb;split at h
  ·rename_i T' k' c' xs hsb;obtain⟨rfl,rfl,rfl,rfl,hRb,hby,h⟩:=h;rw[hb]at hxv;have ex:=dy hxv;obtain⟨vs,e1,e2,e3,e3',e4,e5⟩:=hs _ _ hsb;have hown:=bB hsb;by_cases hm:ys.length=0
   ·obtain rfl:ys=[]:=List.eq_nil_of_length_eq_zero hm;have hk:=h b c' (by simp[del]) hRb (by simpa using e3);have hsame:upd (del s b) b (.row T' k' c' (xs++[]))=s:=by
     rw[cX]
     funext q
     by_cases hq:q=b
     ·subst hq; rw[upd_same,List.append_nil,hsb]
     ·rw[ay _ _ hq]
    rw[hsame]at hk;refine aL (v:=.slice (some ⟨b,0,none⟩) xs.length c') (w':=w) (exec _ _ ?_) hk (.slc _ _ _ (by simpa using e3)) hs (Mv.refl _ _);rw[ex,ey]
    simp[Builtin.append_,run_underlying hE.und,hszr,Builtin.lenOf,e3]
    cases ad <;> simp[Builtin.firstCells,loadCells,loadCellsFrom,storeCells]
   ·obtain⟨ab,f,rfl,f1,f2⟩:=hyc (by omega);have hnews:∀ j v,(dp f ys.length k')[j]?=some v→w.cell? (ab.add j)=some v:=fun j v hj=>by
     obtain⟨g1,g2,g3,g4⟩:=lB hj;rw[g3,← f1 _ _ g1 g2,g4]
    have hle:xs.length+ys.length≤140737488355328:=by
     have:1*(xs.length+ys.length)≤by_*(xs.length+ys.length):=Nat.mul_le_mul_right _ hbp;omega
    have hxk:xs.length*k'≤vs.size:=by rw[e2]; exact Nat.mul_le_mul_right _ e3
    by_cases hroom:xs.length+ys.length≤c'
    ·have hsum:xs.length*k'+ys.length*k'≤vs.size:=by rw[e2,← Nat.add_mul]; exact Nat.mul_le_mul_right _ hroom
     have hrun:=run_append_room (P:=P) w Ty o.type T' i hE.und hE.info b xs.length c' vs e1 ab ys.length cy (dp f ys.length k') (by rw[aP,hE.sz]) hnews (fun u hu=>by
      obtain⟨i,j,hi,hj,rfl⟩:=oS f hu; exact(f2 i j hi hj).2) hroom (by rw[aP,hE.sz]; exact hsum)
     rw[hE.sz]at hrun;have hk:=h b c' (by simp[del]) hRb hroom;rw[cX]at hk;generalize hw':w.setRow b _=w' at hrun;have hS:=fK (x:=.row T' k' c' (xs++ys)) (w':=w') hs hown (by rw[← hw']; rfl) (by rw[← hw']; rfl) (by rw[← hw']; rfl) (by rw[← hw']; simp) (fun c hc=>by rw[← hw']; exact setRow_other w b c _ hc) (fun hmv=>by
      refine⟨_,by rw[← hw']; exact setRow_heap w b vs _ T' _ e1,?_,by simpa using hroom,e3',fun i hi=>?_,fun i j hi hj=>?_⟩
      ·rw[← e2];simp only[List.size_toArray,List.length_append,List.length_take,List.length_drop,Array.length_toList,aP];omega
      ·rw[fi];split
       ·exact e4 i (by assumption)
       ·exact hyl _ (by simp at hi; omega)
      ·rw[fi,jb _ _ _ _ (by rw[aP,Array.length_toList]; exact hsum),aP];by_cases hc:i < xs.length
       ·have hlt:i*k'+j < xs.length*k':=by
         have:(i+1)*k'≤xs.length*k':=Nat.mul_le_mul_right k' hc;rw[Nat.add_mul,Nat.one_mul]at this;omega
        rw[if_pos hc,if_neg (by omega)];have:=e5 i j hc hj;exact⟨by simpa using this.1.mv hmv,by simpa using this.2⟩
       ·have hi':i-xs.length < ys.length:=by simp at hi; omega
        have e:i*k'+j=xs.length*k'+((i-xs.length)*k'+j):=by
         rw[← Nat.add_assoc,← Nat.add_mul,Nat.add_sub_cancel' (by omega)]
        have hlt:(i-xs.length)*k'+j < ys.length*k':=by
         have:(i-xs.length+1)*k'≤ys.length*k':=Nat.mul_le_mul_right k' hi';rw[Nat.add_mul,Nat.one_mul]at this;omega
        rw[if_neg hc,e,if_pos (by omega),Nat.add_sub_cancel_left,kW f hi' hj];exact⟨(f2 _ _ hi' hj).1.mv hmv,(f2 _ _ hi' hj).2⟩)
     exact aL (exec _ _ (by rw[ex,ey]; exact hrun)) hk (.slc _ _ _ hroom) hS.1 hS.2
    ·have hcap:=grownCap_ge w (xs.length+ys.length) c' T';have hcap2:=grownCap_le_maxLen w (xs.length+ys.length) c' T' (by simp only[maxLen]; omega);have hol:(vs.toList.take (xs.length*k')).length=xs.length*k':=by simp; omega
     have hov:∀ p,p < xs.length*k'→b9 (vs.toList.take (xs.length*k')) p=vs.getD p Go.undef:=fun p hp=>by
      simp[b9,List.getD_eq_getElem?_getD,List.getElem?_take,hp,Array.getD_eq_getD_getElem?]
     have hrun:=run_append_grow (P:=P) w Ty o.type T' i zv hE.und hE.info hE.zero ⟨b,0,none⟩ xs.length c' (vs.toList.take (xs.length*k')) (by rw[hol,hE.sz]) (fun j v hj=>by
       have hlt:j < xs.length*k':=by have:=(List.getElem?_eq_some_iff.1 hj).1; rwa [hol]at this
       rw[ce,Nat.zero_add,cell_of_row w b _ vs T' (0,0) e1];rw[List.getElem?_take,if_pos hlt]at hj
       simpa using hj) ab ys.length cy (dp f ys.length k') (by rw[aP,hE.sz]) hnews (by omega) (by omega) (growslice_fits (by omega) (by rw[hE.bys,Nat.mul_comm]; exact hby))
     have hk:=h w.heap.size (grownCap w (xs.length+ys.length) c' T') (by unfold del; split; rfl; exact hs.fresh) (fun h=>absurd (hR _ h) (Nat.lt_irrefl _)) hcap;have hS:=nW (s:=s) (w:=w) (b:=b) (x:=.row T' k' (grownCap w (xs.length+ys.length) c' T') (xs++ys)) (w':=w.drew.alloc (.cells ((vs.toList.take (xs.length*k')).toArray++(dp f ys.length k').toArray++Builtin.zeroCells zv.cells (grownCap w (xs.length+ys.length) c' T'-(xs.length+ys.length))) T')) hs rfl rfl rfl (by simp) (fun c hc=>RowKit.Below.heap_alloc w.drew _ c hc) (fun hmv=>
      jC (s:=s) (w:=w) (n:=0) (olds:=vs.toList.take (xs.length*k')) (news:=dp f ys.length k') (rest:=(Builtin.zeroCells zv.cells (grownCap w (xs.length+ys.length) c' T'-(xs.length+ys.length))).toList) hmv (by
       have e:=heap_alloc_new w.drew (.cells ((vs.toList.take (xs.length*k')).toArray++(dp f ys.length k').toArray++Builtin.zeroCells zv.cells (grownCap w (xs.length+ys.length) c' T'-(xs.length+ys.length))) T');rw[show w.drew.heap.size=w.heap.size from rfl]at e;rw[e]; simp) (by
       simp only[List.length_append,hol,aP,Array.length_toList,size_zeroCells,hE.zs,← Nat.add_mul];congr 1; omega) hcap (by simpa [maxLen]using hcap2) hol (aP _ _ _) e4 hyl (fun i j hi hj=>by
       have hlt:i*k'+j < xs.length*k':=by
        have:(i+1)*k'≤xs.length*k':=Nat.mul_le_mul_right k' hi;rw[Nat.add_mul,Nat.one_mul]at this;omega
       rw[hov _ hlt]; exact e5 i j hi hj) (fun i j hi hj=>by rw[kW f hi hj]; exact f2 i j hi hj))
     exact aL (exec _ _ (by rw[ex,ey]; exact hrun)) hk (.slc _ _ _ hcap) hS.1 hS.2
  ·exact h.elim
 ·exact h.elim
end
end Go.Proofs.YtdkaijofmigmbaaGreat.L

set_option linter.unusedVariables false
set_option linter.unusedSimpArgs false
namespace Go.Proofs.YtdkaijofmigmbaaGreat.L
open Go
theorem mput_eq (k:List Int)(v:AV):∀ es:List (List Int×AV),(aT es k < es.length∧mput es k v=es.set (aT es k) (k,v))∨(aT es k=es.length∧mput es k v=es++[(k,v)])
 | []=>.inr ⟨rfl,rfl⟩
 | (k',u)::es=>by
  by_cases h:k'=k
  ·left;have hm:aT ((k',u)::es) k=0:=by simp[aT,List.findIdx_cons,h]
   rw[hm]; exact⟨by simp,by simp[mput,h]⟩
  ·have hm:aT ((k',u)::es) k=aT es k+1:=by simp[aT,List.findIdx_cons,h]
   rcases mput_eq k v es with⟨h1,h2⟩ | ⟨h1,h2⟩
   ·left; rw[hm]; exact⟨by simpa using h1,by simp[mput,h,h2]⟩
   ·right; rw[hm]; exact⟨by simp[h1],by simp[mput,h,h2]⟩
theorem sameBits_int (n:Nat)(a:Int):Instr.sameBits n (.int .i64 a) (.int .i64 a)=true:=by cases n <;> simp[Instr.sameBits]
theorem mB (kn n:Nat)(k:List Int):Instr.sameBits (n+1) (bU kn k) (bU kn k)=true:=by
 cases kn with
 | zero=>exact sameBits_int _ _
 | succ m=>
  have key:∀ l:List Int,((l.map (Value.int .i64)).zip (l.map (Value.int .i64))).all (fun x=>Instr.sameBits n x.1 x.2)=true:=by
   intro l
   induction l with
   | nil=>rfl
   | cons a l ih=>simp only[List.map_cons,List.zip_cons_cons,List.all_cons,sameBits_int,Bool.true_and]; exact ih
  simp only[bU,Instr.sameBits,beq_self_eq_true,Bool.true_and]
  simpa using key k
section
variable {P:Program} {R:Nat→Prop} {o:Oper} {a:Act} {s:Store} {w:World} {ρ:Opd→AV} {K:AV→Store→Prop}
theorem mR (kn:Nat)(k:List Int)(w:World):(Instr.keyThatStays (bU kn k) (bU kn k)).run P w = .ok (bU kn k) w:=by
 simp only[Instr.keyThatStays,mB,if_true,Sem.run_pure]
def kK (w:World)(b:Nat)(x:Obj):World:={w with heap:=w.heap.setIfInBounds b x }
theorem rk {w:World}{b:Nat}{y:Obj}(x:Obj)(h:w.heap[b]?=some y):(kK w b x).heap[b]?=some x:=by
 have:b < w.heap.size:=(Array.getElem?_eq_some_iff.1 h).1
 simp[kK,this]
theorem lD (w:World)(b c:Nat)(x:Obj)(h:c≠b):(kK w b x).heap[c]?=w.heap[c]?:=by
 simp[kK,Array.getElem?_setIfInBounds_ne (Ne.symm h)]
theorem kX (hs:St s w){b kn:Nat}{ae:List (List Int×AV)}{pd:Option (Int×Nat)}(hsb:s b=some (.imap kn ae pd)){en:Array MapEntry}{cl:Nat}(he:w.heap[b]?=some (.map en cl)){k:List Int}(hk:k.length=jv kn){v:Value}{x:AV}(hv:RV (own s) w x v)
  (en':Array MapEntry) (cl':Nat)
  (h:(aT ae k < ae.length∧(ae.getD (aT ae k) default).1=k∧en'=en.modify (aT ae k) (fun e=>{e with key:=bU kn k,val:=v })∧cl'=cl)∨(aT ae k=ae.length∧en'=en.push {key:=bU kn k,val:=v,born:=cl }∧cl'=cl+1))
  (pd':Option (Int×Nat)) (hpd:∀ y i,pd'=some (y,i)→i=aT ae k∧y=((en'.getD (aT ae k) default).born:Nat)) :
  St (upd s b (.imap kn (mput ae k x) pd')) (kK w b (.map en' cl'))∧Mv (own s) (own (upd s b (.imap kn (mput ae k x) pd'))) w (kK w b (.map en' cl')):=by
 obtain⟨en0,cl0,e1,e2,e3,e4,e5,e6⟩:=hs _ _ hsb;rw[he]at e1;cases e1;refine fK hs (bB hsb) rfl rfl rfl (by simp[kK]) (fun c hc=>lD w b c _ hc) fun hm=>?_;generalize own (upd s b (.imap kn (mput ae k x) pd'))=O at hm ⊢;refine⟨en',cl',rk _ he,?_,?_,?_,?_,?_⟩
 ·rcases h with⟨h1,h2,rfl,rfl⟩ | ⟨h1,rfl,rfl⟩
  ·rcases mput_eq k x ae with⟨g1,g2⟩ | ⟨g1,g2⟩
   ·rw[g2]; simp[e2]
   ·omega
  ·rcases mput_eq k x ae with⟨g1,g2⟩ | ⟨g1,g2⟩
   ·omega
   ·rw[g2]; simp[e2]
 ·intro i hi;rcases h with⟨h1,h2,rfl,rfl⟩ | ⟨h1,rfl,rfl⟩
  ·rcases mput_eq k x ae with⟨g1,g2⟩ | ⟨g1,g2⟩
   ·rw[g2]at hi ⊢;simp only[List.length_set]at hi;have old:=e3 i hi;simp only[List.getD_eq_getElem?_getD,Array.getD_eq_getD_getElem?,List.getElem?_set,Array.getElem?_modify]at old ⊢;by_cases hh:aT ae k=i
    ·subst hh;rw[if_pos rfl,if_pos hi,if_pos rfl];rw[Array.getElem?_eq_getElem (by omega)];exact⟨rfl,hk,hv.mv hm⟩
    ·rw[if_neg hh,if_neg hh];exact⟨old.1,old.2.1,old.2.2.mv hm⟩
   ·omega
  ·rcases mput_eq k x ae with⟨g1,g2⟩ | ⟨g1,g2⟩
   ·omega
   ·rw[g2]at hi ⊢;simp only[List.length_append,List.length_singleton]at hi;simp only[List.getD_eq_getElem?_getD,Array.getD_eq_getD_getElem?];by_cases hh:i < ae.length
    ·have old:=e3 i hh;simp only[List.getD_eq_getElem?_getD,Array.getD_eq_getD_getElem?]at old;rw[List.getElem?_append_left hh,Array.getElem?_push,if_neg (by omega)];exact⟨old.1,old.2.1,old.2.2.mv hm⟩
    ·obtain rfl:i=ae.length:=by omega
     rw[List.getElem?_append_right (by omega),Array.getElem?_push,if_pos e2.symm];simp only[Nat.sub_self,List.getElem?_cons_zero,Option.getD_some];exact⟨trivial,hk,hv.mv hm⟩
 ·intro i hi;rcases h with⟨h1,h2,rfl,rfl⟩ | ⟨h1,rfl,rfl⟩
  ·rcases mput_eq k x ae with⟨g1,g2⟩ | ⟨g1,g2⟩
   ·rw[g2]at hi;simp only[List.length_set]at hi;have old:=e4 i hi;simp only[Array.getD_eq_getD_getElem?,Array.getElem?_modify]at old ⊢;by_cases hh:aT ae k=i
    ·subst hh;rw[if_pos rfl];rw[Array.getElem?_eq_getElem (by omega)]at old ⊢;exact old
    ·rw[if_neg hh]; exact old
   ·omega
  ·rcases mput_eq k x ae with⟨g1,g2⟩ | ⟨g1,g2⟩
   ·omega
   ·rw[g2]at hi;simp only[List.length_append,List.length_singleton]at hi;simp only[Array.getD_eq_getD_getElem?];by_cases hh:i < ae.length
    ·have old:=e4 i hh;simp only[Array.getD_eq_getD_getElem?]at old;rw[Array.getElem?_push,if_neg (by omega)];omega
    ·obtain rfl:i=ae.length:=by omega
     rw[Array.getElem?_push,if_pos e2.symm];exact Nat.lt_succ_self _
 ·have hb:∀ i,i < (mput ae k x).length→(en'.getD i default).born=if i < ae.length then(en.getD i default).born else cl:=by
   intro i hi;rcases h with⟨h1,h2,rfl,rfl⟩ | ⟨h1,rfl,rfl⟩
   ·rcases mput_eq k x ae with⟨g1,g2⟩ | ⟨g1,g2⟩
    ·rw[g2]at hi;simp only[List.length_set]at hi;rw[if_pos hi];simp only[Array.getD_eq_getD_getElem?,Array.getElem?_modify];by_cases hh:aT ae k=i
     ·subst hh;rw[if_pos rfl,Array.getElem?_eq_getElem (by omega)];rfl
     ·rw[if_neg hh]
    ·omega
   ·rcases mput_eq k x ae with⟨g1,g2⟩ | ⟨g1,g2⟩
    ·omega
    ·rw[g2]at hi;simp only[List.length_append,List.length_singleton]at hi;simp only[Array.getD_eq_getD_getElem?];by_cases hh:i < ae.length
     ·rw[if_pos hh,Array.getElem?_push,if_neg (by omega)]
     ·obtain rfl:i=ae.length:=by omega
      rw[if_neg hh,Array.getElem?_push,if_pos e2.symm];rfl
  have hlen:(mput ae k x).length≤ae.length+1:=by
   rcases mput_eq k x ae with⟨g1,g2⟩ | ⟨g1,g2⟩ <;> rw[g2] <;> simp
  intro i j hi hj hij;rw[hb i hi,hb j hj]at hij;by_cases h1:i < ae.length
  ·by_cases h2:j < ae.length
   ·rw[if_pos h1,if_pos h2]at hij; exact e5 i j h1 h2 hij
   ·rw[if_pos h1,if_neg h2]at hij; have:=e4 i h1; omega
  ·by_cases h2:j < ae.length
   ·rw[if_neg h1,if_pos h2]at hij; have:=e4 j h2; omega
   ·omega
 ·intro y i hy;obtain⟨rfl,rfl⟩:=hpd y i hy;refine⟨?_,rfl⟩;rcases mput_eq k x ae with⟨g1,g2⟩ | ⟨g1,g2⟩ <;> rw[g2] <;> simp <;> omega
theorem es_mup (hs:St s w){Ty kt et kn:Nat}{m key v:Operand}{m' key' v':Opd}(ho:o.op = .mapUpdate Ty m key v∨o.op = .insert Ty m key v)(hT:P.underlying Ty=some (.map kt et))(hk:jA P kt kn)
  (hm:RV (own s) w (ρ m') (a.eval m)) (hkey:RV (own s) w (ρ key') (a.eval key)) (hv:RV (own s) w (ρ v') (a.eval v)) (h:eff P R (.mup kn m' key' v') ρ s K):YW P o a s w K:=by
 simp only[eff]at h;obtain⟨d1,d2,d3,h⟩:=h;split at h
 ·rename_i b hb;split at h
  ·rename_i kn' ae pd hsb;obtain⟨rfl,-,h⟩:=h;obtain⟨k,h,hl,hkv⟩:=fI h;have hmv:=al hm d1;rw[hb]at hmv;have hkeyv:=hkv _ _ _ (al hkey d2);have hvv:=al hv d3;obtain⟨en,cl,e1,e2,e3,e4⟩:=lA (P:=P) hk (hs _ _ hsb) hl;have hobj:(getObj b).run P w = .ok (.map en cl) w:=run_getObj_map w b en cl e1;have hset:∀ x,(setObj b x).run P w = .ok () (kK w b x):=fun x=>MapKept.run_setObj_map x e1;have exec:∀ w',(Instr.mapUpdate Ty (.map (some b)) (bU kn k) (a.eval v)).run P w = .ok () w'→(execOp a.eval o).run P w = .ok .skip w':=fun w' hr=>by
    rcases ho with ho | ho <;> simp only[execOp,ho,iz hmv,hkeyv,Sem.run_bind,hr,Result.andThen_ok,Sem.run_pure]
   rcases e4 with⟨f1,f2,f3⟩ | ⟨f0,f1,f2,f3,f4⟩
   ·have hS:=kX hs hsb e1 hl hvv (en.push {key:=bU kn k,val:=a.eval v,born:=cl }) (cl+1) (.inr ⟨f3,rfl,rfl⟩) none (fun y i h=>by cases h);refine gP (exec _ ?_) h hS.1 hS.2;simp only[Instr.mapUpdate,Sem.run_bind,run_underlying hT,Result.andThen_ok,hobj,e3,f1,hset]
   ·have hkeyi:(((en[aT ae k]?).map (·.key)).getD (bU kn k))=bU kn k:=by
     obtain⟨en0,cl0,g1,g2,g3,_⟩:=hs _ _ hsb;rw[e1]at g1;cases g1;have:=(g3 _ f0).1;rw[f3]at this;rw[Array.getD_eq_getD_getElem?,Array.getElem?_eq_getElem (by omega)]at this;rw[Array.getElem?_eq_getElem (by omega)]
     simpa using this
    have hS:=kX hs hsb e1 hl hvv (en.modify (aT ae k) (fun e=>{e with key:=bU kn k,val:=a.eval v })) cl (.inl ⟨f0,f3,rfl,rfl⟩) none (fun y i h=>by cases h);refine gP (exec _ ?_) h hS.1 hS.2;simp only[Instr.mapUpdate,Sem.run_bind,run_underlying hT,Result.andThen_ok,hobj,e3,f1,hkeyi,mR,hset]
  ·exact h.elim
 ·exact h.elim
theorem Db (hs:St s w){Ty kt et kn:Nat}{z:AV}{m key:Operand}{m' key':Opd}(ho:o.op = .mapEntry Ty m key)(hT:P.underlying Ty=some (.map kt et))(hk:jA P kt kn)(hz:FA P et z)
  (hm:RV (own s) w (ρ m') (a.eval m)) (hkey:RV (own s) w (ρ key') (a.eval key)) (h:eff P R (.men kn z m' key') ρ s K):YW P o a s w K:=by
 obtain⟨zv,z1,z2⟩:=hz;simp only[eff]at h;obtain⟨d1,d2,h⟩:=h;split at h
 ·rename_i b hb;split at h
  ·rename_i kn' ae pd hsb;obtain⟨rfl,-,h⟩:=h;obtain⟨k,h,hl,hkv⟩:=fI h;have hmv:=al hm d1;rw[hb]at hmv;have hkeyv:=hkv _ _ _ (al hkey d2);obtain⟨en,cl,e1,e2,e3,e4⟩:=lA (P:=P) hk (hs _ _ hsb) hl;have hobj:(getObj b).run P w = .ok (.map en cl) w:=run_getObj_map w b en cl e1;have hset:∀ x,(setObj b x).run P w = .ok () (kK w b x):=fun x=>MapKept.run_setObj_map x e1;have exec:∀ r w',(Instr.mapEntry Ty (.map (some b)) (bU kn k)).run P w = .ok r w'→(execOp a.eval o).run P w = .ok (.value r) w':=fun r w' hr=>by
    simp only[execOp,ho,iz hmv,hkeyv,Sem.run_bind,hr,Result.andThen_ok,Sem.run_pure]
   have tupR:∀ (o':Nat→Prop) (w':World) (x:AV) (v:Value) (n:Int),RV o' w' x v→RV o' w' (.tup [x,.int .i64 n]) (.tuple #[v,.int .i64 n]):=fun o' w' x v n hx=>
    .tup [x,.int .i64 n] [v,.int .i64 n] rfl (fun j hj=>by
     match j,hj with
     | 0,_=>exact hx
     | 1,_=>exact .fz _ _ (.int _ _))
   rcases e4 with⟨f1,f2,f3⟩ | ⟨f0,f1,f2,f3,f4⟩
   ·rw[f2]at h;simp only[Option.getD_none]at h;have hS:=kX hs hsb e1 hl (z2 (own s) w) (en.push {key:=bU kn k,val:=zv,born:=cl }) (cl+1) (.inr ⟨f3,rfl,rfl⟩) (some ((cl:Int),aT ae k)) (fun y i h=>by
     cases h;refine⟨rfl,?_⟩;rw[f3,← e2]
     simp[Array.getD_eq_getD_getElem?])
    refine aL (exec (.tuple #[zv,.int .i64 cl]) _ ?_) (h cl) (tupR _ _ _ _ _ (z2 _ _)) hS.1 hS.2;simp only[Instr.mapEntry,Sem.run_bind,run_underlying hT,Result.andThen_ok,hobj,e3,f1,z1,hset,goInt,Sem.run_pure]
   ·have hkeyi:(((en[aT ae k]?).map (·.key)).getD (bU kn k))=bU kn k:=by
     obtain⟨en0,cl0,g1,g2,g3,_⟩:=hs _ _ hsb;rw[e1]at g1;cases g1;have:=(g3 _ f0).1;rw[f3]at this;rw[Array.getD_eq_getD_getElem?,Array.getElem?_eq_getElem (by omega)]at this;rw[Array.getElem?_eq_getElem (by omega)]
     simpa using this
    rw[f2]at h;simp only[Option.getD_some]at h;have hlt:aT ae k < en.size:=by omega
    have hen:en.modify (aT ae k) (fun e=>{e with key:=bU kn k,val:=(en.getD (aT ae k) default).val })=en.modify (aT ae k) (fun e=>{e with key:=bU kn k }):=by
     apply Array.ext_getElem?;intro i;simp only[Array.getElem?_modify];by_cases hh:aT ae k=i
     ·subst hh;rw[if_pos rfl,if_pos rfl,Array.getElem?_eq_getElem hlt,Array.getD_eq_getD_getElem?,Array.getElem?_eq_getElem hlt];rfl
     ·rw[if_neg hh,if_neg hh]
    have hS:=kX hs hsb e1 hl f4 (en.modify (aT ae k) (fun e=>{e with key:=bU kn k,val:=(en.getD (aT ae k) default).val })) cl (.inl ⟨f0,f3,rfl,rfl⟩) (some (((en[aT ae k]?).map (fun x=>(x.born:Int))).getD 0,aT ae k)) (fun y i h=>by
     cases h;refine⟨rfl,?_⟩;rw[Array.getElem?_eq_getElem hlt]
     simp[Array.getD_eq_getD_getElem?,Array.getElem?_modify,Array.getElem_modify,hlt])
    rw[hen]at hS;refine aL (exec (.tuple #[(en.getD (aT ae k) default).val,.int .i64 (((en[aT ae k]?).map (fun x=>(x.born:Int))).getD 0)]) _ ?_) (h _) (tupR _ _ _ _ _ (f4.mv hS.2)) hS.1 hS.2;simp only[Instr.mapEntry,Sem.run_bind,run_underlying hT,Result.andThen_ok,hobj,e3,f1,hkeyi,mR,hset,goInt,Sem.run_pure]
  ·exact h.elim
 ·exact h.elim
theorem Dc (hs:St s w){Ty:Nat}{m st v:Operand}{m' st' v':Opd}(ho:o.op = .entryStore Ty m st v)
  (hm:RV (own s) w (ρ m') (a.eval m)) (hst:RV (own s) w (ρ st') (a.eval st)) (hv:RV (own s) w (ρ v') (a.eval v)) (h:eff P R (.ens m' st' v') ρ s K):YW P o a s w K:=by
 simp only[eff]at h;obtain⟨d1,d2,d3,h⟩:=h;split at h
 ·rename_i b kk x hb hx;split at h
  ·rename_i kn ae y i hsb;obtain⟨rfl,-,h⟩:=h;have hmv:=al hm d1;rw[hb]at hmv;have hsv:=al hst d2;rw[hx]at hsv;have hvv:=al hv d3;obtain⟨en,cl,e1,e2,e3,e4,e5,e6⟩:=hs _ _ hsb;obtain⟨hi,hy⟩:=e6 _ _ rfl;have hobj:(getObj b).run P w = .ok (.map en cl) w:=run_getObj_map w b en cl e1;have hset:∀ x,(setObj b x).run P w = .ok () (kK w b x):=fun x=>MapKept.run_setObj_map x e1;have hfind:en.findIdx? (fun e=>(e.born:Int)==x)=some i:=by
    rw[Array.findIdx?_eq_some_iff_getElem];have hlt:i < en.size:=by omega
    refine⟨hlt,?_,fun j hj=>?_⟩
    ·rw[hy,Array.getD_eq_getD_getElem?,Array.getElem?_eq_getElem hlt]; simp
    ·intro hc;have h1:((en[j]'(by omega)).born:Int)=x:=by simpa using hc
     rw[hy]at h1;have h2:(en.getD j default).born=(en.getD i default).born:=by
      rw[Array.getD_eq_getD_getElem? (i:=j),Array.getElem?_eq_getElem (by omega)];show(en[j]'(by omega)).born=_;omega
     have:=e5 j i (by omega) hi h2;omega
   have hS:=fK (s:=s) (w:=w) (b:=b) (x:=.imap kn (ae.set i ((ae.getD i default).1,(ρ v').val)) none) (w':=kK w b (.map (en.modify i fun e=>{e with val:=a.eval v }) cl)) hs (bB hsb) rfl rfl rfl (by simp[kK]) (fun c hc=>lD w b c _ hc) (fun hmv=>by
    generalize own (upd s b (.imap kn (ae.set i ((ae.getD i default).1,(ρ v').val)) none))=O at hmv ⊢;refine⟨_,_,rk _ e1,by simp[e2],fun j hj=>?_,fun j hj=>?_,fun j j' hj hj' hjj=>?_,fun y i h=>by cases h⟩
    ·simp only[List.length_set]at hj;have old:=e3 j hj;simp only[List.getD_eq_getElem?_getD,Array.getD_eq_getD_getElem?,List.getElem?_set,Array.getElem?_modify]at old ⊢;by_cases hh:i=j
     ·subst hh;rw[if_pos rfl,if_pos hj,if_pos rfl];rw[Array.getElem?_eq_getElem (by omega)]at old ⊢;rw[List.getElem?_eq_getElem hj]at old ⊢;exact⟨old.1,old.2.1,hvv.mv hmv⟩
     ·rw[if_neg hh,if_neg hh];exact⟨old.1,old.2.1,old.2.2.mv hmv⟩
    ·simp only[List.length_set]at hj;have old:=e4 j hj;simp only[Array.getD_eq_getD_getElem?,Array.getElem?_modify]at old ⊢;by_cases hh:i=j
     ·subst hh;rw[if_pos rfl];rw[Array.getElem?_eq_getElem (by omega)]at old ⊢;exact old
     ·rw[if_neg hh]; exact old
    ·simp only[List.length_set]at hj hj';have hb':∀ j,j < ae.length→((en.modify i fun e=>{e with val:=a.eval v }).getD j default).born=(en.getD j default).born:=fun j hj=>by
      simp only[Array.getD_eq_getD_getElem?,Array.getElem?_modify];by_cases hh:i=j
      ·subst hh;rw[if_pos rfl,Array.getElem?_eq_getElem (by omega)];rfl
      ·rw[if_neg hh]
     rw[hb' j hj,hb' j' hj']at hjj;exact e5 j j' hj hj' hjj)
   refine gP ?_ h hS.1 hS.2;simp only[execOp,ho,iz hmv,aN hsv,Instr.entryStore,Sem.run_bind,hobj,Result.andThen_ok,asInt,asIntOf,Sem.run_pure,hfind,hset]
  ·exact h.elim
 ·exact h.elim
theorem Dd (hs:St s w){ne:Bool}{t t' E:TypeId}{x:Operand}{x':Opd}(ho:o.op = .binOp (if ne then .neq else .eql) t x (.const (.slice none 0 0)) t')(hu:P.underlying t=some (.slice E))
  (hx:RV (own s) w (ρ x') (a.eval x)) (h:eff P R (.isn ne x') ρ s K):YW P o a s w K:=by
 obtain⟨hd,h⟩:=h;have hv:=al hx hd;have fin:∀ (ad:Option Addr) (n c:Nat),a.eval x = .slice ad n c→K (.bool (if ne then !ad.isNone else ad.isNone)) s→YW P o a s w K:=fun ad n c e hk=>by
  refine aL (v:=.bool (if ne then !ad.isNone else ad.isNone)) (w':=w) ?_ hk (.fz _ _ (.bool _)) hs (Mv.refl _ _);have hc:a.eval (.const (.slice none 0 0)) = .slice none 0 0:=rfl;have heq:(Op.equal t (.slice ad n c) (.slice none 0 0)).run P w = .ok ad.isNone w:=by
   have go:∀ d,(Op.equalIn (d+1) t (.slice ad n c) (.slice none 0 0)).run P w = .ok ad.isNone w:=fun d=>by
    unfold Op.equalIn;simp only[Sem.run_bind,run_underlying hu,Result.andThen_ok];cases ad <;> simp[Sem.run_pure]
   exact go 9999
  cases ne
  ·simp only[execOp,ho,e,hc,Bool.false_eq_true,if_false,eqGuard,Sem.run_bind,Sem.run_pure,Result.andThen_ok,binOp,heq,Bool.not_true]
  ·simp only[execOp,ho,e,hc,if_true,eqGuard,Sem.run_bind,Sem.run_pure,Result.andThen_ok,binOp,heq,Bool.not_true,Bool.false_eq_true,if_false]
 generalize (ρ x').val=u at h hv;unfold uE at h;split at h
 ·obtain⟨ad,c,e,hc,hp⟩:=iY hv;rename_i k n get;refine fin ad n c e (h _ fun hn=>?_);rcases Nat.eq_zero_or_pos n with h0 | h0
  ·exact h0
  ·obtain⟨ad',vf,rfl,_⟩:=hp h0; cases hn
 ·obtain⟨ad,e⟩:=cV hv;exact fin ad 0 0 e (h _)
 ·have e:=dy hv;exact fin _ _ _ e h
 ·exact h.elim
end
end Go.Proofs.YtdkaijofmigmbaaGreat.L

set_option linter.unusedVariables false
set_option linter.unusedSimpArgs false
namespace Go.Proofs.YtdkaijofmigmbaaGreat.L
open Go
structure ArR (P:Program) (T n k:Nat):Prop where
 ex:∃ E,P.underlying T=some (.array n E)∧∀ w,(sizeOf E).run P w = .ok k w
section
variable {P:Program} {T:Tbl} {R:Nat→Prop} {o:Oper} {a:Act} {s:Store} {w:World} {ρ:Opd→AV} {K:AV→Prop→Prop}
theorem De (h:nop T R .bad ρ s K):NS P o a s w K:=⟨.undef,False,h,fun hp=>hp.elim⟩
theorem oT {mx:Bool}{k:IntKind}:∀ (l:List AV) (a:Int) {Q:Int→Prop},sY mx k a l Q→∃ n,Q n∧∀ (vs:List Value),nP (own s) w l vs→∀ w',((vs.foldlM (if mx then Builtin.max2 else Builtin.min2) (Value.int k a)).run P w' = .ok (.int k n) w')
 | [],a,Q,h=>⟨a,h,fun vs hv w'=>by
  obtain rfl:vs=[]:=List.eq_nil_of_length_eq_zero hv.1;rfl⟩
 | x::l,a,Q,h=>by
  cases x with
  | int k' b=>
   obtain⟨rfl,h⟩:=h;obtain⟨n,h1,h2⟩:=oT l _ h;refine⟨n,h1,fun vs hv w'=>?_⟩;cases vs with
   | nil=>have:=hv.1; simp at this
   | cons v vs=>
    have hv0:=hv.2 0 (by simp);have e:v = .int k b:=aN hv0;have hvs:nP (own s) w l vs:=⟨by have:=hv.1; simpa using this,fun j hj=>by have:=hv.2 (j+1) (by simpa using hj); simpa [at_,b9]using this⟩
    have:=h2 vs hvs w';subst e;simp only[List.foldlM_cons,Sem.run_bind];cases mx
    ·have e:(if b < a then b else a)=min a b:=by rw[Int.min_def]; split <;> split <;> omega
     simp only[Bool.false_eq_true,if_false,Builtin.min2,Sem.run_pure,Result.andThen_ok,e]at this ⊢;exact this
    ·have e:(if a < b then b else a)=max a b:=by rw[Int.max_def]; split <;> split <;> omega
     simp only[if_true,Builtin.max2,Sem.run_pure,Result.andThen_ok,e]at this ⊢;exact this
  | _=>exact h.elim
theorem Df (hs:St s w)(hρ:∀ x y,OkOpd x y→RV (own s) w (ρ y) (a.eval x)){xs:Array Operand}{ts:Array TypeId}{ys:List Opd}{mx:Bool}(ho:o.op = .call {callee:=.builtin (if mx then .max else .min),args:=xs,argTypes:=ts })(hx:cK xs.toList ys)(h:nop T R (.mnl mx ys) ρ s K):NS P o a s w K:=by
 simp only[nop]at h;split at h
 ·rename_i k b l hl;obtain⟨n,h1,h2⟩:=oT (P:=P) (s:=s) (w:=w) l b h;refine az hs h1 fun hd=>⟨.int k n,?_,.fz _ _ (.int _ _)⟩
  have hv:=cW hρ _ _ hx hd;rw[hl]at hv;obtain⟨vs,hvs⟩:∃ vs,xs.toList.map a.eval=vs:=⟨_,rfl⟩;rw[hvs]at hv;cases vs with
  | nil=>have:=hv.1; simp at this
  | cons v vs=>
   have e:v = .int k b:=aN (hv.2 0 (by simp));subst e;have hr:=h2 vs ⟨by have:=hv.1; simpa using this,fun j hj=>by have:=hv.2 (j+1) (by simpa using hj); simpa [at_,b9]using this⟩ w;have em:xs.map a.eval=(Value.int k b::vs).toArray:=by rw[i6,hvs]
   cases mx
   ·simp only[Bool.false_eq_true,if_false]at ho hr
    simp[execOp,ho,resolve,invoke,builtin,Builtin.min_,em,hr]
   ·simp only[if_true]at ho hr
    simp[execOp,ho,resolve,invoke,builtin,Builtin.max_,em,hr]
 ·exact h.elim
theorem Dg (hs:St s w){ne:Bool}{t t' E:Nat}{x:Operand}{x':Opd}(ho:o.op = .binOp (if ne then .neq else .eql) t x (.const (.pointer none)) t')(hu:P.underlying t=some (.pointer E))(hx:RV (own s) w (ρ x') (a.eval x))(h:nop T R (.pnn ne x') ρ s K):NS P o a s w K:=by
 simp only[nop]at h;have fin:∀ (ad:Option Addr) (b:Bool),b=(if ne then !ad.isNone else ad.isNone)→((ρ x').df→a.eval x = .pointer ad)→K (.bool b) (ρ x').df→NS P o a s w K:=fun ad b hb e hk=>by
  subst hb;refine az hs hk fun hd=>⟨_,?_,.fz _ _ (.bool _)⟩
  have e:=e hd;have hc:a.eval (.const (.pointer none)) = .pointer none:=rfl;have heq:(Op.equal t (.pointer ad) (.pointer none)).run P w = .ok ad.isNone w:=by
   have go:∀ d,(Op.equalIn (d+1) t (.pointer ad) (.pointer none)).run P w = .ok ad.isNone w:=fun d=>by
    unfold Op.equalIn;simp only[Sem.run_bind,run_underlying hu,Result.andThen_ok];cases ad <;> simp[Sem.run_pure]
   exact go 9999
  cases ne
  ·simp only[execOp,ho,e,hc,Bool.false_eq_true,if_false,eqGuard,Sem.run_bind,Sem.run_pure,Result.andThen_ok,binOp,heq,Bool.not_true]
  ·simp only[execOp,ho,e,hc,if_true,eqGuard,Sem.run_bind,Sem.run_pure,Result.andThen_ok,binOp,heq,Bool.not_true,Bool.false_eq_true,if_false]
 split at h
 ·rename_i hb;exact fin none _ (by cases ne <;> rfl) (fun hd=>by have:=al hx hd; rw[hb]at this; exact oN this) h
 ·rename_i b p hb;exact fin (some ⟨b,p,none⟩) _ (by cases ne <;> rfl) (fun hd=>by have:=al hx hd; rw[hb]at this; exact cE this) h
 ·rename_i b k i j hb;exact fin (some ⟨b,i*k+j,none⟩) _ (by cases ne <;> rfl) (fun hd=>by have:=al hx hd; rw[hb]at this; exact cU this) h
 ·rename_i cs hb;by_cases hd:(ρ x').df
  ·have:=al hx hd;rw[hb]at this;obtain⟨ad,vf,h1,_⟩:=iX this;exact fin (some ad) _ (by cases ne <;> rfl) (fun _=>h1) h
  ·exact⟨_,_,h,fun hp=>absurd hp hd⟩
 ·exact h.elim
theorem FB (hs : St s w) {ne : Bool} {t t' : Nat} {x y : Operand} {x' y' : Opd} (ho : o.op = .binOp (if ne then .neq else .eql) t x y t') (hu : P.underlying t = some .bool) (hx : RV (own s) w (ρ x') (a.eval x)) (hy : RV (own s) w (ρ y') (a.eval y)) (h : nop T R (.bq ne x' y') ρ s K) : NS P o a s w K := by
 simp only [nop] at h;split at h
 ·rename_i u v hu' hv';refine az hs h fun hd => ?_;have h1 := al hx hd.1;rw [hu'] at h1;have h2 := al hy hd.2;rw [hv'] at h2;have e1 := dC h1;have e2 := dC h2;have heq : (Op.equal t (.bool u) (.bool v)).run P w = .ok (u == v) w := by
   have go : ∀ d, (Op.equalIn (d + 1) t (.bool u) (.bool v)).run P w = .ok (u == v) w := fun d => by
    unfold Op.equalIn;simp only [Sem.run_bind, run_underlying hu, Result.andThen_ok, Sem.run_pure]
   exact go 9999
  refine ⟨_, ?_, .fz _ _ (.bool _)⟩;cases ne
  ·simp only [execOp, ho, e1, e2, Bool.false_eq_true, if_false, eqGuard, Sem.run_bind, Sem.run_pure, Result.andThen_ok, binOp, heq, Bool.not_true]
  ·simp only [execOp, ho, e1, e2, if_true, eqGuard, Sem.run_bind, Sem.run_pure, Result.andThen_ok, binOp, heq, Bool.not_true, Bool.false_eq_true, if_false, bne]
 ·exact h.elim
theorem Dh (hs:St s w){x:Operand}{ts:Array TypeId}{t0 E:Nat}{y:Opd}(ho:o.op = .call {callee:=.builtin .cap,args:=#[x],argTypes:=ts })(ht:ts[0]?=some t0)(hE:P.underlying t0=some (.slice E))(hx:RV (own s) w (ρ y) (a.eval x))(h:nop T R (.cap y) ρ s K):NS P o a s w K:=by
 simp only[nop]at h;split at h
 ·rename_i hb;refine az hs h fun hd=>?_;have h1:=al hx hd;rw[hb]at h1;obtain⟨ad,e1⟩:=cV h1;exact⟨.int .i64 0,by simp[execOp,ho,e1,resolve,invoke,builtin,Builtin.cap_,ht,run_underlying hE,goInt],.fz _ _ (.int _ _)⟩
 ·exact h.elim
theorem Di (hs:St s w){Ty E n:Nat}{x hi:Operand}{x' hi':Opd}(ho:o.op = .slice Ty x none (some hi) none)(hE:P.underlying Ty=some (.slice E))(hn:∀ w,(sizeOf E).run P w = .ok n w)(hx:RV (own s) w (ρ x') (a.eval x))(hh:RV (own s) w (ρ hi') (a.eval hi))(h:nop T R (.sle x' hi') ρ s K):NS P o a s w K:=by
 simp only[nop]at h;split at h
 ·rename_i kk z hb hz;refine az hs h fun hd=>?_;have h1:=al hx hd.1;rw[hb]at h1;have h2:=al hh hd.2.1;rw[hz,hd.2.2]at h2;obtain⟨ad,e1⟩:=cV h1;have e2:=aN h2;have hb1:(Instr.sliceBounds true 0 0 none (some (.int kk 0)) none).run P w = .ok (0,0,0) w:=by
   simp only[Instr.sliceBounds,Sem.run_bind,Sem.run_pure,Result.andThen_ok];rw[bD (Int.le_refl _) (by omega)];simp only[Result.andThen_ok,Sem.run_pure];rfl
  refine⟨.slice ad 0 0,?_,.fz _ _ (.emp _)⟩;simp only[execOp,ho,e1,e2,Option.map_none,Option.map_some,Instr.sliceAt,Instr.slice,Sem.run_bind,run_underlying hE,Result.andThen_ok,hb1,hn,Sem.run_pure,Nat.sub_zero,Nat.zero_mul];cases ad <;> rfl
 ·exact h.elim
theorem wK (hs:St s w){Ty n k:Nat}{x i:Operand}{y j:Opd}(ho:o.op = .indexAddr Ty x i)(hT:ArR P Ty n k)(hx:RV (own s) w (ρ y) (a.eval x))(hi:RV (own s) w (ρ j) (a.eval i))(h:nop T R (.idxa y j k n) ρ s K):NS P o a s w K:=by
 obtain⟨E,hE,hn⟩:=hT.ex;simp only[nop]at h;split at h
 ·rename_i b k' kk z hb hz;obtain⟨rfl,h⟩:=h;refine az hs h fun hd=>?_;have h1:=al hx hd.1;rw[hb]at h1;have h2:=al hi hd.2.1;rw[hz]at h2;have e1:=cU h1;have e2:=aN h2;refine⟨.pointer (some ⟨b,z.toNat*k'+0,none⟩),?_,.rptr _ _ _ 0⟩;simp only[execOp,ho,e1,e2,Instr.indexAt,asIntOf,Instr.sureAddr,Sem.run_bind,Sem.run_pure,Result.andThen_ok,run_underlying hE];simp only[Sem.run_ite,if_pos (show 0≤z∧z < (n:Int)from⟨hd.2.2.1,hd.2.2.2⟩),Sem.run_bind,hn,Result.andThen_ok,Sem.run_pure];rw[ce]
  simp
 ·exact h.elim
theorem Dj (hs:St s w){Ty n k:Nat}{x:Operand}{y:Opd}(ho:o.op = .slice Ty x none none none)(hT:ArR P Ty n k)(hx:RV (own s) w (ρ y) (a.eval x))(h:nop T R (.sla y k n) ρ s K):NS P o a s w K:=by
 obtain⟨E,hE,hn⟩:=hT.ex;simp only[nop]at h;split at h
 ·rename_i b k' hb;obtain⟨rfl,h⟩:=h;refine az hs h fun hd=>?_;have h1:=al hx hd;rw[hb]at h1;have e1:=cU h1;refine⟨.slice (some ⟨b,0*k',none⟩) n n,?_,.slo _ _ _ _ _ _ (Nat.le_refl _) fun _=>rfl⟩;have e0:(⟨b,0*k'+0,none⟩:Addr)=⟨b,0*k',none⟩:=by simp
  rw[e0]at e1;simp only[execOp,ho,e1,Option.map_none,Instr.sliceAt,Instr.sureAddr,Instr.sliceBounds,Sem.run_bind,run_underlying hE,Result.andThen_ok,hn,Sem.run_pure,Nat.sub_zero];by_cases h0:n=0
  ·rw[if_pos h0]
  ·rw[if_neg h0,Nat.zero_mul,ce]
 ·exact h.elim
theorem Dk (hs:St s w)(hρ:∀ x y,OkOpd x y→RV (own s) w (ρ y) (a.eval x)){Ty n:Nat}{x:Operand}{y:Opd}{lo hi:Option Operand}{lo' hi':Option Opd}(ho:o.op = .slice Ty x lo hi none)(hT:zu P Ty n)
  (hx:OkOpd x y) (hlo:bN lo lo') (hhi:bN hi hi') (h:nop T R (.slo y lo' hi' n) ρ s K):NS P o a s w K:=by
 obtain⟨E,hE,hn⟩:=hT;have main:∀ (b p m:Nat),((ρ y).df→∃ ad c,a.eval x = .slice (some ad) m c∧m≤c∧(0 < m→ad=⟨b,p*n,none⟩)) →
   (lo_ ρ 0 lo' fun l p'=>lo_ ρ m hi' fun h q=>K (.slo b n (p+l.toNat) (h-l).toNat) ((ρ y).df∧p'∧q∧0≤l∧l≤h∧h≤m))→NS P o a s w K:=by
  intro b p m hval h0
  clear h
  obtain⟨l,p',h0,e1⟩:=gS h0;obtain⟨hh,q,h0,e2⟩:=gS h0;refine az hs h0 fun hd=>?_;obtain⟨d1,d2,d3,d4,d5,d6⟩:=hd;obtain⟨ad,c,f1,hc,f2⟩:=hval d1;have run:=dL (P:=P) (sl:=true) (n:=m) (c:=c) hρ hlo hhi e1 e2 d2 d3 d4 d5 d6 hc;have ex:(execOp a.eval o).run P w = .ok (.value (.slice (if c=l.toNat then some ad else(some ad).map (·.add (l.toNat*n))) (hh.toNat-l.toNat) (c-l.toNat))) w:=by
   simp only[execOp,ho,f1,Option.map_none,Instr.sliceAt,Instr.slice,Sem.run_bind,run_underlying hE,Result.andThen_ok,run,hn,Sem.run_pure]
  have hs1:(hh-l).toNat=hh.toNat-l.toNat:=by omega
  rw[hs1];by_cases hcl:c=l.toNat
  ·rw[if_pos hcl]at ex;exact⟨_,ex,.slo _ _ _ _ _ _ (by omega) fun hpos=>by omega⟩
  ·rw[if_neg hcl]at ex;refine⟨_,ex,.slo _ _ _ _ _ _ (by omega) fun hpos=>?_⟩;show ad.add (l.toNat*n)=_;rw[f2 (by omega),ce,Nat.add_mul]
 simp only[nop]at h;split at h
 ·rename_i b m c hb;refine main b 0 m (fun d1=>?_) (by simpa using h);have hv:=al (hρ _ _ hx) d1;rw[hb]at hv;exact⟨_,c,dy hv,qk hv,fun _=>by simp⟩
 ·rename_i b k' p m hb;obtain⟨rfl,h⟩:=h;refine main b p m (fun d1=>?_) h;have hv:=al (hρ _ _ hx) d1;rw[hb]at hv;exact fG hv
 ·exact h.elim
end
section
variable {P:Program} {R:Nat→Prop} {o:Oper} {a:Act} {s:Store} {w:World} {ρ:Opd→AV} {K:AV→Store→Prop}
structure ArZ (P:Program) (T n k:Nat) (z:List AV):Prop where
 le:n≤9223372036854775807
 zero:∃ zv,(∀ w,(zeroValue T).run P w = .ok zv w)∧zv.cells.size=n*k∧z.length=k∧∀ i j,i < n→j < k→(∀ o w,RV o w (at_ z j) (zv.cells.getD (i*k+j) Go.undef))∧(zv.cells.getD (i*k+j) Go.undef).oneCell'=true
theorem wL (hs:St s w)(hR:∀ b,R b→b < w.heap.size){Ty n k:Nat}{z:List AV}(ho:o.op = .alloc Ty)(hz:ArZ P Ty n k z)(h:eff P R (.alcr Ty k n z) ρ s K):YW P o a s w K:=by
 obtain⟨zv,z1,z2,z3,z4⟩:=hz.zero;simp only[eff]at h;have hget:∀ i,i < n→(List.replicate n z).getD i []=z:=fun i hi=>by simp[List.getD_eq_getElem?_getD,hi]
 obtain⟨g1,g2⟩:=kV (T:=Ty) (k:=k) (n:=n) (xs:=List.replicate n z) (cs:=zv.cells) hs z2 (by simp) hz.le (fun i hi=>by
   have hi':i < n:=by simpa using hi
   rw[hget i hi']; exact z3) (fun i j hi hj=>by
   have hi':i < n:=by simpa using hi
   rw[hget i hi'];exact⟨(z4 i j hi' hj).1 _ _,(z4 i j hi' hj).2⟩)
 refine aL (v:=.pointer (some ⟨w.heap.size,0*k+0,none⟩)) (w':=w.alloc (.cells zv.cells Ty)) ?_ (h w.heap.size hs.fresh (fun h=>absurd (hR _ h) (Nat.lt_irrefl _))) (.rptr _ _ _ _) g1 g2;simp only[execOp,ho,Instr.alloc,Sem.run_bind,z1,Result.andThen_ok,newVar,newRow,run_newObj,Sem.run_pure,Nat.zero_mul,Nat.zero_add];rfl
theorem ij (k n:Nat)(cs:List AV):(gn k n cs).length=n:=by simp[gn]
theorem iD (k:Nat){n i:Nat}(cs:List AV)(h:i < n):(gn k n cs).getD i []=(cs.drop (i*k)).take k:=by
 simp[gn,List.getD_eq_getElem?_getD,h]
theorem jD {vs:List Value}(hcs:∀ u∈vs,u.oneCell'=true){b q:Nat}{cur:Array Value}{t:TypeId}(hb:w.heap[b]?=some (.cells cur t (0,0)))(hq:q+vs.length≤cur.size):
  (storeCells ⟨b,q,none⟩ vs).run P w = .ok () (w.setRow b (cur.toList.take q++vs++cur.toList.drop (q+vs.length)).toArray):=by
 have:=run_storeCells_at P b q t vs 0 cur w hb (by omega) hcs
 simpa only[Nat.add_zero]using this
theorem gp (hs:St s w){b T k c:Nat}{xs ys:List (List AV)}(hsb:s b=some (.row T k c xs)){cur:Array Value}(hc:w.heap[b]?=some (.cells cur T (0,0))){p m:Nat}(hpm:p+m≤xs.length)(hy:ys.length=m){vs:List Value}(hv:vs.length=m*k)
  (hk:∀ i,i < m→(ys.getD i []).length=k) (hcell:∀ i j,i < m→j < k→RV (own s) w (at_ (ys.getD i []) j) (b9 vs (i*k+j))∧(b9 vs (i*k+j)).oneCell'=true) :
  let w':=w.setRow b (cur.toList.take (p*k)++vs++cur.toList.drop (p*k+vs.length)).toArray
  let zs:=xs.take p++(ys++xs.drop (p+m))
  St (upd s b (.row T k c zs)) w'∧Mv (own s) (own (upd s b (.row T k c zs))) w w':=by
 intro w' zs;obtain⟨cur',e1,e2,e3,e3',e4,e5⟩:=hs _ _ hsb;rw[hc]at e1;cases e1;have hbound:p*k+m*k≤cur.size:=by
  rw[e2,← Nat.add_mul]; exact Nat.mul_le_mul_right k (by omega)
 have hzl:zs.length=xs.length:=by simp only[zs,List.length_append,List.length_take,List.length_drop,hy]; omega
 have hzget:∀ i,i < xs.length→zs.getD i []=if p≤i∧i < p+m then ys.getD (i-p) []else xs.getD i []:=fun i hi=>by
  simp only[zs];rw[fi];have hl:(xs.take p).length=p:=by simp; omega
  rw[hl];by_cases h1:i < p
  ·rw[if_pos h1,if_neg (by omega)]
   simp[List.getD_eq_getElem?_getD,List.getElem?_take,h1]
  ·rw[if_neg h1,fi,hy];by_cases h2:i < p+m
   ·rw[if_pos (by omega),if_pos ⟨by omega,h2⟩]
   ·rw[if_neg (by omega),if_neg (by omega)];simp only[List.getD_eq_getElem?_getD,List.getElem?_drop];congr 2;omega
 refine fK (x:=.row T k c zs) (w':=w') hs (bB hsb) rfl rfl rfl (by simp[w']) (fun c' hc'=>setRow_other w b c' _ hc') (fun hm=>?_);refine⟨_,setRow_heap w b cur _ T _ hc,?_,by rw[hzl]; exact e3,e3',fun i hi=>?_,fun i j hi hj=>?_⟩
 ·rw[← e2];simp only[List.size_toArray,List.length_append,List.length_take,List.length_drop,Array.length_toList,hv];omega
 ·rw[hzl]at hi;rw[hzget i hi];split
  ·exact hk _ (by omega)
  ·exact e4 i hi
 ·rw[hzl]at hi;rw[hzget i hi,jb _ _ _ _ (by rw[hv,Array.length_toList]; exact hbound),hv];by_cases h1:p≤i∧i < p+m
  ·have h2:i*k+j=p*k+((i-p)*k+j):=by
    have:i*k=p*k+(i-p)*k:=by rw[← Nat.add_mul]; congr 1; omega
    omega
   have h3:(i-p)*k+j < m*k:=by
    have:(i-p+1)*k≤m*k:=Nat.mul_le_mul_right k (by omega);rw[Nat.add_mul]at this;omega
   rw[if_pos h1,if_pos (by omega),h2,Nat.add_sub_cancel_left];have:=hcell (i-p) j (by omega) hj;exact⟨this.1.mv hm,this.2⟩
  ·rw[if_neg h1,if_neg ?_]
   ·have:=e5 i j hi hj;exact⟨by simpa using this.1.mv hm,by simpa using this.2⟩
   ·intro hcc;rcases Nat.lt_or_ge i p with hlt | hge
    ·have:(i+1)*k≤p*k:=Nat.mul_le_mul_right k hlt;rw[Nat.add_mul]at this;omega
    ·have:(p+m)*k≤i*k:=Nat.mul_le_mul_right k (by omega);rw[Nat.add_mul]at this;omega
theorem Dl (hs:St s w){Ty n:Nat}{p v:Operand}{p' v':Opd}(ho:o.op = .store Ty p v)(hT:∀ w,(sizeOf Ty).run P w = .ok n w)(hp:RV (own s) w (ρ p') (a.eval p))(hv:RV (own s) w (ρ v') (a.eval v))(h:eff P R (.stl p' v' n) ρ s K):YW P o a s w K:=by
 refine uL (R:=fun _=>False) hs ho hT hp hv ?_;simp only[eff]at h ⊢;obtain⟨h1,h2,h3,h4,h⟩:=h;refine⟨h1,h2,h3,h4,?_⟩;split
 ·split
  ·simp only[*]at h; exact⟨fun h=>h,h.1,h.2⟩
  ·simp only[*]at h
 ·split
  ·simp only[*]at h; exact⟨h.1,fun h=>h,h.2.1,h.2.2.1,h.2.2.2⟩
  ·simp only[*]at h
 ·simp only[*]at h
theorem wM (hs:St s w){Ty n k:Nat}{p v:Operand}{p' v':Opd}(ho:o.op = .store Ty p v)(hT:∀ w,(sizeOf Ty).run P w = .ok (n*k) w)(hp:RV (own s) w (ρ p') (a.eval p))(hv:RV (own s) w (ρ v') (a.eval v))(h:eff P R (.stoa p' v' k n) ρ s K):YW P o a s w K:=by
 simp only[eff]at h;obtain⟨hd1,hd2,h⟩:=h;split at h
 ·rename_i b k' cs hb hcs;split at h
  ·rename_i T k'' c xs hsb;obtain⟨rfl,rfl,hn,hcl,hone,-,h⟩:=h;have hvv:=al hv hd2;obtain⟨c1,c2,c3⟩:=ff hvv (by rw[hcs]; exact hone);rw[hcs]at c1 c2;simp only[cellsOf]at c1 c2;have hpv:=al hp hd1;rw[hb]at hpv;have ep:=cU hpv;obtain⟨cur,e1,e2,e3,_⟩:=hs _ _ hsb;have hlen:(a.eval v).cells.toList.length=n*k'':=by rw[Array.length_toList,c1,hcl]
   have hle:0+n*k''≤cur.size:=by rw[e2,Nat.zero_add]; exact Nat.mul_le_mul_right _ (by omega)
   have hrun:=jD (P:=P) (w:=w) (vs:=(a.eval v).cells.toList) c3 (q:=0) e1 (by rw[hlen]; exact hle);have ex:(execOp a.eval o).run P w = .ok .skip (w.setRow b (cur.toList.take 0++(a.eval v).cells.toList++cur.toList.drop (0+(a.eval v).cells.toList.length)).toArray):=by
    have ep':a.eval p = .pointer (some ⟨b,0,none⟩):=by simpa using ep
    simp only[execOp,ho,ep',Instr.storeAt,Instr.sureAddr,storeVar,Sem.run_bind,Sem.run_pure,Result.andThen_ok,hT];rw[if_neg (by rw[c1,hcl]; simp),hrun];rfl
   have hS:=gp (p:=0) (m:=n) hs hsb (cur:=cur) (ys:=gn k'' n cs) (vs:=(a.eval v).cells.toList) e1 (by omega) (ij _ _ _) hlen (fun i hi=>by
     rw[iD _ _ hi];have:(i+1)*k''≤n*k'':=Nat.mul_le_mul_right _ hi;rw[Nat.add_mul]at this
     simp; omega) (fun i j hi hj=>by
     have:(i+1)*k''≤n*k'':=Nat.mul_le_mul_right _ hi;rw[Nat.add_mul]at this;rw[iD _ _ hi,iZ _ _ _ hj,gQ];have hlt:i*k''+j < (a.eval v).cells.toList.length:=by omega
     refine⟨?_,c3 _ (by rw[b9,List.getD_eq_getElem?_getD,List.getElem?_eq_getElem hlt]; exact List.getElem_mem hlt)⟩;have:=c2 (i*k''+j) (by omega)
     simpa [b9,Array.getD_eq_getD_getElem?,List.getD_eq_getElem?_getD]using this)
   simp only[Nat.zero_mul,List.take_zero,List.nil_append,Nat.zero_add]at hS ex;have hz:gn k'' n cs++xs.drop n=gn k'' n cs:=by rw[← hn,List.drop_length,List.append_nil]
   rw[hz]at hS;exact gP ex h hS.1 hS.2
  ·exact h.elim
 ·exact h.elim
theorem Dm (hs:St s w){Ty E n:Nat}{x hi:Operand}{x' hi':Opd}(ho:o.op = .slice Ty x none (some hi) none)(hE:P.underlying Ty=some (.slice E))(hn:∀ w,(sizeOf E).run P w = .ok n w)(hx:RV (own s) w (ρ x') (a.eval x))(hh:RV (own s) w (ρ hi') (a.eval hi))
  (h:eff P R (.trn x' hi') ρ s K):YW P o a s w K:=by
 simp only[eff]at h;obtain⟨hd1,hd2,h⟩:=h;split at h
 ·rename_i b m c kk z hb hz;split at h
  ·rename_i T k' c' xs hsb;obtain⟨rfl,rfl,hRb,h0,h1,h⟩:=h;have hxv:=al hx hd1;rw[hb]at hxv;have hhv:=al hh hd2;rw[hz]at hhv;have e1:=dy hxv;have e2:=aN hhv;have hle:=qk hxv;have hk:=h b (by simp[del]) hRb;rw[cX]at hk;have hS:St (upd s b (.row T k' c' (xs.take z.toNat))) w∧Mv (own s) (own (upd s b (.row T k' c' (xs.take z.toNat)))) w w:=by
    obtain⟨vs,f1,f2,f3,f3',f4,f5⟩:=hs _ _ hsb;refine fK (x:=.row T k' c' (xs.take z.toNat)) hs (bB hsb) rfl rfl rfl rfl (fun _ _=>rfl) fun hm=>⟨vs,f1,f2,by simp; omega,f3',fun i hi=>?_,fun i j hi hj=>?_⟩
    ·simp only[List.length_take]at hi;have:(xs.take z.toNat).getD i []=xs.getD i []:=by simp only[List.getD_eq_getElem?_getD,List.getElem?_take]; rw[if_pos (by omega)]
     rw[this]; exact f4 i (by omega)
    ·simp only[List.length_take]at hi;have:(xs.take z.toNat).getD i []=xs.getD i []:=by simp only[List.getD_eq_getElem?_getD,List.getElem?_take]; rw[if_pos (by omega)]
     rw[this];have:=f5 i j (by omega) hj;exact⟨this.1.mv hm,this.2⟩
   refine aL (v:=.slice (some ⟨b,0,none⟩) z.toNat c') (w':=w) ?_ hk (.slc _ _ _ (by omega)) hS.1 hS.2;have hb1:(Instr.sliceBounds true xs.length c' none (some (.int kk z)) none).run P w = .ok (0,z.toNat,c') w:=by
    simp only[Instr.sliceBounds,Sem.run_bind,Sem.run_pure,Result.andThen_ok];rw[bD h0 (by omega)];simp only[Result.andThen_ok,Sem.run_pure]
   simp only[execOp,ho,e1,e2,Option.map_none,Option.map_some,Instr.sliceAt,Instr.slice,Sem.run_bind,run_underlying hE,Result.andThen_ok,hb1,hn,Sem.run_pure,Nat.sub_zero,Nat.zero_mul];by_cases hc0:c'=0
   ·rw[if_pos hc0]
   ·rw[if_neg hc0,ce]
  ·exact h.elim
 ·exact h.elim
theorem nX {zv:Array Value}{k n i j:Nat}(hz:zv.size=k)(hi:i < n)(hj:j < k):b9 (Builtin.zeroCells zv n).toList (i*k+j)=zv.getD j Go.undef:=by
 have hlt:i*k+j < n*k:=by
  have:(i+1)*k≤n*k:=Nat.mul_le_mul_right k hi;rw[Nat.add_mul,Nat.one_mul]at this;omega
 have hmod:(i*k+j) % zv.size=j:=by rw[hz,Nat.add_comm,Nat.add_mul_mod_self_right,Nat.mod_eq_of_lt hj]
 have hlt':i*k+j < n*zv.size:=by rw[hz]; exact hlt
 simp[b9,Builtin.zeroCells,List.getD_eq_getElem?_getD,hlt',hmod,Array.getD_eq_getD_getElem?,show j < zv.size by omega]
theorem jE (w:World)(t u ty e:TypeId)(ik:IntKind)(i:TypeInfo)(z:Value)(ht:P.underlying t=some (.slice e))(hu:P.underlying u=some (.int ik))(hi:P.info? e=some i)(hz:i.zero=some z)(ax:Option Addr)(kk:IntKind)(n:Nat)
  (h0:0 < n) (hsz:0 < i.size) (h63:(n:Int)≤9223372036854775807) (h48:n*i.bytes≤281474976710656) :
  (Builtin.append_ #[t,u] ty #[.slice ax 0 0,.int kk n]).run P w =
   .ok (.slice (some ⟨w.heap.size,0,none⟩) n (grownCap w n 0 e)) (w.drew.alloc (.cells (Builtin.zeroCells z.cells n++Builtin.zeroCells z.cells (grownCap w n 0 e-n)) e)):=by
 have hn:n≠0:=by omega
 have hs0:i.size≠0:=by omega
 have h63':¬ (9223372036854775807 < (n:Int)):=by omega
 have hw:IntKind.i64.wrap (n:Int)=(n:Int):=by
  have e1:(2:Int)^64=18446744073709551616:=by decide
  have e2:(2:Int)^(64-1)=9223372036854775808:=by decide
  simp only[IntKind.wrap,IntKind.bits,IntKind.signed,Bool.true_and,e1,e2,decide_eq_true_eq];split <;> omega
 have h48i:¬ (281474976710656 < (n:Int)*(i.bytes:Int)):=by
  have h:=Int.ofNat_le.2 h48;rw[Int.natCast_mul]at h; omega
 have h48':¬ (281474976710656 < Builtin.nextslicecap n 0*i.bytes):=by rw[nextslicecap_zero h0]; omega
 have hneg:¬ ((n:Int) < 0):=by omega
 have hf:∀ w,(Builtin.firstCells i.size 0 (.slice ax 0 0)).run P w = .ok #[] w:=fun w=>by
  cases ax <;> simp[Builtin.firstCells,loadCells,loadCellsFrom]
 simp[Builtin.append_,run_underlying ht,run_underlying hu,sizeOf,typeInfo,zeroValue,hi,hz,asInt,asIntOf,hw,hneg,h48i,hn,hs0,h63',h48',Question.forced,hf,newRow,grownCap]
 intro h;rcases Nat.mul_eq_zero.1 h with h | h <;> omega
theorem Dn (hs:St s w)(hR:∀ b,R b→b < w.heap.size){Ty U E k by_:Nat}{z:List AV}{i:TypeInfo}{zv:Value}{ik:IntKind}{x n:Operand}{x' n':Opd}(ho:o.op = .call {callee:=.builtin .append,args:=#[x,n],argTypes:=#[Ty,U] })(hE:ElR P Ty E k by_ z i zv)(hz:z.length=k)(hu:P.underlying U=some (.int ik))
  (hx:RV (own s) w (ρ x') (a.eval x)) (hn:RV (own s) w (ρ n') (a.eval n)) (h:eff P R (.apz E k by_ z x' n') ρ s K):YW P o a s w K:=by
 simp only[eff]at h;obtain⟨hd1,hd2,h⟩:=h;split at h
 ·rename_i kk m hb hm;obtain⟨h0,hby,h⟩:=h;have hxv:=al hx hd1;rw[hb]at hxv;have hnv:=al hn hd2;rw[hm]at hnv;obtain⟨ax,ex⟩:=cV hxv;have en:=aN hnv;have hZ:=hE.zr hz (own s) w;obtain⟨m,rfl⟩:∃ q:Nat,m=(q:Int):=⟨m.toNat,by omega⟩;have exec:∀ r w',(Builtin.append_ #[Ty,U] o.type #[a.eval x,a.eval n]).run P w = .ok r w'→(execOp a.eval o).run P w = .ok (.value r) w':=fun r w' hr=>by
   obtain⟨cs,e1⟩:∃ cs,(resolve a.eval {callee:=.builtin .append,args:=#[x,n],argTypes:=#[Ty,U] } o.type).run P w = .ok {target:=.builtin .append #[Ty,U] o.type cs,args:=#[a.eval x,a.eval n] } w:=by
    have ea:Array.map a.eval #[x,n]=#[a.eval x,a.eval n]:=by simp
    have e0:(resolve a.eval {callee:=.builtin .append,args:=#[x,n],argTypes:=#[Ty,U] } o.type).run P w = .ok {target:=.builtin .append #[Ty,U] o.type (#[x,n].map fun z=>match z with | .const _=>true | _=>false),args:=#[x,n].map a.eval } w:=rfl;rw[ea]at e0;exact⟨_,e0⟩
   simp only[execOp,ho,Sem.run_bind,e1,Result.andThen_ok,invoke,builtin,hr,Sem.run_pure]
  have hkp:=hE.pos;have hbp:=hE.bpos;have hby':by_*m≤140737488355328:=by
   have:((by_*m:Nat):Int)≤140737488355328:=by rw[Int.natCast_mul]; exact hby
   omega
  have hle:m≤140737488355328:=by
   have:1*m≤by_*m:=Nat.mul_le_mul_right _ hbp;omega
  have hm0:0 < m:=by omega
  have hcap:=grownCap_ge w m 0 E;have hcap2:=grownCap_le_maxLen w m 0 E (by simp only[maxLen]; omega);have hrun:(Builtin.append_ #[Ty,U] o.type #[a.eval x,a.eval n]).run P w = .ok (.slice (some ⟨w.heap.size,0,none⟩) m (grownCap w m 0 E)) (w.drew.alloc (.cells (Builtin.zeroCells zv.cells m++Builtin.zeroCells zv.cells (grownCap w m 0 E-m)) E)):=by
   rw[ex,en];exact jE w Ty U o.type E ik i zv hE.und hu hE.info hE.zero ax kk m hm0 (by rw[hE.sz]; exact hkp) (by omega) (by rw[hE.bys,Nat.mul_comm]; omega)
  have hS:=nW (s:=s) (w:=w) (b:=w.heap.size) (x:=.row E k (grownCap w m 0 E) (List.replicate m z)) (w':=w.drew.alloc (.cells (Builtin.zeroCells zv.cells m++Builtin.zeroCells zv.cells (grownCap w m 0 E-m)) E)) hs rfl rfl rfl (by simp) (fun c hc=>RowKit.Below.heap_alloc w.drew _ c hc) (fun hm'=>by
   have:=jC (s:=s) (w:=w) (T:=E) (k:=k) (c':=grownCap w m 0 E) (n:=0) (xs:=[]) (ys:=List.replicate m z) (olds:=[]) (news:=(Builtin.zeroCells zv.cells m).toList) (rest:=(Builtin.zeroCells zv.cells (grownCap w m 0 E-m)).toList) hm' (by
     have e:=heap_alloc_new w.drew (.cells (Builtin.zeroCells zv.cells m++Builtin.zeroCells zv.cells (grownCap w m 0 E-m)) E);rw[show w.drew.heap.size=w.heap.size from rfl]at e;rw[e]; simp) (by simp[size_zeroCells,hE.zs,← Nat.add_mul]; congr 1; omega) (by simpa using hcap) (by simpa [maxLen]using hcap2) (by simp) (by simp[size_zeroCells,hE.zs]) (fun i hi=>by simp at hi) (fun i hi=>by
      have hi':i < m:=by simpa using hi
      simp[List.getD_eq_getElem?_getD,hi',hz]) (fun i j hi=>by simp at hi) (fun i j hi hj=>by
      have hi':i < m:=by simpa using hi
      rw[nX hE.zs hi' hj];refine⟨?_,?_⟩
      ·have:=hZ.2 j (by omega)
       simpa [List.getD_eq_getElem?_getD,hi']using this
      ·refine hE.one _ ?_;have:=hE.zs
       simp[Array.getD_eq_getD_getElem?,show j < zv.cells.size by omega])
   simpa using this)
  rw[cX]at hS;exact aL (exec _ _ hrun) (h w.heap.size _ hs.fresh (fun h=>absurd (hR _ h) (Nat.lt_irrefl _)) hcap) (.slc _ _ _ hcap) hS.1 hS.2
 ·exact h.elim
theorem Do (hs:St s w){x:Operand}{ts:Array TypeId}{t0 E k by_:Nat}{z:List AV}{i:TypeInfo}{zv:Value}{x':Opd}(ho:o.op = .call {callee:=.builtin .clear,args:=#[x],argTypes:=ts })(ht:ts[0]?=some t0)(hE:ElR P t0 E k by_ z i zv)
  (hx:RV (own s) w (ρ x') (a.eval x)) (h:eff P R (.clr x' k z) ρ s K):YW P o a s w K:=by
 simp only[eff]at h;obtain⟨hd1,h⟩:=h;split at h
 ·rename_i b k' p n hb;split at h
  ·rename_i T k'' c xs hsb;obtain⟨rfl,rfl,hzl,hle,-,h⟩:=h;have hxv:=al hx hd1;rw[hb]at hxv;obtain⟨ad,cc,e1,e2,e3⟩:=fG hxv;obtain⟨cur,f1,f2,f3,_⟩:=hs _ _ hsb;have hZ:=hE.zr hzl (own s) w;by_cases h0:n=0
   ·subst h0;have hsame:upd s b (.row T k'' c (qj xs p 0 z))=s:=by
     funext q
     by_cases hq:q=b
     ·subst hq;rw[upd_same,hsb,qj]
      simp
     ·rw[ay _ _ hq]
    rw[hsame]at h;intro ro next Q hn
    have ex:(execOp a.eval o).run P w = .ok (.value (.tuple #[])) w:=by
     simp[execOp,ho,e1,resolve,invoke,builtin,Builtin.clear_,ht,run_underlying hE.und]
    exact gM ex (hn _ .undef s w h (.undef _) hs (Mv.refl _ _))
   ·have ead:=e3 (by omega);subst ead;have hzs:(Builtin.zeroCells zv.cells n).toList.length=n*k'':=by simp[size_zeroCells,hE.zs]
    have hat:∀ i j,i < n→j < k''→b9 (Builtin.zeroCells zv.cells n).toList (i*k''+j)=zv.cells.getD j Go.undef:=fun i j hi hj=>by
     have hlt:i*k''+j < n*k'':=by
      have:(i+1)*k''≤n*k'':=Nat.mul_le_mul_right k'' hi;rw[Nat.add_mul,Nat.one_mul]at this;omega
     have hmod:(i*k''+j) % zv.cells.size=j:=by rw[hE.zs,Nat.add_comm,Nat.add_mul_mod_self_right,Nat.mod_eq_of_lt hj]
     have hsz:=hE.zs;have hjz:j < zv.cells.size:=by omega
     have hlt':i*k''+j < n*zv.cells.size:=by rw[hsz]; exact hlt
     simp only[b9,Builtin.zeroCells,List.getD_eq_getElem?_getD,Array.toList_map,List.getElem?_map,Array.toList_range,List.getElem?_range hlt',Option.map_some,Option.getD_some,hmod,Array.getD_eq_getD_getElem?,Array.getElem?_eq_getElem hjz]
     simp[hjz]
    have hone:∀ u∈(Builtin.zeroCells zv.cells n).toList,u.oneCell'=true:=fun u hu=>by
     simp only[Builtin.zeroCells,Array.toList_map,List.mem_map,Array.toList_range,List.mem_range]at hu;obtain⟨q,hq,rfl⟩:=hu;refine hE.one _ ?_;have:q % zv.cells.size < zv.cells.size:=Nat.mod_lt _ (by rw[hE.zs]; exact hE.pos)
     simp[this]
    have hbound:p*k''+n*k''≤cur.size:=by rw[f2,← Nat.add_mul]; exact Nat.mul_le_mul_right _ (by omega)
    have hrun:=jD (P:=P) (w:=w) hone (q:=p*k'') f1 (by rw[hzs]; exact hbound);have hS:=gp (p:=p) (m:=n) hs hsb (cur:=cur) (ys:=List.replicate n z) (vs:=(Builtin.zeroCells zv.cells n).toList) f1 hle (by simp) hzs (fun i hi=>by
      simp[List.getD_eq_getElem?_getD,hi,hzl]) (fun i j hi hj=>by
      rw[hat i j hi hj];refine⟨?_,hE.one _ (by have:=hE.zs; simp[Array.getD_eq_getD_getElem?,show j < zv.cells.size by omega])⟩;have:=hZ.2 j (by omega)
      simpa [List.getD_eq_getElem?_getD,hi]using this)
    intro ro next Q hn
    have hzr:(zeroValue E).run P w = .ok zv w:=by simp[zeroValue,typeInfo,hE.info,hE.zero]
    obtain⟨n',rfl⟩:∃ n',n=n'+1:=⟨n-1,by omega⟩;have ex:(execOp a.eval o).run P w = .ok (.value (.tuple #[])) (w.setRow b (cur.toList.take (p*k'')++(Builtin.zeroCells zv.cells (n'+1)).toList++cur.toList.drop (p*k''+(Builtin.zeroCells zv.cells (n'+1)).toList.length)).toArray):=by
     simp only[execOp,ho,resolve,invoke,builtin,Builtin.clear_,List.map_toArray,List.map_cons,List.map_nil,e1,ht,List.getElem?_toArray,List.getElem?_cons_zero,Sem.run_bind,run_underlying hE.und,Result.andThen_ok,hzr,hrun,Sem.run_pure]
    exact gM ex (hn _ .undef _ _ h (.undef _) hS.1 hS.2)
  ·exact h.elim
 ·exact h.elim
theorem Dp (hs:St s w){x y:Operand}{ts:Array TypeId}{t0 E k by_:Nat}{z:List AV}{i:TypeInfo}{zv:Value}{x' y':Opd}(ho:o.op = .call {callee:=.builtin .copy,args:=#[x,y],argTypes:=ts })(ht:ts[0]?=some t0)(hE:ElR P t0 E k by_ z i zv)
  (hx:RV (own s) w (ρ x') (a.eval x)) (hy:RV (own s) w (ρ y') (a.eval y)) (h:eff P R (.cpy x' y' k) ρ s K):YW P o a s w K:=by
 simp only[eff]at h;obtain⟨hd1,hd2,h⟩:=h;have hxv:=al hx hd1;have hyv:=al hy hd2;obtain⟨ys,h,ad,cy,ey,hyl,hyc⟩:=lC hs hyv h;have hszr:∀ w,(sizeOf E).run P w = .ok k w:=fun w=>by simp[sizeOf,typeInfo,hE.info,hE.sz]
 have main:∀ (b p n c:Nat) (ax:Addr) (T k'' cc:Nat) (xs:List (List AV)),a.eval x = .slice (some ax) n c→(0 < n→ax=⟨b,p*k,none⟩)→s b=some (.row T k'' cc xs)→k''=k→p+n≤xs.length →
   K (.int .i64 (min ys.length n:Nat)) (upd s b (.row T k cc (nR xs p (ys.take (min ys.length n)))))→YW P o a s w K:=by
  intro b p n c ax T k'' cc xs ex hax hsb hk hle hK;subst hk;obtain⟨cur,f1,f2,f3,_⟩:=hs _ _ hsb;by_cases h0:min ys.length n=0
  ·have hsame:upd s b (.row T k'' cc (nR xs p (ys.take (min ys.length n))))=s:=by
    funext q
    by_cases hq:q=b
    ·subst hq;rw[upd_same,hsb,h0]
     simp[nR]
    ·rw[ay _ _ hq]
   rw[hsame,h0]at hK;refine aL (v:=.int .i64 ((0:Nat):Int)) (w':=w) ?_ hK (.fz _ _ (.int _ _)) hs (Mv.refl _ _);have h0':Nat.min ys.length n=0:=h0;simp only[execOp,ho,resolve,invoke,builtin,Builtin.copy_,List.map_toArray,List.map_cons,List.map_nil,ex,ey,ht,List.getElem?_toArray,List.getElem?_cons_zero,List.getElem?_cons_succ,Sem.run_bind,run_underlying hE.und,Result.andThen_ok,Sem.run_pure,Builtin.lenOf,hszr,h0'];cases ad <;> simp[Builtin.firstCells,loadCells,loadCellsFrom,storeCells,goInt]
  ·obtain⟨ab,f,rfl,g1,g2⟩:=hyc (by omega);have ead:=hax (by omega);subst ead;generalize hm:min ys.length n=m at hK h0;have hml:m≤ys.length:=by omega
   have hmn:m≤n:=by omega
   have hfl:(dp f m k'').length=m*k'':=aP _ _ _;have hcells:∀ j v,(dp f m k'')[j]?=some v→w.cell? (ab.add j)=some v:=fun j v hj=>by
    obtain⟨q1,q2,q3,q4⟩:=lB hj;rw[q3,← g1 _ _ (by omega) q2,q4]
   have hone:∀ u∈dp f m k'',u.oneCell'=true:=fun u hu=>by
    obtain⟨i,j,q1,q2,rfl⟩:=oS f hu;exact(g2 i j (by omega) q2).2
   have hbound:p*k''+(dp f m k'').length≤cur.size:=by
    rw[f2,hfl,← Nat.add_mul]; exact Nat.mul_le_mul_right _ (by omega)
   have htl:(ys.take m).length=m:=by simp; omega
   have hrun:=jD (P:=P) (w:=w) hone (q:=p*k'') f1 hbound;have hS:=gp (p:=p) (m:=m) hs hsb (cur:=cur) (ys:=ys.take m) (vs:=dp f m k'') f1 (by omega) htl hfl (fun i hi=>by
     have:=hyl i (by omega)
     simpa [List.getD_eq_getElem?_getD,List.getElem?_take,hi]using this) (fun i j hi hj=>by
     rw[kW f hi hj];have:=g2 i j (by omega) hj
     simpa [List.getD_eq_getElem?_getD,List.getElem?_take,hi]using this)
   have hcp:nR xs p (ys.take m)=xs.take p++(ys.take m++xs.drop (p+m)):=by simp only[nR,htl]
   rw[hcp]at hK;refine aL (v:=.int .i64 (m:Int)) ?_ hK (.fz _ _ (.int _ _)) hS.1 hS.2;have hm':Nat.min ys.length n=m:=hm;have hl:=run_loadCells_list (P:=P) w ab (dp f m k'') hcells;rw[hfl]at hl;simp only[execOp,ho,resolve,invoke,builtin,Builtin.copy_,List.map_toArray,List.map_cons,List.map_nil,ex,ey,ht,List.getElem?_toArray,List.getElem?_cons_zero,List.getElem?_cons_succ,Sem.run_bind,run_underlying hE.und,Result.andThen_ok,Sem.run_pure,Builtin.lenOf,hszr,hm',Builtin.firstCells,hl,hrun,goInt]
 unfold cpyD at h;split at h
 ·rename_i b k' p n hb;split at h
  ·rename_i T k'' c xs hsb;obtain⟨rfl,hk2,hle,-,hK⟩:=h;rw[hb]at hxv;obtain⟨ad1,cc,e1,e2,e3⟩:=fG hxv;exact main b p n cc ad1 T k'' c xs e1 e3 hsb hk2 hle hK
  ·exact h.elim
 ·rename_i b n c' hb;split at h
  ·rename_i T k'' c xs hsb;obtain⟨hk2,hle,-,hK⟩:=h;rw[hb]at hxv;exact main b 0 n c' ⟨b,0,none⟩ T k'' c xs (dy hxv) (fun _=>by rw[Nat.zero_mul]) hsb hk2 (by omega) hK
  ·exact h.elim
 ·rename_i hb;rw[hb]at hxv;obtain⟨ax,ex⟩:=cV hxv;refine aL (v:=.int .i64 ((0:Nat):Int)) (w':=w) ?_ h (.fz _ _ (.int _ _)) hs (Mv.refl _ _);have h0':Nat.min ys.length 0=0:=Nat.min_zero _;simp only[execOp,ho,resolve,invoke,builtin,Builtin.copy_,List.map_toArray,List.map_cons,List.map_nil,ex,ey,ht,List.getElem?_toArray,List.getElem?_cons_zero,List.getElem?_cons_succ,Sem.run_bind,run_underlying hE.und,Result.andThen_ok,Sem.run_pure,Builtin.lenOf,hszr,h0'];cases ad <;> cases ax <;> simp[Builtin.firstCells,loadCells,loadCellsFrom,storeCells,goInt]
 ·exact h.elim
end
end Go.Proofs.YtdkaijofmigmbaaGreat.L

set_option linter.unusedVariables false
set_option linter.unusedSimpArgs false
namespace Go.Proofs.YtdkaijofmigmbaaGreat.L
open Go
inductive OkOp (P:Program):Op→AOp→Prop where
 | mov {x y} (h:OkOpd x y):OkOp P (.move x) (.mov y)
 | asg {x y} (h:OkOpd x y):OkOp P (.assign x) (.mov y)
 | bin {ex op t x y t' x' y'} (h1:OkOpd x x') (h2:OkOpd y y'):OkOp P (.binOp op t x y t') (.bin ex op x' y')
 | eql {n t x y t' x' y'} (h:IntS P t n) (h1:OkOpd x x') (h2:OkOpd y y'):OkOp P (.binOp .eql t x y t') (.eqs false n x' y')
 | neq {n t x y t' x' y'} (h:IntS P t n) (h1:OkOpd x x') (h2:OkOpd y y'):OkOp P (.binOp .neq t x y t') (.eqs true n x' y')
 | unot {t x y} (h:OkOpd x y):OkOp P (.unOp .not t x) (.unot y)
 | uneg {t x y} (h:OkOpd x y):OkOp P (.unOp .neg t x) (.uneg y)
 | pick {c x y c' x' y'} (h:OkOpd c c') (h1:OkOpd x x') (h2:OkOpd y y'):OkOp P (.pick c x y) (.pick c' x' y')
 | nilc {x y} (h:OkOpd x y):OkOp P (.nilCheck x) (.nilc y)
 | fld {T x f y off ag n} (h:OkOpd x y) (h1:EO P T f off ag n) (h2:n≠0):OkOp P (.fieldAddr T x f) (.fld y off)
 | ld1 {T x y fr} (h:OkOpd x y) (h1:TyR P T false 1):OkOp P (.load T x) (.ld1 y fr)
 | ldn {T x y n fr} (h:OkOpd x y) (h1:TyR P T true n):OkOp P (.load T x) (.ldn y n fr)
 | fldv {T x f y off n ag} (h:OkOpd x y) (h1:EO P T f off ag n) (h2:0 < n) (h3:ag=false→n=1):OkOp P (.field T x f) (.fldv y off n ag)
 | idx {T x i y j n} (h:OkOpd x y) (h1:OkOpd i j) (h2:zu P T n):OkOp P (.indexAddr T x i) (.idx y j n)
 | idxs {T x i y j} (h:OkOpd x y) (h1:OkOpd i j) (h2:P.underlying T=some .string):OkOp P (.index T x i) (.idxs y j)
 | len {x y ts t0 E} (h:OkOpd x y) (h1:ts[0]?=some t0) (h2:P.underlying t0=some (.slice E)):OkOp P (.call {callee:=.builtin .len,args:=#[x],argTypes:=ts }) (.len y)
 | lens {x y ts t0} (h:OkOpd x y) (h1:ts[0]?=some t0) (h2:P.underlying t0=some .string):OkOp P (.call {callee:=.builtin .len,args:=#[x],argTypes:=ts }) (.lens y)
 | lenm {x y ts t0 kt et fr} (h:OkOpd x y) (h1:ts[0]?=some t0) (h2:P.underlying t0=some (.map kt et)):OkOp P (.call {callee:=.builtin .len,args:=#[x],argTypes:=ts }) (.lenm y fr)
 | mn {x y x' y' ts} (h:OkOpd x x') (h1:OkOpd y y'):OkOp P (.call {callee:=.builtin .min,args:=#[x,y],argTypes:=ts }) (.mnx false x' y')
 | mx {x y x' y' ts} (h:OkOpd x x') (h1:OkOpd y y'):OkOp P (.call {callee:=.builtin .max,args:=#[x,y],argTypes:=ts }) (.mnx true x' y')
 | ext {x y i} (h:OkOpd x y):OkOp P (.extract x i) (.ext y i)
 | bld {T pl z ps ps'} (h:CX P T pl z∨CY P T pl z) (h1:i9 pl z.length ps.toList ps'):OkOp P (.build T ps) (.bld z ps')
 | mkf {f xs ys} (h:cK xs.toList ys):OkOp P (.makeFunc (.func f) #[] xs) (.mkf f ys)
 | cvt {t u k d x y} (h:OkOpd x y) (h1:P.underlying t=some d) (h2:P.underlying u=some (.int k)):OkOp P (.convert t u x) (.cvt k y)
 | sl {T n x y lo hi lo' hi'} (h:OkOpd x y) (h1:zu P T n) (h2:bN lo lo') (h3:bN hi hi'):OkOp P (.slice T x lo hi none) (.sl y lo' hi' n)
 | sls {T x y lo hi lo' hi'} (h:OkOpd x y) (h1:P.underlying T=some .string) (h2:bN lo lo') (h3:bN hi hi'):OkOp P (.slice T x lo hi none) (.sls y lo' hi')
 | call {f xs ts ys} (h:cK xs.toList ys):OkOp P (.call {callee:=.value (.func f),args:=xs,argTypes:=ts }) (.call f ys)
 | callv {c c' xs ts ys} (h:OkOpd c c') (h1:cK xs.toList ys):OkOp P (.call {callee:=.value c,args:=xs,argTypes:=ts }) (.callv c' ys)
 | bsl {T E k n ps ys} (h:td P T E k) (h1:kv 0 ps.toList ys) (h2:ys.length=n) (h3:n*k≤16777216):OkOp P (.buildSlice T n ps) (.bsl k ys)
 | lkp {T kt et kn m key m' key' ok fr z} (h:P.underlying T=some (.map kt et)) (h1:jA P kt kn) (h2:FA P et z) (h3:OkOpd m m') (h4:OkOpd key key'):OkOp P (.lookup T m key ok) (.lkp kn ok z m' key' fr)
 | alc {T z} (h:C3 P T z):OkOp P (.alloc T) (.alc z)
 | box {T x y} (h:OkOpd x y):OkOp P (.box T x) (.box y)
 | sto {T p v p' v' n} (h:∀ w,(sizeOf T).run P w = .ok n w) (h1:OkOpd p p') (h2:OkOpd v v'):OkOp P (.store T p v) (.sto p' v' n)
 | mkm {T kn}:OkOp P (.makeMap T none) (.mkm kn T)
 | mks {T E k by_ z i zv n n'} (h:ElR P T E k by_ z i zv) (h1:z.length=k) (h2:OkOpd n n'):OkOp P (.makeSlice T n n) (.mks E k by_ z n')
 | bsr {T E k n ps ys} (h:td P T E k) (h1:kv 0 ps.toList ys) (h2:ys.length=n) (h3:n*k≤16777216):OkOp P (.buildSlice T n ps) (.bsr E k ys)
 | app {T E k by_ z i zv x y x' y'} (h:ElR P T E k by_ z i zv) (h1:OkOpd x x') (h2:OkOpd y y'):OkOp P (.call {callee:=.builtin .append,args:=#[x,y],argTypes:=#[T,T] }) (.app E k by_ x' y')
 | mup {T kt et kn m key v m' key' v'} (h:P.underlying T=some (.map kt et)) (h1:jA P kt kn) (h2:OkOpd m m') (h3:OkOpd key key') (h4:OkOpd v v'):OkOp P (.mapUpdate T m key v) (.mup kn m' key' v')
 | ins {T kt et kn m key v m' key' v'} (h:P.underlying T=some (.map kt et)) (h1:jA P kt kn) (h2:OkOpd m m') (h3:OkOpd key key') (h4:OkOpd v v'):OkOp P (.insert T m key v) (.mup kn m' key' v')
 | men {T kt et kn z m key m' key'} (h:P.underlying T=some (.map kt et)) (h1:jA P kt kn) (h2:FA P et z) (h3:OkOpd m m') (h4:OkOpd key key'):OkOp P (.mapEntry T m key) (.men kn z m' key')
 | ens {T m st v m' st' v'} (h:OkOpd m m') (h1:OkOpd st st') (h2:OkOpd v v'):OkOp P (.entryStore T m st v) (.ens m' st' v')
 | isn {ne t E x t' x'} (h:OkOpd x x') (hu:P.underlying t=some (.slice E)):OkOp P (.binOp (if ne then .neq else .eql) t x (.const (.slice none 0 0)) t') (.isn ne x')
 | bad {op}:OkOp P op .bad
 | bq {ne t t' x y x' y'} (h:OkOpd x x') (h1:OkOpd y y') (hu:P.underlying t=some .bool):OkOp P (.binOp (if ne then .neq else .eql) t x y t') (.bq ne x' y')
 | mnl {xs ts ys mx} (h:cK xs.toList ys):OkOp P (.call {callee:=.builtin (if mx then .max else .min),args:=xs,argTypes:=ts }) (.mnl mx ys)
 | pnn {ne t E x t' x'} (h:OkOpd x x') (hu:P.underlying t=some (.pointer E)):OkOp P (.binOp (if ne then .neq else .eql) t x (.const (.pointer none)) t') (.pnn ne x')
 | cap {x y ts t0 E} (h:OkOpd x y) (h1:ts[0]?=some t0) (h2:P.underlying t0=some (.slice E)):OkOp P (.call {callee:=.builtin .cap,args:=#[x],argTypes:=ts }) (.cap y)
 | sle {T n x hi x' hi'} (h:zu P T n) (h1:OkOpd x x') (h2:OkOpd hi hi'):OkOp P (.slice T x none (some hi) none) (.sle x' hi')
 | apz {T U E k by_ z i zv ik x n x' n'} (h:ElR P T E k by_ z i zv) (hz:z.length=k) (hu:P.underlying U=some (.int ik)) (h1:OkOpd x x') (h2:OkOpd n n'):OkOp P (.call {callee:=.builtin .append,args:=#[x,n],argTypes:=#[T,U] }) (.apz E k by_ z x' n')
 | idxa {T x i y j n k} (h:OkOpd x y) (h1:OkOpd i j) (h2:ArR P T n k):OkOp P (.indexAddr T x i) (.idxa y j k n)
 | sla {T x y n k} (h:OkOpd x y) (h2:ArR P T n k):OkOp P (.slice T x none none none) (.sla y k n)
 | slo {T n x y lo hi lo' hi'} (h:OkOpd x y) (h1:zu P T n) (h2:bN lo lo') (h3:bN hi hi'):OkOp P (.slice T x lo hi none) (.slo y lo' hi' n)
 | stl {T p v p' v' n} (h:∀ w,(sizeOf T).run P w = .ok n w) (h1:OkOpd p p') (h2:OkOpd v v'):OkOp P (.store T p v) (.stl p' v' n)
 | alcr {T n k z} (h:ArZ P T n k z):OkOp P (.alloc T) (.alcr T k n z)
 | stoa {T p v p' v' n k} (h:∀ w,(sizeOf T).run P w = .ok (n*k) w) (h1:OkOpd p p') (h2:OkOpd v v'):OkOp P (.store T p v) (.stoa p' v' k n)
 | trn {T n x hi x' hi'} (h:zu P T n) (h1:OkOpd x x') (h2:OkOpd hi hi'):OkOp P (.slice T x none (some hi) none) (.trn x' hi')
 | clr {x ts t0 E k by_ z i zv x'} (ht:ts[0]?=some t0) (hE:ElR P t0 E k by_ z i zv) (h:OkOpd x x'):OkOp P (.call {callee:=.builtin .clear,args:=#[x],argTypes:=ts }) (.clr x' k z)
 | cpy {x y ts t0 E k by_ z i zv x' y'} (ht:ts[0]?=some t0) (hE:ElR P t0 E k by_ z i zv) (h:OkOpd x x') (h1:OkOpd y y'):OkOp P (.call {callee:=.builtin .copy,args:=#[x,y],argTypes:=ts }) (.cpy x' y' k)
 | xcall {f xs ts ys} (h:cK xs.toList ys) (hne:f≠YB):OkOp P (.call {callee:=.value (.func f),args:=xs,argTypes:=ts }) (.xcall f ys)
 | xcallv {c c' xs ts ys} (h:OkOpd c c') (h1:cK xs.toList ys):OkOp P (.call {callee:=.value c,args:=xs,argTypes:=ts }) (.xcallv c' ys)
section
variable {P:Program} {T:Tbl} {R:Nat→Prop} {o:Oper} {a:Act} {s:Store} {w:World} {ρ:Opd→AV}
theorem mS (hT:fg P T)(hs:St s w)(hρ:∀ x y,OkOpd x y→RV (own s) w (ρ y) (a.eval x)){K:AV→Prop→Prop}{op:Op}{ao:AOp}(hop:o.op=op)(hk:OkOp P op ao)(he:bA ao=false)(h:nop T R ao ρ s K):NS P o a s w K:=by
 cases hk with
 | mov h1=>exact uG hs (.inl hop) (hρ _ _ h1) h
 | asg h1=>exact uG hs (.inr hop) (hρ _ _ h1) h
 | bin h1 h2=>exact CW hs hop (hρ _ _ h1) (hρ _ _ h2) h
 | eql h0 h1 h2=>exact uK (ne:=false) hs hop rfl h0 (hρ _ _ h1) (hρ _ _ h2) h
 | neq h0 h1 h2=>exact uK (ne:=true) hs hop rfl h0 (hρ _ _ h1) (hρ _ _ h2) h
 | unot h1=>exact wA hs hop (hρ _ _ h1) h
 | uneg h1=>exact wB hs hop (hρ _ _ h1) h
 | pick h0 h1 h2=>exact wC hs hop (hρ _ _ h0) (hρ _ _ h1) (hρ _ _ h2) h
 | nilc h1=>exact wD hs hop (hρ _ _ h1) h
 | fld h0 h1 h2=>exact CO hs hop h1 h2 (hρ _ _ h0) h
 | ld1 h0 h1=>exact CP hs hop h1 (hρ _ _ h0) h
 | ldn h0 h1=>exact CQ hs hop h1 (hρ _ _ h0) h
 | fldv h0 h1 h2 h3=>exact wF hs hop h1 h2 h3 (hρ _ _ h0) h
 | idx h0 h1 h2=>exact CS hs hop h2 (hρ _ _ h0) (hρ _ _ h1) h
 | idxs h0 h1 h2=>exact wI hs hop h2 (hρ _ _ h0) (hρ _ _ h1) h
 | len h0 h1 h2=>exact CT hs hop h1 h2 (hρ _ _ h0) h
 | lens h0 h1 h2=>exact wE hs hop h1 h2 (hρ _ _ h0) h
 | lenm h0 h1 h2=>exact wH hs hop h1 h2 (hρ _ _ h0) h
 | mn h0 h1=>exact uI (mx:=false) hs hop (hρ _ _ h0) (hρ _ _ h1) h
 | mx h0 h1=>exact uI (mx:=true) hs hop (hρ _ _ h0) (hρ _ _ h1) h
 | ext h0=>exact ns_ext hs hop (hρ _ _ h0) h
 | bld h0 h1=>exact CZ hs hρ hop h0 h1 h
 | mkf h0=>exact CU hs hρ hop h0 h
 | cvt h0 h1 h2=>exact CV hs hop h1 h2 (hρ _ _ h0) h
 | sl h0 h1 h2 h3=>exact Fz hs hρ hop h1 h0 h2 h3 h
 | sls h0 h1 h2 h3=>exact C0 hs hρ hop h1 h0 h2 h3 h
 | call h0=>exact wG hT hs hρ hop h0 h
 | callv h0 h1=>exact uJ hT hs hρ hop h0 h1 h
 | bsl h0 h1 h2 h3=>exact C1 hs hρ hop h0 h1 h2 h3 h
 | lkp h0 h1 h2 h3 h4=>exact C2 hs hop h0 h1 h2 (hρ _ _ h3) (hρ _ _ h4) h
 | bad=>exact De h
 | bq h0 h1 hu=>exact FB hs hop hu (hρ _ _ h0) (hρ _ _ h1) h
 | mnl h0=>exact Df hs hρ hop h0 h
 | pnn h0 hu=>exact Dg hs hop hu (hρ _ _ h0) h
 | idxa h0 h1 h2=>exact wK hs hop h2 (hρ _ _ h0) (hρ _ _ h1) h
 | sla h0 h2=>exact Dj hs hop h2 (hρ _ _ h0) h
 | slo h0 h1 h2 h3=>exact Dk hs hρ hop h1 h0 h2 h3 h
 | cap h0 h1 h2=>exact Dh hs hop h1 h2 (hρ _ _ h0) h
 | sle h0 h1 h2=>obtain⟨E,g1,g2⟩:=h0; exact Di hs hop g1 g2 (hρ _ _ h1) (hρ _ _ h2) h
 | _=>simp[bA]at he
theorem tf (hs:St s w)(hR:∀ b,R b→b < w.heap.size)(hρ:∀ x y,OkOpd x y→RV (own s) w (ρ y) (a.eval x)){K:AV→Store→Prop}{op:Op}{ao:AOp}(hop:o.op=op)(hk:OkOp P op ao)(he:bA ao=true)(h:eff P R ao ρ s K):YW P o a s w K:=by
 cases hk with
 | alc h0=>exact C4 hs hR hop h0 h
 | box h0=>exact C5 hs hR hop (hρ _ _ h0) h
 | sto h0 h1 h2=>exact uL hs hop h0 (hρ _ _ h1) (hρ _ _ h2) h
 | mkm=>exact C6 hs hR hop h
 | mks h0 h1 h2=>exact C7 hs hR hop rfl h0 h1 (hρ _ _ h2) h
 | bsr h0 h1 h2 h3=>exact C8 hs hR hρ hop h0 h1 h2 h3 h
 | app h0 h1 h2=>exact Da hs hR hop h0 (hρ _ _ h1) (hρ _ _ h2) h
 | mup h0 h1 h2 h3 h4=>exact es_mup hs (.inl hop) h0 h1 (hρ _ _ h2) (hρ _ _ h3) (hρ _ _ h4) h
 | ins h0 h1 h2 h3 h4=>exact es_mup hs (.inr hop) h0 h1 (hρ _ _ h2) (hρ _ _ h3) (hρ _ _ h4) h
 | men h0 h1 h2 h3 h4=>exact Db hs hop h0 h1 h2 (hρ _ _ h3) (hρ _ _ h4) h
 | ens h0 h1 h2=>exact Dc hs hop (hρ _ _ h0) (hρ _ _ h1) (hρ _ _ h2) h
 | isn h0 hu=>exact Dd hs hop hu (hρ _ _ h0) h
 | stl h0 h1 h2=>exact Dl hs hop h0 (hρ _ _ h1) (hρ _ _ h2) h
 | alcr h0=>exact wL hs hR hop h0 h
 | stoa h0 h1 h2=>exact wM hs hop h0 (hρ _ _ h1) (hρ _ _ h2) h
 | trn h0 h1 h2=>obtain⟨E,g1,g2⟩:=h0; exact Dm hs hop g1 g2 (hρ _ _ h1) (hρ _ _ h2) h
 | clr ht hE h0=>exact Do hs hop ht hE (hρ _ _ h0) h
 | cpy ht hE h0 h1=>exact Dp hs hop ht hE (hρ _ _ h0) (hρ _ _ h1) h
 | apz h0 hz hu h1 h2=>exact Dn hs hR hop h0 hz hu (hρ _ _ h1) (hρ _ _ h2) h
 | xcall h0 hne=>exact uM hs hρ hop h0 hne h
 | xcallv h0 h1=>exact te hs hρ hop h0 h1 h
 | _=>simp[bA]at he
end
theorem Conf.put {n:Nat}{s s':Store}{e:Env}{a:Act}{w w':World}(hf:Conf n s e a w){d:Option Nat}(hd:∀ x,d=some x→x < n){r:AV}{v:Value}(hv:RV (own s') w' r v)(hs:St s' w')(hm:Mv (own s) (own s') w w'):Conf n s' (Env.put e d r) (a.put d v) w':=by
 cases d with
 | none=>exact⟨hf.sz,hs,fun t=>(hf.env t).mv hm⟩
 | some d=>
  have hlt:=hd d rfl;refine⟨by simpa [Act.put]using hf.sz,hs,fun t=>?_⟩;simp only[Env.put,Env.set,Act.put,Array.getD_eq_getD_getElem?];have hsz:=hf.sz;by_cases ht:t=d
  ·subst ht;rw[if_pos rfl,Array.getElem?_setIfInBounds_self_of_lt (by omega)];exact hv
  ·rw[if_neg ht,Array.getElem?_setIfInBounds_ne (fun e=>ht e.symm),← Array.getD_eq_getD_getElem?];exact(hf.env t).mv hm
theorem jF {n:Nat}{s:Store}{e:Env}{a:Act}{w:World}(hf:Conf n s e a w)(x:Operand)(y:Opd)(h:OkOpd x y):RV (own s) w (opd e y) (a.eval x):=by
 cases x with
 | tmp t=>cases y with
  | t t'=>cases(show t=t' from h); exact hf.env t
  | c a=>exact h.elim
 | const v=>cases y with
  | t t'=>exact h.elim
  | c a=>exact h _ _
 | global g=>cases y <;> exact h.elim
 | func f=>cases y with
  | t t'=>exact h.elim
  | c a=>cases a with
   | fn f' cap=>cases cap with
    | nil=>cases(show f=f' from h); exact .fn _ [] [] rfl (fun j hj=>by simp at hj)
    | cons=>exact h.elim
   | _=>exact h.elim
structure OkOper (P:Program) (n:Nat) (ops:Array Oper) (o:Oper) (ao:AOper):Prop where
 dst:o.dst=ao.dst
 lt:∀ x,o.dst=some x→x < n
 op:OkOp P o.op ao.op
 grd:(o.guard=none∧ao.grd=none)∨∃ j c g,o.guard=some (j,c)∧(ops[j]?).bind (·.dst)=some g∧ao.grd=some (g,c)
theorem dZ (a:Act)(d:Option Nat)(v:Value):(a.put d v).defers=a.defers:=by cases d <;> rfl
theorem lE {P:Program}{T:Tbl}{R:Nat→Prop}(hT:fg P T){n:Nat}{ops:Array Oper}{o:Oper}{ao:AOper}(hok:OkOper P n ops o ao){s:Store}{e:Env}{a:Act}{w:World}(hf:Conf n s e a w)(hR:∀ b,R b→b < w.heap.size)
  {K:Env→Store→Prop} (h:xo P T R ao K e s) {next:Act→World→Prop} {Q:Exit→Act→World→Prop} (hn:∀ e' s' a' w',K e' s'→Conf n s' e' a' w'→Mv (own s) (own s') w w'→a'.defers=a.defers→next a' w') (ro:Option Nat) :
  if Region.wanted o (yielded ops a.tmps)then owp ro P o a w next Q else next (a.put o.dst Go.undef) w:=by
 have hρ:=jF hf;have effs:∀ K':AV→Store→Prop,bA ao.op=true→eff P R ao.op (opd e) s K'→(∀ r s',K' r s'→K (Env.put e ao.dst r) s')→owp ro P o a w next Q:=fun K' he hef hk=>
  tf hf.st hR hρ rfl hok.op he hef ro next Q fun v r s' w' h1 h2 h3 h4=>by
   have:=hk r s' h1;rw[← hok.dst]at this;exact hn _ _ _ _ this (hf.put hok.lt h2 h3 h4) h4 (dZ _ _ _)
 rcases hok.grd with⟨g1,g2⟩ | ⟨j,c,g,g1,g2,g3⟩
 ·have hw:Region.wanted o (yielded ops a.tmps)=true:=by simp[Region.wanted,g1]
  rw[if_pos hw];simp only[xo,g2]at h;cases he:bA ao.op with
  | true=>
   rw[he]at h;exact effs _ he h fun _ _ h=>h
  | false=>
   rw[he]at h;obtain⟨r,p,⟨hp,hk⟩,hy⟩:=mS hT hf.st hρ rfl hok.op he h;refine hy hp ro next Q fun v r' s' w' h1 h2 h3 h4=>?_
   obtain⟨rfl,rfl⟩:=h1;rw[← hok.dst]at hk;exact hn _ _ _ _ hk (hf.put hok.lt h2 h3 h4) h4 (dZ _ _ _)
 ·simp only[xo,g3]at h;split at h
  ·rename_i q hq;have hw:Region.wanted o (yielded ops a.tmps)=q:=by
    have hg:=hf.env g;cases heg:e g with
    | bool cb=>
     rw[heg]at hg hq;have hgv:=dC hg;have hget:a.tmps[g]?=some (.bool cb):=by
      rw[Array.getD_eq_getD_getElem?]at hgv;cases ht:a.tmps[g]? with
      | none=>rw[ht]at hgv; cases hgv
      | some v=>rw[ht]at hgv; exact congrArg some hgv
     simp only[ga,Option.some.injEq]at hq;rw[← hq];simp only[Region.wanted,g1,yielded,g2,Option.bind_some,hget];cases c <;> cases cb <;> rfl
    | whn g' x=>
     rw[heg]at hg hq;obtain⟨h1,h2⟩:=wz hg;cases g' with
     | true=>
      cases x with
      | bool cb=>
       simp only[ga,Option.some.injEq]at hq;have hgv:=dC (h1 rfl);have hget:a.tmps[g]?=some (.bool cb):=by
        rw[Array.getD_eq_getD_getElem?]at hgv;cases ht:a.tmps[g]? with
        | none=>rw[ht]at hgv; cases hgv
        | some v=>rw[ht]at hgv; exact congrArg some hgv
       rw[← hq];simp only[Region.wanted,g1,yielded,g2,Option.bind_some,hget];cases c <;> cases cb <;> rfl
      | _=>simp[ga]at hq
     | false=>
      simp only[ga,Option.some.injEq]at hq;have hgv:=h2 rfl;rw[← hq];rw[Array.getD_eq_getD_getElem?]at hgv;have hy:yielded ops a.tmps j=none:=by
       simp only[yielded,g2,Option.bind_some];cases ht:a.tmps[g]? with
       | none=>rfl
       | some v=>rw[ht]at hgv; simp only[Option.getD_some]at hgv; rw[hgv]; rfl
      simp only[Region.wanted,g1,hy];cases c <;> rfl
    | _=>rw[heg]at hq; simp[ga]at hq
   rw[hw];cases hgb:q with
   | true=>
    rw[if_pos rfl];cases he:bA ao.op with
    | true=>
     rw[he]at h;exact effs _ he (h.1 hgb) fun _ _ h=>h
    | false=>
     rw[he]at h;subst hgb;obtain⟨r,p,⟨hp,hk⟩,hy⟩:=mS hT hf.st hρ rfl hok.op he h;refine hy hp ro next Q fun v r' s' w' h1 h2 h3 h4=>?_
     obtain⟨rfl,rfl⟩:=h1;rw[← hok.dst]at hk;exact hn _ _ _ _ hk (hf.put hok.lt (.whn _ _ _ (fun _=>h2) (fun h=>by cases h)) h3 h4) h4 (dZ _ _ _)
   | false=>
    rw[if_neg (by simp)];cases he:bA ao.op with
    | true=>
     rw[he]at h;have hk:=h.2 hgb;rw[← hok.dst]at hk;exact hn _ _ _ _ hk (hf.put hok.lt (.undef _) hf.st (Mv.refl _ _)) (Mv.refl _ _) (dZ _ _ _)
    | false=>
     rw[he]at h;subst hgb;have hk:K (Env.put e ao.dst (.whn false .undef)) s:=h;rw[← hok.dst]at hk;exact hn _ _ _ _ hk (hf.put hok.lt (.whn _ _ _ (fun h=>by cases h) (fun _=>rfl)) hf.st (Mv.refl _ _)) (Mv.refl _ _) (dZ _ _ _)
  ·exact h.elim
end Go.Proofs.YtdkaijofmigmbaaGreat.L

set_option linter.unusedVariables false
set_option linter.unusedSimpArgs false
namespace Go.Proofs.YtdkaijofmigmbaaGreat.L
open Go
def OkOpers (P:Program)(n:Nat)(ops:Array Oper):List Oper→List AOper→Prop
 | [],[]=>True
 | o::l,a::l'=>OkOper P n ops o a∧OkOpers P n ops l l'
 | _,_=>False
def dO (P:Program)(T:Tbl)(R:Nat→Prop)(aops:Array AOper)(i:Nat)(K:Env→Store→Prop)(e:Env)(s:Store):Prop:=
 match aops[i]? with
 | some ao=>xo P T R ao K e s
 | none=>K e s
def lF (P:Program)(T:Tbl)(R:Nat→Prop)(ops:Array Oper)(aops:Array AOper)(K:Env→Store→Prop):Nat→Array Bool→Env→Store→Prop
 | 0,listed,e,s=>Region.ready .any ops listed=[]∧K e s
 | m+1,listed,e,s=>(Region.ready .any ops listed=[]→K e s)∧∀ i∈Region.ready .any ops listed,dO P T R aops i (lF P T R ops aops K m (listed.setIfInBounds i true)) e s
theorem jc {P:Program}{T:Tbl}{R:Nat→Prop}(hT:fg P T){n:Nat}{ops:Array Oper}{aops:Array AOper}(hsz:aops.size=ops.size)(hk:∀ (i:Nat) (o:Oper) (ao:AOper),ops[i]?=some o→aops[i]?=some ao→OkOper P n ops o ao){K:Exit→Env→Store→Prop}{s0:Store}{w0:World}:
  ∀ (m:Nat) (listed:Array Bool) (e:Env) (s:Store) (a:Act) (w:World) (ro:Option Nat),Conf n s e a w→(∀ b,R b→b < w.heap.size)→Mv (own s0) (own s) w0 w→lF P T R ops aops (fun e s=>K .normal e s) m listed e s→mK ro P ops (post n K s0 a.defers w0) m listed a w
 | 0,listed,e,s,a,w,ro,hf,hR,hm,h=>⟨h.1,e,s,h.2,hf,hm,rfl⟩
 | m+1,listed,e,s,a,w,ro,hf,hR,hm,h=>by
  refine qi (fun h0=>⟨e,s,h.1 h0,hf,hm,rfl⟩) fun i hi=>?_;have hx:=h.2 i hi;have hlt:i < ops.size:=by
   have:=List.mem_filter.1 hi
   simpa using this.1
  have ho:ops[i]?=some ops[i]:=Array.getElem?_eq_getElem hlt;have hao:aops[i]?=some (aops[i]'(by omega)):=Array.getElem?_eq_getElem (by omega);simp only[dO,hao]at hx;have key:=lE hT (hk i _ _ ho hao) hf hR hx (next:=mK ro P ops (post n K s0 a.defers w0) m (listed.setIfInBounds i true)) (Q:=post n K s0 a.defers w0) (fun e' s' a' w' h1 h2 h3 h4=>by
   have:=jc hT hsz hk m _ e' s' a' w' ro h2 (fun b hb=>Nat.lt_of_lt_of_le (hR b hb) h3.size) (hm.trans h3) h1;rw[h4]at this;exact this) ro
  exact⟨_,ho,key⟩
def opnds:AOp→List Opd
 | .mov x | .unot x | .uneg x | .nilc x | .fld x _ | .ld1 x _ | .ldn x _ _ | .fldv x _ _ _ | .len x | .lens x | .ext x _ | .cvt _ x | .lenm x _ | .box x | .isn _ x | .pnn _ x | .cap x | .sla x _ _ | .clr x _ _ | .szk _ x=>[x]
 | .bin _ _ x y | .eqs _ _ x y | .idx x y _ | .idxs x y | .mnx _ x y | .lkp _ _ _ x y _ | .sto x y _ | .app _ _ _ x y | .men _ _ x y | .idxa x y _ _ | .bq _ x y | .stl x y _ | .stoa x y _ _ | .trn x y | .sle x y | .cpy x y _ | .apz _ _ _ _ x y=>[x,y]
 | .pick x y z | .mup _ x y z | .ens x y z=>[x,y,z]
 | .bld _ ps=>ps.map (·.2.2)
 | .mkf _ xs | .mnl _ xs | .call _ xs | .bsl _ xs | .bsr _ _ xs | .xcall _ xs=>xs
 | .sl x lo hi _ | .slo x lo hi _ | .sls x lo hi=>x::(lo.toList++hi.toList)
 | .callv f xs | .xcallv f xs=>f::xs
 | .mks _ _ _ _ x=>[x]
 | .alc _ | .mkm .. | .bad | .alcr ..=>[]
section
variable {P:Program} {T:Tbl} {R:Nat→Prop} {ρ ρ':Opd→AV} {s:Store}
theorem cM (xs:List Opd)(h:∀ x∈xs,ρ x=ρ' x):vals ρ xs=vals ρ' xs:=by
 unfold vals; exact List.map_congr_left fun x hx=>by rw[h x hx]
theorem dfs_ext:∀ (xs:List Opd),(∀ x∈xs,ρ x=ρ' x)→(ko ρ xs=ko ρ' xs)
 | [],_=>rfl
 | x::xs,h=>by simp only[ko]; rw[h x (by simp),dfs_ext xs fun y hy=>h y (by simp[hy])]
theorem mT:∀ (ps:List (Nat×Nat×Opd)),(∀ x∈ps.map (·.2.2),ρ x=ρ' x)→iW ρ ps=iW ρ' ps
 | [],_=>rfl
 | (_,_,x)::ps,h=>by simp only[iW]; rw[h x (by simp),mT ps fun y hy=>h y (by simp only[List.map_cons,List.mem_cons]; exact .inr hy)]
theorem pok_ext:∀ (ps:List (Nat×Nat×Opd)),(∀ x∈ps.map (·.2.2),ρ x=ρ' x)→CN ρ ps=CN ρ' ps
 | [],_=>rfl
 | (_,_,x)::ps,h=>by simp only[CN]; rw[h x (by simp),pok_ext ps fun y hy=>h y (by simp only[List.map_cons,List.mem_cons]; exact .inr hy)]
theorem lo_ext (d:Int)(x:Option Opd)(K:Int→Prop→Prop)(h:∀ y∈x.toList,ρ y=ρ' y):lo_ ρ d x K=lo_ ρ' d x K:=by
 cases x with
 | none=>rfl
 | some y=>simp only[lo_]; rw[h y (by simp)]
theorem kY (o:AOp)(h:∀ x∈opnds o,ρ x=ρ' x)(K:AV→Prop→Prop):nop T R o ρ s K=nop T R o ρ' s K:=by
 cases o with
 | bld z ps=>simp only[nop]; rw[mT ps h,pok_ext ps h]
 | mkf f xs=>simp only[nop]; rw[cM xs h,dfs_ext xs h]
 | mnl mx xs=>simp only[nop]; rw[cM xs h,dfs_ext xs h]
 | call f xs=>simp only[nop]; rw[cM xs h,dfs_ext xs h]
 | bsl k xs=>simp only[nop]; rw[cM xs h,dfs_ext xs h]
 | callv f xs=>
  simp only[nop];rw[h f (by simp[opnds]),cM xs (fun x hx=>h x (by simp[opnds,hx])),dfs_ext xs (fun x hx=>h x (by simp[opnds,hx]))]
 | sl x lo hi n=>
  have e:∀ (d:Int) (x:Option Opd),(∀ y∈x.toList,ρ y=ρ' y)→lo_ ρ d x=lo_ ρ' d x:=fun d x hx=>funext fun K=>lo_ext d x K hx;simp only[nop];rw[h x (by simp[opnds])];simp only[e _ lo (fun y hy=>h y (by simp only[opnds,List.mem_cons,List.mem_append]; exact .inr (.inl hy))),e _ hi (fun y hy=>h y (by simp only[opnds,List.mem_cons,List.mem_append]; exact .inr (.inr hy)))]
 | slo x lo hi n=>
  have e:∀ (d:Int) (x:Option Opd),(∀ y∈x.toList,ρ y=ρ' y)→lo_ ρ d x=lo_ ρ' d x:=fun d x hx=>funext fun K=>lo_ext d x K hx;simp only[nop];rw[h x (by simp[opnds])];simp only[e _ lo (fun y hy=>h y (by simp only[opnds,List.mem_cons,List.mem_append]; exact .inr (.inl hy))),e _ hi (fun y hy=>h y (by simp only[opnds,List.mem_cons,List.mem_append]; exact .inr (.inr hy)))]
 | sls x lo hi=>
  have e:∀ (d:Int) (x:Option Opd),(∀ y∈x.toList,ρ y=ρ' y)→lo_ ρ d x=lo_ ρ' d x:=fun d x hx=>funext fun K=>lo_ext d x K hx;simp only[nop];rw[h x (by simp[opnds])];simp only[e _ lo (fun y hy=>h y (by simp only[opnds,List.mem_cons,List.mem_append]; exact .inr (.inl hy))),e _ hi (fun y hy=>h y (by simp only[opnds,List.mem_cons,List.mem_append]; exact .inr (.inr hy)))]
 | bin ex op x y=>simp only[nop]; rw[h x (by simp[opnds]),h y (by simp[opnds])]
 | szk by_ x=>simp only[nop]; rw[h x (by simp[opnds])]
 | eqs ne n x y=>simp only[nop]; rw[h x (by simp[opnds]),h y (by simp[opnds])]
 | idx x y n=>simp only[nop]; rw[h x (by simp[opnds]),h y (by simp[opnds])]
 | idxs x y=>simp only[nop]; rw[h x (by simp[opnds]),h y (by simp[opnds])]
 | bq ne x y=>simp only[nop]; rw[h x (by simp[opnds]),h y (by simp[opnds])]
 | idxa x y k n=>simp only[nop]; rw[h x (by simp[opnds]),h y (by simp[opnds])]
 | mnx mx x y=>simp only[nop]; rw[h x (by simp[opnds]),h y (by simp[opnds])]
 | lkp kn ok z x y fr=>simp only[nop]; rw[h x (by simp[opnds]),h y (by simp[opnds])]
 | pick x y z=>simp only[nop]; rw[h x (by simp[opnds]),h y (by simp[opnds]),h z (by simp[opnds])]
 | mov x=>simp only[nop]; rw[h x (by simp[opnds])]
 | unot x=>simp only[nop]; rw[h x (by simp[opnds])]
 | uneg x=>simp only[nop]; rw[h x (by simp[opnds])]
 | nilc x=>simp only[nop]; rw[h x (by simp[opnds])]
 | fld x off=>simp only[nop]; rw[h x (by simp[opnds])]
 | ld1 x fr=>simp only[nop]; rw[h x (by simp[opnds])]
 | ldn x n fr=>simp only[nop]; rw[h x (by simp[opnds])]
 | fldv x off n ag=>simp only[nop]; rw[h x (by simp[opnds])]
 | len x=>simp only[nop]; rw[h x (by simp[opnds])]
 | pnn ne x=>simp only[nop]; rw[h x (by simp[opnds])]
 | cap x=>simp only[nop]; rw[h x (by simp[opnds])]
 | sle x y=>simp only[nop]; rw[h x (by simp[opnds]),h y (by simp[opnds])]
 | sla x k n=>simp only[nop]; rw[h x (by simp[opnds])]
 | lens x=>simp only[nop]; rw[h x (by simp[opnds])]
 | ext x i=>simp only[nop]; rw[h x (by simp[opnds])]
 | cvt k x=>simp only[nop]; rw[h x (by simp[opnds])]
 | lenm x fr=>simp only[nop]; rw[h x (by simp[opnds])]
 | _=>simp only[nop]
theorem jd (o:AOp)(h:∀ x∈opnds o,ρ x=ρ' x)(K:AV→Store→Prop):eff P R o ρ s K=eff P R o ρ' s K:=by
 cases o with
 | box x=>simp only[eff]; rw[h x (by simp[opnds])]
 | mks T k b z x=>simp only[eff]; rw[h x (by simp[opnds])]
 | clr x k z=>simp only[eff]; rw[h x (by simp[opnds])]
 | cpy x y k=>simp only[eff]; rw[h x (by simp[opnds]),h y (by simp[opnds])]
 | stl x y n=>simp only[eff]; rw[h x (by simp[opnds]),h y (by simp[opnds])]
 | stoa x y k n=>simp only[eff]; rw[h x (by simp[opnds]),h y (by simp[opnds])]
 | trn x y=>simp only[eff]; rw[h x (by simp[opnds]),h y (by simp[opnds])]
 | apz T k b z x y=>simp only[eff]; rw[h x (by simp[opnds]),h y (by simp[opnds])]
 | sto x y n=>simp only[eff]; rw[h x (by simp[opnds]),h y (by simp[opnds])]
 | app T k b x y=>simp only[eff]; rw[h x (by simp[opnds]),h y (by simp[opnds])]
 | men kn z x y=>simp only[eff]; rw[h x (by simp[opnds]),h y (by simp[opnds])]
 | mup kn x y z=>simp only[eff]; rw[h x (by simp[opnds]),h y (by simp[opnds]),h z (by simp[opnds])]
 | isn ne x=>simp only[eff]; rw[h x (by simp[opnds])]
 | ens x y z=>simp only[eff]; rw[h x (by simp[opnds]),h y (by simp[opnds]),h z (by simp[opnds])]
 | bsr T k xs=>simp only[eff]; rw[cM xs h,dfs_ext xs h]
 | xcall f xs=>simp only[eff]; rw[cM xs h,dfs_ext xs h]
 | xcallv f xs=>simp only[eff]; rw[h f (by simp[opnds]),cM xs (fun x hx=>h x (by simp[opnds,hx])),dfs_ext xs (fun x hx=>h x (by simp[opnds,hx]))]
 | _=>simp only[eff]
end
def Det (Φ:(AV→Prop→Prop)→Prop):Prop:=(∀ K,¬ Φ K)∨∃ v p,∀ K,Φ K↔K v p
theorem Det.no {Φ:(AV→Prop→Prop)→Prop}(h:∀ K,¬ Φ K):Det Φ:=.inl h
theorem Det.yes (v:AV)(p:Prop):Det (fun K=>K v p):=.inr ⟨v,p,fun _=>Iff.rfl⟩
theorem Det.fls:Det (fun _=>False):=.inl fun _ h=>h
theorem Det.and {c:Prop}{Φ:(AV→Prop→Prop)→Prop}(h:Det Φ):Det (fun K=>c∧Φ K):=by
 by_cases hc:c
 ·rcases h with h | ⟨v,p,h⟩
  ·exact .inl fun K hk=>h K hk.2
  ·exact .inr ⟨v,p,fun K=>⟨fun hk=>(h K).1 hk.2,fun hk=>⟨hc,(h K).2 hk⟩⟩⟩
 ·exact .inl fun K hk=>hc hk.1
theorem jG (ex:Bool)(k:IntKind)(n:Int)(f:AV→Prop→AV×Prop):Det (fun K=>oM ex k n fun v p=>K (f v p).1 (f v p).2):=by
 cases ex
 ·exact .inr ⟨_,_,fun _=>Iff.rfl⟩
 ·exact .inr ⟨_,_,fun _=>Iff.rfl⟩
theorem uN (ex:Bool)(op:BinOp)(a b:AV)(f:AV→Prop→AV×Prop):Det (fun K=>uD ex op a b fun v p=>K (f v p).1 (f v p).2):=by
 unfold uD;split
 ·exact(jG ex _ _ f).and
 ·exact(jG ex _ _ f).and
 ·exact(jG ex _ _ f).and
 all_goals first
  | exact(Det.yes _ _).and
  | exact Det.yes _ _
  | exact Det.fls
theorem lG (f:Bool→AV×Prop):∀ (cs ds:List AV) (acc:Bool),Det (fun K=>dX cs ds acc fun b=>K (f b).1 (f b).2)
 | [],[],acc=>.inr ⟨_,_,fun _=>Iff.rfl⟩
 | c::cs,d::ds,acc=>by
  cases c <;> cases d <;> first
   | exact .inl fun K h=>h
   | (simp only[dX]; exact(lG f cs ds _).and.and)
 | [],_::_,_=>.inl fun K h=>h
 | _::_,[],_=>by
  refine .inl fun K h=>?_;simp only[dX]at h
theorem tg (kn:Nat)(v:AV)(f:List Int→AV×Prop):Det (fun K=>keyOf kn v fun k=>K (f k).1 (f k).2):=by
 unfold keyOf;split
 ·exact .inr ⟨_,_,fun _=>Iff.rfl⟩
 ·split
  ·exact(Det.yes _ _).and
  ·exact Det.fls
 ·exact Det.fls
theorem eY (ρ:Opd→AV)(d:Int)(x:Option Opd)(Φ:Int→Prop→(AV→Prop→Prop)→Prop)(h:∀ n p,Det (Φ n p)):Det (fun K=>lo_ ρ d x fun n p=>Φ n p K):=by
 unfold lo_;split
 ·exact h _ _
 ·split
  ·exact h _ _
  ·exact Det.fls
theorem rl (mx:Bool)(k:IntKind)(f:Int→AV×Prop):∀ (l:List AV) (a:Int),Det (fun K=>sY mx k a l fun n=>K (f n).1 (f n).2)
 | [],a=>.inr ⟨_,_,fun _=>Iff.rfl⟩
 | x::l,a=>by
  cases x <;> first
   | exact .inl fun K h=>h
   | (simp only[sY]; exact(rl mx k f l _).and)
theorem rm (T:Tbl)(R:Nat→Prop)(o:AOp)(ρ:Opd→AV)(s:Store):Det (fun K=>nop T R o ρ s K):=by
 cases o with
 | mov x=>exact Det.yes _ _
 | bin ex op x y=>exact uN ex op _ _ (fun v p=>(v,(ρ x).df∧(ρ y).df∧p))
 | eqs ne n x y=>
  simp only[nop];split
  ·exact(lG (fun b=>(_,_)) _ _ _).and
  ·exact Det.fls
 | sl x lo hi n=>
  simp only[nop];split
  ·exact(eY ρ _ lo _ fun l p=>eY ρ _ hi _ fun h q=>Det.yes _ _).and
  ·exact eY ρ _ lo _ fun l p=>eY ρ _ hi _ fun h q=>Det.yes _ _
  ·exact Det.fls
 | slo x lo hi n=>
  simp only[nop];split
  ·exact eY ρ _ lo _ fun l p=>eY ρ _ hi _ fun h q=>Det.yes _ _
  ·exact(eY ρ _ lo _ fun l p=>eY ρ _ hi _ fun h q=>Det.yes _ _).and
  ·exact Det.fls
 | mnl mx xs=>
  simp only[nop];split
  ·exact rl mx _ (fun n=>(_,_)) _ _
  ·exact Det.fls
 | sls x lo hi=>
  simp only[nop];split
  ·exact eY ρ _ lo _ fun l p=>eY ρ _ hi _ fun h q=>Det.yes _ _
  ·exact Det.fls
 | lkp kn ok z m key fr=>
  simp only[nop];split
  ·split
   ·exact(tg _ _ fun k=>(_,_)).and
   ·exact Det.fls
  ·exact Det.fls
 | _=>
  simp only[nop]
  (repeat' split) <;> first
   | exact Det.yes _ _
   | exact(Det.yes _ _).and
   | exact Det.fls
end Go.Proofs.YtdkaijofmigmbaaGreat.L
