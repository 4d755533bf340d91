import Derived.Test.YtdkaijofmigmbaaGreatB2z
import Derived.Test.YtdkaijofmigmbaaGreatB1z
import Derived.ProofKit
import Derived.OpenShut
import Derived.ShutString
import Derived.ChangeOld
import Derived.Below
import Derived.Carry
import Derived.SizedLaws
import Derived.Sort.AssemblyPlain
set_option linter.unusedVariables false
set_option linter.unusedSectionVars false
set_option linter.unusedSimpArgs false
namespace Go.Proofs.YtdkaijofmigmbaaGreat.D
open Go Go.Proofs.YtdkaijofmigmbaaGreat.L
variable [YP]
section
variable {π:Pi} {Fr:Store} {S:DSt} {s':Store} {RD:List Nat} {R:Nat→Prop}
theorem mc {RD L:List Nat}(h:lV RD L=true):∀ b∈L,RD.any (Nat.beq b)=false:=by
 induction L with
 | nil=>intro b hb; cases hb
 | cons c L ih=>
  simp only[lV,Bool.and_eq_true,aC,Bool.not_eq_true']at h;intro b hb;rcases List.mem_cons.1 hb with rfl | hb
  ·exact h.1
  ·exact ih h.2 b hb
theorem tH {P:Program}(hS:RelS π Fr S s'){f:FuncId}{sh:FSh}{F:dens sh.ts→Option (dens sh.out.ts)}(hdc:DC P f sh F)(hv:tE sh=true){ds:List DV}{as:List AV}(hr:RelVs π ds as){l:List Leaf}{nm:Nm}
  (hrd:iI (some S) S sh.ins sh.m ds []=some (l,nm)) {x:dens sh.ts} (htd:ct sh.ts l=some x) {y:dens sh.out.ts} (hF:F x=some y) :
  nm=[]∧AC P f as s' fun v s1=>∃ ds2 S2 π2,el S [] sh.out (ofDens sh.out.ts y)=some (ds2,S2)∧Ext π π2∧RelVs π2 ds2 [v]∧RelS π2 Fr S2 s1 ∧
   (∀ b o,S.get b=some o→∃ o',S2.get b=some o')∧(∀ b o l x,S.get b=some o→π b=some l→l.has x→s1 x=s' x):=by
 simp only[tE,Bool.and_eq_true,List.isEmpty_iff]at hv;obtain⟨⟨⟨v1,v2⟩,v3⟩,v4⟩:=hv;unfold iI at hrd;split at hrd
 ·rename_i l1 nm1 h1;rw[v1]at hrd;simp only[vk]at hrd;cases hc:(bO (aK nm1)&&(bO (nm1.map (·.1))&&(gz [] nm1&&(iH sh.m []&&bO (([]:List (Nat×OSh)).map (·.1))))))with
  | false=>rw[hc]at hrd; cases hrd
  | true=>
   rw[hc]at hrd;cases hrd;simp only[Bool.and_eq_true]at hc;have hnm:nm=[]:=by
    cases nm with
    | nil=>rfl
    | cons p q=>have:=hc.2.2.1; simp[gz]at this
   subst hnm;refine⟨rfl,?_⟩;obtain⟨_,avs,g2,g3⟩:=ft (π0:=fun _=>none) hS sh.ins.vals h1 hr;obtain⟨ds0,k1,k2⟩:=g3 [];have hl:=aM htd;have hin:In (fun _=>none) qc sh x avs qc:=by
    refine⟨ds0,[],?_,k2,⟨fun b o h=>by simp[DSt.get,fnd]at h,fun b1 b2 o1 o2 b' c1 n1 c2 n2 h=>by simp[DSt.get,fnd]at h,fun _ _ h=>h,fun b o b' c n h=>by simp[DSt.get,fnd]at h,fun _ _=>rfl⟩⟩;rw[hl];simp only[List.append_nil]at k1;simp only[fillSt,v1,List.append_nil,k1,da]
   let Q:AV→Store→Prop:=fun v s2=>∃ π1 d os,fillSt (fun k=>k) sh.out.st (ofDens sh.out.ts y)=some ([d],os)∧bO (sh.out.st.objs.map (·.1))=true∧RelV π1 d v∧RelS π1 qc ⟨sh.out.q,os⟩ s2 ∧
    ∀ b z,s2 b=some z→∃ k o l,fnd os k=some o∧π1 k=some l∧l.has b
   have hQ:AC P f avs qc Q:=DS (hdc.2 x y hF _ _ _ _ hin) fun v s1 ⟨π1,d,os,p1,p2,p3,p4,p5⟩=>by
    classical
    let s2:Store:=fun b=>if ∃ k o l,fnd os k=some o∧π1 k=some l∧l.has b then s1 b else none
    have yes:∀ b,(∃ k o l,fnd os k=some o∧π1 k=some l∧l.has b)→s2 b=s1 b:=fun b hk=>by show(if _ then _ else _)=_; rw[if_pos hk]
    have no:∀ b,¬ (∃ k o l,fnd os k=some o∧π1 k=some l∧l.has b)→s2 b=none:=fun b hk=>by show(if _ then _ else _)=_; rw[if_neg hk]
    refine⟨s2,fun b=>?_,π1,d,os,p1,p2,p3,⟨fun b o hb=>?_,p4.inj',fun b' x h=>(by cases h),fun b o l x hb hp hh=>rfl,p4.nx⟩,fun b z hb=>?_⟩
    ·by_cases hk:∃ k o l,fnd os k=some o∧π1 k=some l∧l.has b
     ·exact .inr (yes b hk)
     ·exact .inl (no b hk)
    ·exact(p4.obj b o hb).mono (Ext.refl _) fun l x hp hh=>yes x ⟨b,o,l,hb,hp,hh⟩
    ·by_cases hk:∃ k o l,fnd os k=some o∧π1 k=some l∧l.has b
     ·exact hk
     ·rw[no b hk]at hb; cases hb
   refine fE ?_ (xw hQ (fun w vs hs ha=>⟨by rw[ha.1,cw g2],fun j hj=>?_⟩) ?_ ?_)
   ·rintro v s1 ⟨s2,⟨π1,d,os,p1,p2,p3,p4,p5⟩,rfl,hnew⟩;have live:∀ k b,fnd ([]:Nm) k=some (some b)→∃ o,S.get b=some o:=fun k b h=>by simp[fnd]at h
    have hfr:cS π ([]:Nm) s'=s':=by
     funext b
     unfold cS;rw[if_neg];rintro⟨k,b2,l,h,_⟩
     simp[fnd]at h
    have join:∀ b,s2 b≠none→iu s' s2 b=s2 b:=fun b hb=>by
     unfold iu;cases hc:s2 b with
     | none=>exact absurd hc hb
     | some z=>rfl
    have h1:RelS π1 (cS π ([]:Nm) s') ⟨sh.out.q,os⟩ (iu s' s2):=by
     rw[hfr];refine⟨fun b o hb=>(p4.obj b o hb).mono (Ext.refl _) fun l x hp hh=>join x ((p4.obj b o hb).some'' hp hh),p4.inj',fun b' z h=>?_,fun b o l b' hb hp hh=>?_,p4.nx⟩
     ·unfold iu;cases hc:s2 b' with
      | none=>exact h
      | some u=>rw[hnew b' u hc]at h; cases h
     ·cases hc:s2 b' with
      | none=>exact absurd hc ((p4.obj b o hb).some'' hp hh)
      | some u=>exact hnew b' u hc
    obtain⟨ds2,S2,π2,a1,a2,a3,a4,a5,a6⟩:=dG hS live p1 p2 (aA p3) h1 (fun k hk=>by rw[v2]at hk; simp at hk);exact⟨ds2,S2,π2,a1,a2,a3,a4,fun b o hb=>a5 b o hb (by simp[aK]),fun b o l x hb hp hh=>a6 b o l x hb (by simp[aK]) hp hh⟩
   ·exact jV g2 (by rw[← cw g2]; exact hj) w _ hs (ha.2 j (by rw[← cw g2]; exact hj))
   ·rintro v s2 ⟨π1,d,os,p1,p2,p3,p4,p5⟩;unfold fillSt at p1;split at p1
    ·rename_i ds1 l1 hvs;split at p1
     ·cases p1;exact fT _ v3 hvs (aA p3) v (by simp)
     ·cases p1
    ·cases p1
   ·rintro v s2 ⟨π1,d,os,p1,p2,p3,p4,p5⟩ b z hb o o' w hO;obtain⟨k,ob,lc,q1,q2,qh⟩:=p5 b z hb;unfold fillSt at p1;split at p1
    ·rename_i ds1 l1 hvs;split at p1
     ·rename_i os1 hos;cases p1;obtain⟨T,t,yy,rfl,hg⟩:=pu v4 hos k ob (dA q1);rcases p4.obj k _ q1 with⟨q3,_⟩ | ⟨b2,c2,xs,q3,q4,q5,q6⟩
      ·rw[q2]at q3; cases q3; exact qh.elim
      ·rw[q2]at q3; cases q3;cases qh;rw[hb]at q5;cases q5;obtain⟨vs,e1,e2,e3,e4,e5,e6⟩:=hO;refine⟨vs,e1,e2,e3,e4,e5,fun i j hi hj=>⟨?_,(e6 i j hi hj).2⟩⟩;have hi':i < yy.length:=by rw[← q6.1]; exact hi
       have hcr:=q6.2 i hi';exact gF hg hcr _ (iF (by rw[dt hcr]; exact hj)) _ _ _ _ (e6 i j hi hj).1
     ·cases p1
    ·cases p1
 ·cases hrd
def am (P:Program)(T:List FEnt):Prop:=∀ ent∈T,DC P ent.f ent.sh ent.F∧(ent.sh.bw=true→tE ent.sh=true)
theorem aa {P:Program}:am P []:=fun e h=>by cases h
theorem tI {P:Program}{ent:FEnt}{T:List FEnt}(h:DC P ent.f ent.sh ent.F)(hv:(!ent.sh.bw||tE ent.sh)=true)(hT:am P T):am P (ent::T):=fun e he=>by
 rcases List.mem_cons.1 he with rfl | he
 ·exact⟨h,fun hb=>by rw[hb]at hv; simpa using hv⟩
 ·exact hT e he
theorem kG {P:Program}(hS:RelS π Fr S s')(hH:HR π S RD R){f:FuncId}{ds:List DV}{as:List AV}(hr:RelVs π ds as){α:Type}{k:DV→DSt→Option α}{r:α}:∀ {T:List FEnt} (hT:am P T) (h:ge RD T f ds S k=some r)
  {K:AV→Store→Prop} (hK:∀ d S1 a π1 s1,k d S1=some r→RelV π1 d a→Ext π π1→RelS π1 Fr S1 s1→HR π1 S1 RD R→K a s1),AC P f as s' fun v s1=>(∀ b,R b→s1 b=s' b)∧K v s1
 | [],hT,h,K,hK=>by simp[ge]at h
 | ent::T,hT,h,K,hK=>by
  simp only[ge]at h;have rest:=fun h=>kG hS hH (f:=f) hr (T:=T) (fun e he=>hT e (by simp[he])) h hK;cases hf:Nat.beq ent.f f with
  | false=>rw[hf]at h; exact rest h
  | true=>
   rw[hf]at h;simp only[cond_true]at h;obtain rfl:=aj.1 hf;split at h
   ·rename_i x nm hin;cases hn:lV RD (aK nm)with
    | false=>rw[hn]at h; cases h
    | true=>
     rw[hn]at h;simp only[cond_true]at h;cases hF:ent.F x with
     | none=>rw[hF]at h; exact rest h
     | some y=>
      rw[hF]at h;simp only[FK]at h;obtain⟨hdc,hbw⟩:=hT ent (by simp);unfold FJ at hin;cases hbwc:ent.sh.bw with
      | true=>
       rw[hbwc]at hin;simp only[DM]at hin;split at hin
       ·rename_i l nm1 hrd;split at hin
        ·rename_i x1 htd;cases hin;obtain⟨rfl,hac⟩:=tH hS hdc (hbw hbwc) hr hrd htd hF;refine fE ?_ hac;rintro v s1 ⟨ds2,S2,π2,a1,a2,a3,a4,a5,a6⟩;rw[a1]at h;split at h
         ·rename_i d2 S2' he;cases he;simp only[RelVs]at a3;obtain⟨a,as',e,a3,e2⟩:=a3;cases e;refine⟨fun b' hR=>?_,hK d2 S2 v π2 s1 h a3 a2 a4 ?_⟩
          ·obtain⟨b,l,h1,h2,h3⟩:=hH.of b' hR;obtain⟨o,ho,_⟩:=hH.live b h1;exact a6 b o l b' ho h2 h3
          ·refine hH.mono a2 fun b hb=>?_;obtain⟨o,ho,_⟩:=hH.live b hb;exact a5 b o ho
         ·cases h
        ·cases hin
       ·cases hin
      | false=>
      rw[hbwc]at hin;simp only[DM]at hin;split at hin
      ·rename_i l nm1 hrd;split at hin
       ·rename_i x1 htd;cases hin;have hl:=aM htd;obtain⟨q1,q2,q3,live,ds0,os0,q4,q5,q6⟩:=dN hS hrd hr (Fr1:=cS π nm s') (fun b' x h=>lj h) (fun k b lc x h1 h2 h3=>gW h1 h2 h3);refine fE ?_ (hdc.2 x y hF (cu π nm) (cS π nm s') as s' ⟨ds0,os0,by rw[hl]; exact q4,q5,q6⟩);rintro v s1 ⟨π1,d,os,p1,p2,p3,p4,p5⟩;obtain⟨ds2,S2,π2,a1,a2,a3,a4,a5,a6⟩:=dG hS live p1 p2 (aA p3) p4 (fun k hk b hb=>by rw[p5 k hk]; simp only[cu,hb,ez]);rw[a1]at h;split at h
        ·rename_i d2 S2' he;cases he;simp only[RelVs]at a3;obtain⟨a,as',e,a3,e2⟩:=a3;cases e;refine⟨fun b' hR=>?_,hK d2 S2 v π2 s1 h a3 a2 a4 ?_⟩
         ·obtain⟨b,l,h1,h2,h3⟩:=hH.of b' hR;obtain⟨o,ho,_⟩:=hH.live b h1;exact a6 b o l b' ho (fun hb=>by rw[mc hn b hb]at h1; cases h1) h2 h3
         ·refine hH.mono a2 fun b hb=>?_;obtain⟨o,ho,_⟩:=hH.live b hb;exact a5 b o ho (fun hb2=>by rw[mc hn b hb2]at hb; cases hb)
        ·cases h
       ·cases hin
      ·cases hin
   ·exact rest h
theorem vJ {π:Pi}{s1 s2:Store}{b:Nat}{o:DObj}(h:ObR π s1 b o)(he:∀ l x,π b=some l→l.has x→∀ y,s1 x=some y→s2 x=some y):ObR π s2 b o:=
 h.mono (Ext.refl _) fun l x hp hh=>by
  cases hs:s1 x with
  | none=>exact absurd hs (h.some'' hp hh)
  | some y=>exact he l x hp hh y hs
theorem pv {s F:Store}{b:Nat}{x:AObj}(h:s b=some x)(ha:lu s F):bW s F b=some x:=by
 have:F b=none:=by
  cases hf:F b with
  | none=>rfl
  | some y=>have:=ha b (by rw[hf]; simp); rw[h]at this; cases this
 unfold bW; rw[this]; exact h
theorem RelS.join {Fr F:Store}{S:DSt}{s':Store}(hS:RelS π Fr S s')(ha:lu s' F):RelS π (bW Fr F) S (bW s' F):=by
 refine⟨fun b o hb=>vJ (hS.obj b o hb) fun l x _ _ y hx=>pv hx ha,hS.inj',fun b' x hx=>?_,fun b o l b' hb hp hh=>?_,hS.nx⟩
 ·unfold bW at hx ⊢;cases hf:F b' with
  | some y=>rw[hf]at hx; exact hx
  | none=>rw[hf]at hx; exact hS.frm b' x hx
 ·have h1:=hS.out' b o l b' hb hp hh;have h2:F b'=none:=by
   cases hf:F b' with
   | none=>rfl
   | some y=>
    have h3:=ha b' (by rw[hf]; simp);exact absurd h3 ((hS.obj b o hb).some'' hp hh)
  unfold bW; rw[h2]; exact h1
theorem fU {P:Program}(hS:RelS π Fr S s')(hH:HR π S RD R){f:FuncId}{ds:List DV}{as:List AV}(hr:RelVs π ds as){α:Type}{k:DV→DSt→Option α}{r:α}{T:List FEnt}(hT:am P T)(h:ge RD T f ds S k=some r)
  {K:AV→Store→Prop} (hK:∀ d S1 a π1 s1,k d S1=some r→RelV π1 d a→Ext π π1→RelS π1 Fr S1 s1→HR π1 S1 RD R→K a s1):ACF P f as s' fun v s1=>(∀ b,R b→s1 b=s' b)∧K v s1:=by
 intro F hF;refine fE ?_ (kG (hS.join hF) hH hr hT h (K:=fun a s1=>∃ s2,lu s2 F∧s1=bW s2 F∧K a s2) ?_)
 ·rintro v s1 ⟨h1,s2,h2,h3,h4⟩;refine⟨s2,h2,h3,fun b hb=>?_,h4⟩;have h5:=h1 b hb;have hFb:F b=none:=by
   obtain⟨b0,l,h6,h7,h8⟩:=hH.of b hb;obtain⟨o,ho,_⟩:=hH.live b0 h6;cases hf:F b with
   | none=>rfl
   | some y=>exact absurd (hF b (by rw[hf]; simp)) ((hS.obj b0 o ho).some'' h7 h8)
  rw[h3]at h5;unfold bW at h5;rw[hFb]at h5;exact h5
 ·intro d S1 a π1 s1 g1 g2 g3 g4 g5
  let s2:Store:=fun b=>match F b with
   | some _=>none
   | none=>s1 b
  have e1:lu s2 F:=fun b hb=>by
   show(match F b with | some _=>none | none=>s1 b)=none;cases hf:F b with
   | some y=>rfl
   | none=>exact absurd hf hb
  have e2:s1=bW s2 F:=by
   funext b
   show s1 b=match F b with | some x=>some x | none=>s2 b;cases hf:F b with
   | some y=>exact g4.frm b y (by unfold bW; rw[hf])
   | none=>show s1 b=(match F b with | some _=>none | none=>s1 b); rw[hf]
  refine⟨s2,e1,e2,hK d S1 a π1 s2 g1 g2 g3 ⟨fun b o hb=>vJ (g4.obj b o hb) fun l b' hp hh x hx=>?_,g4.inj',fun b' x hx=>?_,fun b o l b' hb hp hh=>?_,g4.nx⟩ g5⟩
  ·have h1:=g4.out' b o l b' hb hp hh;have h2:F b'=none:=by
    cases hf:F b' with
    | none=>rfl
    | some y=>unfold bW at h1; rw[hf]at h1; cases h1
   show(match F b' with | some _=>none | none=>s1 b')=some x;rw[h2]; exact hx
  ·have hFn:F b'=none:=by
    cases hf:F b' with
    | none=>rfl
    | some y=>have:=hF b' (by rw[hf]; simp); rw[hS.frm b' x hx]at this; cases this
   show(match F b' with | some _=>none | none=>s1 b')=some x;rw[hFn];exact g4.frm b' x (by unfold bW; rw[hFn]; exact hx)
  ·have h1:=g4.out' b o l b' hb hp hh;cases hf:F b' with
   | none=>unfold bW at h1; rw[hf]at h1; exact h1
   | some y=>unfold bW at h1; rw[hf]at h1; cases h1
theorem bP {α:Type}:∀ {ob:List Bool} {k:Option α} {r:α},h9 ob k=some r→ob.all id=true∧k=some r
 | [],k,r,h=>⟨rfl,h⟩
 | b::l,k,r,h=>by
  simp only[h9,aq]at h;cases b with
  | false=>cases h
  | true=>obtain⟨h1,h2⟩:=bP (ob:=l) h; exact⟨by simpa using h1,h2⟩
theorem RelE.put {e:DEnv}{e':Env}(hE:RelE π e e'){d:DV}{a:AV}(hr:RelV π d a)(t:Option Nat):RelE π (e.put t d) (Env.put e' t a):=by
 cases t with
 | none=>exact hE
 | some t=>
  intro u x hu;simp only[DEnv.put,cF]at hu;simp only[Env.put,Env.set];split at hu
  ·rename_i e1; rw[if_pos e1]; cases hu; exact hr
  ·rename_i e1; rw[if_neg e1]; exact hE u x hu
theorem RelE.ext {π1:Pi}{e:DEnv}{e':Env}(hE:RelE π e e')(hx:Ext π π1):RelE π1 e e':=fun t d h=>(hE t d h).ext hx
theorem RelE.put1 {e:DEnv}{e':Env}(hE:RelE π e e'){t:Nat}{d:DV}(hr:RelV π d (e' t)):RelE π (e.put (some t) d) e':=by
 intro u x hu;simp only[DEnv.put,cF]at hu;split at hu
 ·rename_i e1; subst e1; cases hu; exact hr
 ·exact hE u x hu
def qJ (P:Program)(R:Nat→Prop)(o:AOper)(gd:Bool)(K:Env→Store→Prop)(e':Env)(s':Store):Prop:=match bA o.op with
 | true=>eff P R o.op (opd e') s' fun v s1=>K (Env.put e' o.dst v) s1
 | false=>nop [] R o.op (opd e') s' fun v ob=>ob∧K (Env.put e' o.dst (match gd with | true=>.whn true v | false=>v)) s'
theorem md {gd:Bool}{d:DV}{a:AV}(h:RelV π d a):RelV π (wv gd d) (match gd with | true=>.whn true a | false=>a):=by
 cases gd with
 | true=>simp only[wv,RelV]; exact⟨a,rfl,fun _=>h⟩
 | false=>exact h
theorem fw {P:Program}{o:AOper}{ann:rF}{gd:Bool}{α:Type}{k:DEnv→DSt→Option α}{r:α}{e:DEnv}{e':Env}(h:DN RD S e o ann gd k=some r)(hE:RelE π e e')(hS:RelS π Fr S s')(hH:HR π S RD R)
  {K:Env→Store→Prop} (hK:∀ e1 S1 π1 e1' s1,k e1 S1=some r→Ext π π1→RelE π1 e1 e1'→RelS π1 Fr S1 s1→HR π1 S1 RD R→K e1' s1):qJ P R o gd K e' s':=by
 have hρ:∀ x,RelV π (bX e x) (opd e' x):=dd hE;unfold qJ;unfold DN at h;cases he:bA o.op with
 | true=>
  rw[he]at h;simp only at h ⊢;split at h
  ·rename_i d S' ob hd;obtain⟨h1,h2⟩:=bP h;exact tA hS hH hρ hd h1 fun a π1 s1 g1 g2 g3 g4=>hK _ _ π1 _ _ h2 g2 ((hE.ext g2).put g1 _) g3 g4
  ·cases h
 | false=>
  rw[he]at h;simp only at h ⊢;split at h
  ·rename_i d ob hd;obtain⟨h1,h2⟩:=bP h;obtain⟨a,p,g1,g2,g3⟩:=tx hS hH hρ trivial hd h1;exact g3 _ ⟨g2,hK _ _ π _ _ h2 (Ext.refl _) (hE.put (md g1) _) hS hH⟩
  ·cases h
theorem nq:∀ (g:List (Int×Nat)) (n:Int),bK (fl g) [n]=(aZ g n).map fun x=>.ptr x 0
 | [],n=>rfl
 | (k,x)::g,n=>by
  have ih:=nq g n;by_cases e:k=n
  ·subst e; simp[fl,bK,aZ]
  ·have e1:bK (fl ((k,x)::g)) [n]=bK (fl g) [n]:=by simp[fl,bK,e]
   rw[e1,ih,aQ,if_neg e]
theorem nr:∀ (g:List (Int×Nat)) (n:Int) (y:Nat),aZ g n=none→mput (fl g) [n] (.ptr y 0)=fl (g++[(n,y)])
 | [],n,y,_=>rfl
 | (k,x)::g,n,y,h=>by
  rw[aQ]at h;by_cases e:k=n
  ·subst e; simp at h
  ·rw[if_neg e]at h;have ih:=nr g n y h;have e2:¬ ([k]:List Int)=[n]:=fun h=>e (by simpa using h);show(if([k]:List Int)=[n]then _ else _)=_;rw[if_neg e2];show([k],AV.ptr x 0)::mput (fl g) [n] (.ptr y 0)=_;rw[ih]; rfl
theorem rR {p nb nbL:Nat}{n:Int}{q:Nat}{g:List (Int×Nat)}{c m:Nat}(hx:Ext π (addP π q (.pol (g++[(n,nbL)]))))(hp:π p=some (.pol g))(hn:aZ g n=none)(hb:π nb=some (.real nbL c m)){d:DV}{a:AV}(h:RelV π d a):
  RelV (addP π q (.pol (g++[(n,nbL)]))) (pf p q nb n d) a:=by
 cases d with
 | pel b key o=>
  simp only[pf];cases hc:Nat.beq b p with
  | false=>exact h.ext hx
  | true=>
   obtain rfl:=aj.1 hc;simp only[RelV]at h;obtain⟨g',x,h1,h2,rfl⟩:=h;rw[hp]at h1; cases h1;simp only[cond_true,RelV];exact⟨_,x,addP_same _ _ _,by rw[fp,h2]; rfl,rfl⟩
 | ptr b o=>
  simp only[pf];cases hc:Nat.beq b nb with
  | false=>exact h.ext hx
  | true=>
   obtain rfl:=aj.1 hc;simp only[RelV]at h;obtain⟨b',c',n',h1,rfl⟩:=h;rw[hb]at h1; cases h1;simp only[cond_true,RelV];exact⟨_,nbL,addP_same _ _ _,by rw[fp,hn]; simp[aZ],rfl⟩
 | _=>exact h.ext hx
theorem jn {p nb nbL:Nat}{n:Int}{q:Nat}{g:List (Int×Nat)}{c m:Nat}(hx:Ext π (addP π q (.pol (g++[(n,nbL)]))))(hp:π p=some (.pol g))(hn:aZ g n=none)(hb:π nb=some (.real nbL c m)):∀ {ds:List DV} {as:List AV},RelVs π ds as →
  RelVs (addP π q (.pol (g++[(n,nbL)]))) (ds.map (pf p q nb n)) as
 | [],as,h=>by simp only[RelVs]at h; subst h; exact RelVs_nil
 | d::ds,as,h=>by
  simp only[RelVs]at h;obtain⟨a,as',rfl,h1,h2⟩:=h;exact RelVs_cons (rR hx hp hn hb h1) (jn hx hp hn hb h2)
theorem aV {α β:Type}(f:α→β):∀ (l:List (Nat×α)) (k:Nat),fnd (ba f l) k=(fnd l k).map f
 | [],k=>rfl
 | (c,x)::l,k=>by
  simp only[ba,fnd,aV f l k];cases Nat.beq c k <;> rfl
theorem vK {p nb nbL:Nat}{n:Int}{q:Nat}{g:List (Int×Nat)}{c m:Nat}(hx:Ext π (addP π q (.pol (g++[(n,nbL)]))))(hp:π p=some (.pol g))(hn:aZ g n=none)(hb:π nb=some (.real nbL c m)){e:DEnv}{e':Env}(hE:RelE π e e'):
  RelE (addP π q (.pol (g++[(n,nbL)]))) (ba (xh p q nb n) e) e':=by
 intro u d hu;rw[aV]at hu;cases hg:fnd e u with
 | none=>rw[hg]at hu; cases hu
 | some d0=>
  rw[hg]at hu;cases hu;have hd:=hE u d0 hg;cases d0 with
  | agg cs=>
   simp only[xh];simp only[RelV]at hd ⊢;obtain⟨as,e1,hd⟩:=hd;exact⟨as,e1,jn hx hp hn hb hd⟩
  | tup cs=>
   simp only[xh];simp only[RelV]at hd ⊢;obtain⟨as,e1,hd⟩:=hd;exact⟨as,e1,jn hx hp hn hb hd⟩
  | _=>exact rR hx hp hn hb hd
theorem qK (hS:RelS π Fr S s'){b p nb:Nat}{n:Int}{t:Ty}{es:List (Int×t.den)}{x:t.den}{cs:List DV}{bL cb nn nbL c m:Nat}{g:List (Int×Nat)}(hb:S.get b=some (.pmap p))(hp:S.get p=some (.pool t es))(hnb:S.get nb=some (.box cs))
  (hx:cf none t cs=some x) (hno:aZ es n=none) (hpb:π b=some (.real bL cb nn)) (hpp:π p=some (.pol g)) (hpn:π nb=some (.real nbL c m)) :
  RelS (addP π S.nx (.pol (g++[(n,nbL)]))) Fr (m4 S b p nb n t es x) (upd s' bL (.imap 0 (fl (g++[(n,nbL)])) none)):=by
 have hxt:Ext π (addP π S.nx (.pol (g++[(n,nbL)]))):=aW (hS.nx _ (Nat.le_refl _)) _;obtain⟨g2,hg2,hP⟩:=hS.obj _ _ hp;rw[hpp]at hg2; cases hg2;have hgn:aZ g n=none:=by
  have:=dV n hP.keys;rw[hno]at this;cases hc:aZ g n with
  | none=>rfl
  | some y=>rw[hc]at this; cases this
 obtain⟨b2,c2,n2,as,hp2,hs2,hr2⟩:=hS.obj _ _ hnb;rw[hpn]at hp2; cases hp2;have hbp:b≠p:=fun e=>by rw[e,hp]at hb; cases hb
 have hbn:b≠nb:=fun e=>by rw[e,hnb]at hb; cases hb
 have hpn':p≠nb:=fun e=>by rw[e,hnb]at hp; cases hp
 have lt:∀ {c o},S.get c=some o→c≠S.nx:=fun {c o} h=>by
  obtain⟨l,hl⟩:=(hS.obj _ _ h).loc;exact hS.lt hl
 have get:∀ c,(m4 S b p nb n t es x).get c=if c=S.nx then some (.pool t (es++[(n,x)]))else if c=b then some (.pmap S.nx)else(if c=nb then none else if c=p then none else S.get c).map (DO p S.nx nb n):=fun c=>by
  show fnd (ju (ju (ba _ (fe (fe S.m p) nb)) b _) S.nx _) c=_;rw[cF,cF,aV,cG,cG]; rfl
 have inv:∀ c o,(m4 S b p nb n t es x).get c=some o→(c=S.nx∧o = .pool t (es++[(n,x)]))∨(c≠S.nx∧c=b∧o = .pmap S.nx)∨(c≠S.nx∧c≠b∧c≠nb∧c≠p∧∃ o0,S.get c=some o0∧o=DO p S.nx nb n o0):=fun c o h=>by
  rw[get]at h;split at h
  ·rename_i e; cases h; exact .inl ⟨e,rfl⟩
  ·rename_i e1;split at h
   ·rename_i e2; cases h; exact .inr (.inl ⟨e1,e2,rfl⟩)
   ·rename_i e2;split at h
    ·cases h
    ·rename_i e3;split at h
     ·cases h
     ·rename_i e4;cases hc:S.get c with
      | none=>rw[hc]at h; cases h
      | some o0=>rw[hc]at h; cases h; exact .inr (.inr ⟨e1,e2,e3,e4,o0,rfl,rfl⟩)
 have live:∀ c o,(m4 S b p nb n t es x).get c=some o→c≠S.nx→c≠p∧c≠nb∧∃ o0,S.get c=some o0:=fun c o h hne=>by
  rcases inv c o h with⟨e,_⟩ | ⟨_,e,_⟩ | ⟨_,_,e3,e4,o0,h0,_⟩
  ·exact absurd e hne
  ·subst e; exact⟨hbp,hbn,_,hb⟩
  ·exact⟨e4,e3,o0,h0⟩
 have nhas:∀ y,Loc.has (.pol (g++[(n,nbL)])) y→Loc.has (.pol g) y∨y=nbL:=fun y ⟨k,hk⟩=>by
  rw[fp]at hk;split at hk
  ·exact .inl ⟨k,hk⟩
  ·rw[aQ]at hk;split at hk
   ·cases hk; exact .inr rfl
   ·simp[aZ]at hk
 have nn':∀ y,Loc.has (.pol (g++[(n,nbL)])) y→y≠bL:=fun y hy e=>by
  subst e;rcases nhas _ hy with h | h
  ·exact hbp (hS.inj' _ _ _ _ _ _ _ hb hp hpb hpp rfl h)
  ·exact hbn (hS.inj' _ _ _ _ _ _ _ hb hnb hpb hpn rfl h)
 have apart:∀ c o l y,(m4 S b p nb n t es x).get c=some o→c≠S.nx→π c=some l→l.has y→¬ Loc.has (.pol (g++[(n,nbL)])) y:=fun c o l y h hne hl hh hy=>by
  obtain⟨e1,e2,o0,h0⟩:=live c o h hne;rcases nhas _ hy with h | h
  ·exact e1 (hS.inj' _ _ _ _ _ _ _ h0 hp hl hpp hh h)
  ·exact e2 (hS.inj' _ _ _ _ _ _ _ h0 hnb hl hpn hh h)
 refine⟨fun c o h=>?_,fun c1 c2 o1 o2 l1 l2 y h1 h2 p1 p2 q1 q2=>?_,fun y z h=>?_,fun c o l y h hl hh=>?_,fun c h=>?_⟩
 ·rcases inv c o h with⟨rfl,rfl⟩ | ⟨hne,rfl,rfl⟩ | ⟨hne,e2,e3,e4,o0,h0,rfl⟩
  ·refine⟨_,addP_same _ _ _,by rw[List.map_append,List.map_append,hP.keys]; rfl,?_,fun k y hk=>?_,fun k1 k2 y h1 h2=>?_⟩
   ·rw[List.map_append,List.nodup_append];refine⟨hP.nd,by simp,fun a ha b hb e=>?_⟩;simp only[List.map_cons,List.map_nil,List.mem_singleton]at hb;rw[e,hb]at ha;exact nj hgn ha
   ·have hyb:=nn' y ⟨k,hk⟩;rw[ay _ _ hyb];rw[fp]at hk ⊢;have e5:=dV k hP.keys;split at hk
    ·rename_i hsome;rw[e5,hsome];simp only[if_true];exact hP.ex k y hk
    ·rename_i hsome;rw[aQ]at hk;split at hk
     ·rename_i e6;cases hk;rw[e5,if_neg hsome,aQ,if_pos e6];exact⟨as,hs2,bk hx hr2⟩
     ·simp[aZ]at hk
   ·have sep:∀ k y,aZ g k=some y→y≠nbL:=fun k y hk e=>by
     subst e;exact hpn' (hS.inj' _ _ _ _ _ _ _ hp hnb hpp hpn ⟨k,hk⟩ rfl)
    have inv2:∀ k,aZ (g++[(n,nbL)]) k=some y→aZ g k=some y∨(k=n∧y=nbL):=fun k hk=>by
     rw[fp]at hk;split at hk
     ·exact .inl hk
     ·rw[aQ]at hk;split at hk
      ·rename_i e; cases hk; exact .inr ⟨e.symm,rfl⟩
      ·simp[aZ]at hk
    rcases inv2 k1 h1 with a1 | ⟨a1,b1⟩ <;> rcases inv2 k2 h2 with a2 | ⟨a2,b2⟩
    ·exact hP.dj k1 k2 y a1 a2
    ·exact absurd b2 (sep _ _ a1)
    ·exact absurd b1 (sep _ _ a2)
    ·rw[a1,a2]
  ·exact⟨bL,cb,nn,_,hxt _ _ hpb,addP_same _ _ _,upd_same _ _ _⟩
  ·have hO:=hS.obj _ _ h0;have same:∀ l y,π c=some l→l.has y→upd s' bL (.imap 0 (fl (g++[(n,nbL)])) none) y=s' y:=fun l y hl hh=>ay _ _ fun e=>by
    subst e;exact e2 (hS.inj' _ _ _ _ _ _ _ h0 hb hl hpb hh rfl)
   cases o0 with
   | box ds=>
    obtain⟨b3,c3,n3,as3,k1,k2,k3⟩:=hO;exact⟨b3,c3,n3,as3,hxt _ _ k1,(same _ _ k1 rfl).trans k2,jn hxt hpp hgn hpn k3⟩
   | _=>exact hO.mono hxt same
 ·by_cases e1:c1=S.nx <;> by_cases e2:c2=S.nx
  ·rw[e1,e2]
  ·rw[e1,addP_same]at p1; cases p1;rw[addP_ne _ _ e2]at p2;exact absurd q1 (apart _ _ _ _ h2 e2 p2 q2)
  ·rw[e2,addP_same]at p2; cases p2;rw[addP_ne _ _ e1]at p1;exact absurd q2 (apart _ _ _ _ h1 e1 p1 q1)
  ·rw[addP_ne _ _ e1]at p1;rw[addP_ne _ _ e2]at p2;obtain⟨_,_,o3,h3⟩:=live _ _ h1 e1;obtain⟨_,_,o4,h4⟩:=live _ _ h2 e2;exact hS.inj' _ _ _ _ _ _ _ h3 h4 p1 p2 q1 q2
 ·have:y≠bL:=fun e=>by subst e; rw[hS.out' _ _ _ _ hb hpb rfl]at h; cases h
  rw[ay _ _ this]; exact hS.frm _ _ h
 ·by_cases e1:c=S.nx
  ·rw[e1,addP_same]at hl; cases hl;rcases nhas _ hh with h | h
   ·exact hS.out' _ _ _ _ hp hpp h
   ·exact hS.out' _ _ _ _ hnb hpn h
  ·rw[addP_ne _ _ e1]at hl;obtain⟨_,_,o3,h3⟩:=live _ _ h e1;exact hS.out' _ _ _ _ h3 hl hh
 ·have h':S.nx+1≤c:=h;rw[addP_ne _ _ (by omega)]; exact hS.nx _ (by omega)
theorem me {P:Program}{T:List FEnt}(hT:am P T){o:AOper}{ann:rF}{gd:Bool}{α:Type}{k:DEnv→DSt→Option α}{r:α}{e:DEnv}{e':Env}(h:xi RD T S e o ann gd k=some r)(hE:RelE π e e')(hS:RelS π Fr S s')(hH:HR π S RD R)
  {K:Env→Store→Prop} (hK:∀ e1 S1 π1 e1' s1,k e1 S1=some r→Ext π π1→RelE π1 e1 e1'→RelS π1 Fr S1 s1→HR π1 S1 RD R→K e1' s1):qJ P R o gd K e' s':=by
 have hρ:∀ x,RelV π (bX e x) (opd e' x):=dd hE;have call:∀ (f:FuncId) (ds:List DV) (as:List AV),RelVs π ds as→ge RD T f ds S (fun d S'=>k (e.put o.dst d) S')=some r→ACF P f as s' fun v s1=>(∀ b,R b→s1 b=s' b)∧K (Env.put e' o.dst v) s1:=by
  intro f ds as hr h2;exact fU hS hH hr hT h2 (K:=fun v s1=>K (Env.put e' o.dst v) s1) fun d S1 a π1 s1 g1 g2 g3 g4 g5=>hK _ _ π1 _ _ g1 g3 ((hE.ext g3).put g2 _) g4 g5
 unfold xi at h;unfold qJ;split at h
 ·rename_i f xs ho;obtain⟨h1,h2⟩:=bP h;obtain⟨d1,d2⟩:=cQ hρ h1;rw[ho];exact⟨d2,call f _ _ d1 h2⟩
 ·rename_i g xs ho;split at h
  ·rename_i f caps hg;obtain⟨h1,h2⟩:=bP h;obtain⟨o1,o2⟩:=ah h1;have v:=bc (hρ g) o1;rw[hg]at v;simp only[RelV]at v;obtain⟨as,e1,v⟩:=v;obtain⟨d1,d2⟩:=cQ hρ o2;rw[ho];refine⟨bj (hρ g) o1,d2,?_⟩;rw[e1];cases hne:Nat.beq f YB with
   | false=>
    rw[hne]at h2;simp only[ew hne];exact⟨fun e=>by rw[e]at hne; exact absurd hne (by decide),call f _ _ (du d1 v) h2⟩
   | true=>
    rw[hne]at h2;obtain rfl:=aj.1 hne;simp only[fnA_yb];exact call YB _ _ (du d1 (aA (by simp only[RelV]; exact⟨as,fnA_yb.symm,v⟩))) h2
  ·cases h
 ·rename_i c x y ho;split at h
  ·rename_i g hg;obtain⟨h1,h2⟩:=bP h;have e1:=cN hg (bc (hρ c) h1);have fc:=bj (hρ c) h1;rw[ho];simp only[bA,nop,e1];cases g with
   | true=>
    simp only[cond_true]at h2 ⊢;obtain⟨h3,h4⟩:=bP h2;exact⟨⟨fc,fun _=>bj (hρ x) h3,fun h=>(by cases h)⟩,hK _ _ π _ _ h4 (Ext.refl _) (hE.put (md (bc (hρ x) h3)) _) hS hH⟩
   | false=>
    simp only[cond_false]at h2 ⊢;obtain⟨h3,h4⟩:=bP h2;exact⟨⟨fc,fun h=>(by cases h),fun _=>bj (hρ y) h3⟩,hK _ _ π _ _ h4 (Ext.refl _) (hE.put (md (bc (hρ y) h3)) _) hS hH⟩
  ·cases h
 ·rename_i ne x ho;split at h
  ·rename_i b hb;obtain⟨h1,h2⟩:=bP h;have hv:=bc (hρ x) h1;rw[ho];refine⟨bj (hρ x) h1,?_⟩;have val:∀ b,RelV π (tv ne b) (.bool (if ne then !b else b)):=fun b=>by cases ne <;> exact aE _
   have go:∀ b,k (e.put o.dst (tv ne b)) S=some r→K (Env.put e' o.dst (.bool (if ne then !b else b))) s':=fun b hk=>hK _ _ π _ _ hk (Ext.refl _) (hE.put (val b) _) hS hH;have both:b=true→∀ b,k (e.put o.dst (tv ne b)) S=some r:=fun e1 b'=>by
    subst e1;simp only[vn]at h2;split at h2
    ·rename_i he; cases b' with
     | true=>rw[he]; exact h2
     | false=>exact h2
    ·cases h2
   have kf:k (e.put o.dst (tv ne false)) S=some r:=by
    cases b with
    | true=>exact both rfl false
    | false=>exact h2
   unfold FM at hb;split at hb
   ·rename_i t l hx;cases hb;rw[hx]at hv;simp only[RelV,CR]at hv;rcases hv with⟨e1,rfl⟩ | ⟨get,e1,hv⟩
    ·simp only[List.cons.injEq,and_true]at e1;rw[e1];exact fun b=>go b (both (by simp) b)
    ·simp only[List.cons.injEq,and_true]at e1;rw[e1];intro b' hb';cases b' with
     | false=>exact go false kf
     | true=>exact go true (both (by simpa using hb' rfl) true)
   ·rename_i b0 hx;split at hb
    ·rename_i T0 t0 l hg;cases hb;rw[hx]at hv;simp only[RelV]at hv;rcases hv with⟨b',c,n,hp,e1⟩ | ⟨hp,e1⟩
     ·rw[e1]; exact go false kf
     ·rw[e1];rcases hS.obj _ _ hg with⟨q1,rfl⟩ | ⟨b2,c2,xs,hp2,_⟩
      ·exact fun b=>go b (both (by simp) b)
      ·rw[hp]at hp2; cases hp2
    ·cases hb
   ·rename_i hx;cases hb;rw[hx]at hv;simp only[RelV]at hv;rw[hv];exact fun b=>go b (both rfl b)
   ·cases hb
  ·cases h
 ·rename_i kn ok z m key fr ho;split at h
  ·rename_i b hm;split at h
   ·rename_i p hb;split at h
    ·rename_i n t es hk hp;cases hc:(!fr&&(Nat.beq kn 0&&qE z))with
     | false=>rw[hc]at h; cases h
     | true=>
      rw[hc]at h;simp only[cond_true]at h;simp only[Bool.and_eq_true,Bool.not_eq_true',aj]at hc;obtain⟨rfl,rfl,hz⟩:=hc;obtain rfl:z = .nilp:=by cases z <;> simp[qE]at hz; rfl
      obtain⟨h1,h2⟩:=bP h;obtain⟨o1,o2⟩:=ah h1;have vm:=bc (hρ m) o1;rw[hm]at vm;simp only[RelV]at vm;obtain⟨b',c,nn,hpb,em⟩:=vm;obtain⟨b2,c2,n2,g,hp2,hpp,hs⟩:=hS.obj _ _ hb;rw[hpb]at hp2; cases hp2;obtain⟨g2,hg2,hP⟩:=hS.obj _ _ hp;rw[hpp]at hg2; cases hg2;rw[ho];simp only[bA,nop,em,hs];refine⟨trivial,gB hk (bc (hρ key) o2) _ ?_⟩;rw[nq];have e5:=dV n hP.keys;cases hg:aZ g n with
      | none=>
       rw[hg]at e5;rw[e5]at h2;refine⟨⟨bj (hρ m) o1,bj (hρ key) o2,fun h=>by cases h⟩,hK _ _ π _ _ h2 (Ext.refl _) (hE.put (md ?_) _) hS hH⟩;cases ok with
       | true=>
        simp only[FL,if_true,RelV];exact⟨_,rfl,RelVs_cons (by simp only[RelV]; rfl) (aA (aE _))⟩
       | false=>simp only[FL,RelV]; rfl
      | some x=>
       rw[hg]at e5;rw[e5]at h2;have rp:RelV π (.pel p n 0) (.ptr x 0):=by simp only[RelV]; exact⟨g,x,hpp,hg,rfl⟩
       refine⟨⟨bj (hρ m) o1,bj (hρ key) o2,fun h=>by cases h⟩,hK _ _ π _ _ h2 (Ext.refl _) (hE.put (md ?_) _) hS hH⟩;cases ok with
       | true=>
        simp only[FL,if_true,RelV];exact⟨_,rfl,RelVs_cons rp (aA (aE _))⟩
       | false=>exact rp
    ·cases h
   ·exact fw h hE hS hH hK
  ·exact fw h hE hS hH hK
 ·rename_i kn m key v ho;split at h
  ·rename_i b hm;split at h
   ·rename_i p hb;split at h
    ·rename_i n t es nb hk hp hv;split at h
     ·rename_i cs hnb;split at h
      ·rename_i x hx;cases hc:(Nat.beq kn 0&&(aC RD b&&(aC RD p&&aC RD nb)))with
       | false=>rw[hc]at h; cases h
       | true=>
        rw[hc]at h;simp only[cond_true]at h;simp only[Bool.and_eq_true,aj]at hc;obtain⟨rfl,hn1,hn2,hn3⟩:=hc;obtain⟨h1,h2⟩:=bP h;obtain⟨o1,h1⟩:=ah h1;obtain⟨o2,h1⟩:=ah h1;obtain⟨o3,h1⟩:=ah h1;simp only[List.all_cons,List.all_nil,id,Bool.and_true,Bool.not_eq_true']at h1;have hno:aZ es n=none:=by
         cases hq:aZ es n with
         | none=>rfl
         | some y=>rw[hq]at h1; cases h1
        have vm:=bc (hρ m) o1;rw[hm]at vm;simp only[RelV]at vm;obtain⟨b',c,nn,hpb,em⟩:=vm;obtain⟨b2,c2,n2,g,hp2,hpp,hs⟩:=hS.obj _ _ hb;rw[hpb]at hp2; cases hp2;have vv:=bc (hρ v) o3;rw[hv]at vv;simp only[RelV]at vv;obtain⟨nbL,c3,n3,hpn,ev⟩:=vv;have hgn:aZ g n=none:=by
         obtain⟨g2,hg2,hP⟩:=hS.obj _ _ hp;rw[hpp]at hg2; cases hg2;have:=dV n hP.keys;rw[hno]at this;cases hq:aZ g n with
         | none=>rfl
         | some y=>rw[hq]at this; cases this
        rw[ho];refine⟨bj (hρ m) o1,bj (hρ key) o2,bj (hρ v) o3,?_⟩;simp only[em,hs];refine⟨trivial,cI hS hH hb hn1 hpb,gB hk (bc (hρ key) o2) _ ?_⟩;rw[ev,nr g n nbL hgn];have hxt:Ext π (addP π S.nx (.pol (g++[(n,nbL)]))):=aW (hS.nx _ (Nat.le_refl _)) _;refine hK _ _ (addP π S.nx (.pol (g++[(n,nbL)]))) _ _ h2 hxt ((vK hxt hpp hgn hpn hE).put (by simp only[RelV]) _) (qK hS hb hp hnb hx hno hpb hpp hpn) (hH.mono hxt fun b4 h4=>?_);obtain⟨o4,ho4,_⟩:=hH.live b4 h4;have ne:∀ q,aC RD q=true→b4≠q:=fun q hq e=>by subst e; simp[aC,h4]at hq
        show ∃ o,fnd (ju (ju (ba _ (fe (fe S.m p) nb)) b _) S.nx _) b4=some o;rw[cF,cF,aV,cG,cG,if_neg (ne b hn1),if_neg (ne nb hn3),if_neg (ne p hn2)];split
        ·exact⟨_,rfl⟩
        ·rw[show fnd S.m b4=some o4 from ho4]; exact⟨_,rfl⟩
      ·cases h
     ·cases h
    ·cases h
   ·exact fw h hE hS hH hK
  ·exact fw h hE hS hH hK
 ·exact fw h hE hS hH hK
theorem ns {P:Program}{T:List FEnt}(hT:am P T){o:AOper}{ann:rF}{α:Type}{k:DEnv→DSt→Option α}{r:α}{e:DEnv}{e':Env}(h:Jt RD T o ann k e S=some r)(hE:RelE π e e')(hS:RelS π Fr S s')(hH:HR π S RD R)
  {K:Env→Store→Prop} (hK:∀ e1 S1 π1 e1' s1,k e1 S1=some r→Ext π π1→RelE π1 e1 e1'→RelS π1 Fr S1 s1→HR π1 S1 RD R→K e1' s1):xo P [] R o K e' s':=by
 have skip:∀ (e0:DEnv),RelE π e0 e'→k (e0.put o.dst (rG o)) S=some r→(match bA o.op with
   | true=>K (Env.put e' o.dst .undef) s'
   | false=>K (Env.put e' o.dst (.whn false .undef)) s'):=fun e0 h0 hk=>by
  unfold rG at hk;cases he:bA o.op with
  | true=>rw[he]at hk; exact hK _ _ π _ _ hk (Ext.refl _) (h0.put (by simp only[RelV]) _) hS hH
  | false=>rw[he]at hk; exact hK _ _ π _ _ hk (Ext.refl _) (h0.put (by simp only[RelV]; exact⟨_,rfl,fun hc=>by cases hc⟩) _) hS hH
 have no:∀ (g:Nat) (want:Bool),o.grd=some (g,want)→ga want (e' g)=some false→(match bA o.op with
   | true=>K (Env.put e' o.dst .undef) s'
   | false=>K (Env.put e' o.dst (.whn false .undef)) s')→xo P [] R o K e' s':=fun g want hg hq hk=>by
  unfold xo;rw[hg];simp only[hq];cases he:bA o.op with
  | true=>rw[he]at hk; exact⟨fun h=>(by cases h),fun _=>hk⟩
  | false=>rw[he]at hk; exact hk
 have yes:∀ (g:Nat) (want:Bool),o.grd=some (g,want)→ga want (e' g)=some true→qJ P R o true K e' s'→xo P [] R o K e' s':=fun g want hg hq hk=>by
  unfold xo;rw[hg];simp only[hq];unfold qJ at hk;cases he:bA o.op with
  | true=>rw[he]at hk; exact⟨fun _=>hk,fun h=>(by cases h)⟩
  | false=>rw[he]at hk; exact hk
 have br:∀ (g:Nat) (want b:Bool) (e0:DEnv),o.grd=some (g,want)→ga want (e' g)=some (gb want b)→RelE π e0 e'→EV RD T o ann k e0 S want b=some r→xo P [] R o K e' s':=fun g want b e0 hg hq h0 hk=>by
  unfold EV at hk;cases hb:gb want b with
  | true=>rw[hb]at hk hq; exact yes g want hg hq (me hT hk h0 hS hH hK)
  | false=>rw[hb]at hk hq; exact no g want hg hq (skip e0 h0 hk)
 unfold Jt at h;split at h
 ·rename_i hg;have:=me hT h hE hS hH hK;unfold qJ at this;unfold xo;rw[hg];simp only;cases he:bA o.op with
  | true=>rw[he]at this; exact this
  | false=>rw[he]at this; exact this
 ·rename_i g want hg;have hr:RelV π (e.get g) (e' g):=dd hE (.t g);split at h
  ·rename_i c hc;rw[hc]at hr;have e1:=cN (d:=.v ⟨.bool,c⟩) rfl hr;cases c with
   | true=>exact br g want true _ hg (by rw[e1]; rfl) (hE.put1 (by rw[e1]; exact aE _)) h
   | false=>exact br g want false _ hg (by rw[e1]; rfl) (hE.put1 (by rw[e1]; exact aE _)) h
  ·rename_i c hc;rw[hc]at hr;simp only[RelV]at hr;obtain⟨a',e1,hr⟩:=hr;have e2:=hr trivial;simp only[CR,List.cons.injEq,and_true]at e2;rw[e2]at e1;cases c with
   | true=>exact br g want true _ hg (by rw[e1]; rfl) (hE.put1 (by rw[e1]; simp only[RelV]; exact⟨_,rfl,fun _=>aE _⟩)) h
   | false=>exact br g want false _ hg (by rw[e1]; rfl) (hE.put1 (by rw[e1]; simp only[RelV]; exact⟨_,rfl,fun _=>aE _⟩)) h
  ·rename_i d hc;rw[hc]at hr;simp only[RelV]at hr;obtain⟨a',e1,hr⟩:=hr;exact no g want hg (by rw[e1]; rfl) (skip e hE h)
  ·cases h
end
end Go.Proofs.YtdkaijofmigmbaaGreat.D

set_option linter.unusedVariables false
set_option linter.unusedSectionVars false
set_option linter.unusedSimpArgs false
namespace Go.Proofs.YtdkaijofmigmbaaGreat.D
open Go Go.Proofs.YtdkaijofmigmbaaGreat.L
variable [YP]
section
variable {π:Pi} {Fr:Store} {S:DSt} {s':Store}
theorem jX {b:Nat}{x:AObj}{D:List AV}{a:AV}(h:a.frz=true):fv b x D a=a:=by
 cases a <;> simp[AV.frz]at h <;> rfl
theorem zH {b:Nat}{x:AObj}{D:List AV}{t:Ty}{y:t.den}{cs:List AV}(h:CR t y cs):cs.map (fv b x D)=cs:=by
 have:∀ (l:List AV),(∀ a∈l,a.frz=true)→l.map (fv b x D)=l:=fun l hl=>by
  induction l with
  | nil=>rfl
  | cons a l ih=>rw[List.map_cons,jX (hl a (by simp)),ih fun a ha=>hl a (by simp[ha])]
 exact this cs (bF h)
theorem zI {b:Nat}{x:AObj}{D:List AV}{ag:Bool}{t:Ty}{y:t.den}{a:AV}(h:MR ag t y a):fv b x D a=a:=by
 cases ag with
 | true=>obtain⟨cs,rfl,_⟩:=h; rfl
 | false=>exact jX (bF h a (by simp))
theorem qL {b:Nat}{x:AObj}{D:List AV}{ag:Bool}{t:Ty}:∀ {es:List (List Int×t.den)} {es':List (List Int×AV)},na ag t es es'→∀ p∈es',fv b x D p.2=p.2
 | [],_,h,p,hp=>by simp only[na]at h; subst h; cases hp
 | (k,y)::l,_,h,p,hp=>by
  simp only[na]at h;obtain⟨a,l',rfl,h1,h⟩:=h;rcases List.mem_cons.1 hp with rfl | hp
  ·exact zI h1
  ·exact qL h p hp
theorem pw:∀ {es:List (List Int×AV)} {k:List Int} {v:AV} {p:List Int×AV},p∈mput es k v→p∈es∨p.2=v
 | [],k,v,p,h=>by simp[mput]at h; subst h; exact .inr rfl
 | (k',u)::l,k,v,p,h=>by
  simp only[mput]at h;split at h
  ·rcases List.mem_cons.1 h with rfl | h
   ·exact .inr rfl
   ·exact .inl (by simp[h])
  ·rcases List.mem_cons.1 h with rfl | h
   ·exact .inl (by simp)
   ·rcases pw h with h | h
    ·exact .inl (by simp[h])
    ·exact .inr h
theorem jY {b:Nat}{x:AObj}{D:List AV}{es:List (List Int×AV)}(h:∀ p∈es,fv b x D p.2=p.2):(es.map fun p=>(p.1,fv b x D p.2))=es:=by
 induction es with
 | nil=>rfl
 | cons p es ih=>rw[List.map_cons,h p (by simp),ih fun p hp=>h p (by simp[hp])]
theorem aX {c:Nat}{d:DV}{a:AV}(h:RelV π d a):RelV π (bg S c d) a:=by
 unfold bg;split
 ·exact h
 ·simp only[RelV]
theorem iP (h:eP S=true){c p:Nat}(hc:S.get c=some (.pmap p)):∃ o,S.get p=some o:=by
 have:=List.all_eq_true.1 h _ (dA hc);simp only at this;cases hp:S.get p with
 | none=>rw[hp]at this; cases this
 | some o=>exact⟨o,rfl⟩
theorem jZ {b:Nat}{x:AObj}{D:List AV}{f:Option (Nat×Nat×Nat)}(h:∀ p,f=some p→p.1≠b):fv b x D (ilv f)=ilv f:=by
 cases f with
 | none=>rfl
 | some p=>obtain⟨b2,c2,n2⟩:=p; simp only[ilv,fv]; rw[if_neg (h _ rfl)]
theorem xx {b:Nat}{x:AObj}{D:List AV}{g:List (Int×Nat)}(h:∀ k y,(k,y)∈g→y≠b):((fl g).map fun p=>(p.1,fv b x D p.2))=fl g:=by
 refine jY fun p hp=>?_;obtain⟨q,hq,rfl⟩:=List.mem_map.1 hp;simp only[fv]; rw[if_neg (h q.1 q.2 hq)]
theorem eQ {b:Nat}{x:AObj}{D:List AV}{t:Ty}{l:List t.den}{ys:List (List AV)}(h:kP t l ys):(ys.map fun l=>l.map (fv b x D))=ys:=by
 refine List.ext_getElem (by simp) fun i h1 h2=>?_;have hi:i < l.length:=by rw[← h.1]; exact h2
 have:=h.2 i hi;rw[List.getD_eq_getElem?_getD,List.getElem?_eq_getElem h2]at this;simp only[List.getElem_map];exact zH this
theorem ox (hS:RelS π Fr S s')(hpk:∀ c p,S.get c=some (.pmap p)→∃ o,S.get p=some o){b b':Nat}{x:AObj}{D:List AV}{s1:Store}(hs1:∀ c' y,c'≠b'→Fr c'=none→s' c'=some y→s1 c'=some (oY b' x D y))
  (H:∀ c o l y,S.get c=some o→c≠b→π c=some l→l.has y→y≠b') (hb:∀ g,π b≠some (.pol g)) {c:Nat} {o:DObj} (h:S.get c=some o) (hne:c≠b) (hnb:∀ cs,o ≠ .box cs):ObR π s1 c o:=by
 have hkey:∀ p g,o = .pmap p→π p=some (.pol g)→∀ k y,(k,y)∈g→y≠b':=fun p g e hp k y hy=>by
  subst e;obtain⟨o,ho⟩:=hpk _ _ h;have hne:p≠b:=fun e=>by subst e; exact hb _ hp
  have hO:=hS.obj _ _ ho;cases o with
  | pool t es=>
   obtain⟨g2,q1,hP⟩:=hO;rw[hp]at q1; cases q1;exact H p _ _ y ho hne hp ⟨k,l6 hP.nd hy⟩
  | box _=>obtain⟨_,_,_,_,q,_⟩:=hO; rw[hp]at q; cases q
  | row _ _ _=>rcases hO with⟨q,_⟩ | ⟨_,_,_,q,_⟩ <;> (rw[hp]at q; cases q)
  | imap _ _ _ _ _=>obtain⟨_,_,_,_,q,_⟩:=hO; rw[hp]at q; cases q
  | rows _ _ _ _=>rcases hO with⟨q,_⟩ | ⟨_,_,_,q,_⟩ <;> (rw[hp]at q; cases q)
  | pmap _=>obtain⟨_,_,_,_,q,_⟩:=hO; rw[hp]at q; cases q
  | gone _=>obtain⟨_,_,q,_⟩:=hO; rw[hp]at q; cases q
  | raw _=>obtain⟨_,_,_,q,_⟩:=hO; rw[hp]at q; cases q
  | rowh _ _ _ _ _=>obtain⟨_,_,_,q,_⟩:=hO; rw[hp]at q; cases q
  | hdl _=>obtain⟨_,_,_,_,q,_⟩:=hO; rw[hp]at q; cases q
 have ne:∀ l y,π c=some l→l.has y→y≠b':=fun l y hl hy=>H c o l y h hne hl hy;have out:∀ l y,π c=some l→l.has y→Fr y=none:=fun l y hl hy=>hS.out' _ _ _ _ h hl hy;have hO:=hS.obj _ _ h;cases o with
 | box cs=>exact absurd rfl (hnb cs)
 | row T2 t2 l2=>
  rcases hO with⟨g1,g2⟩ | ⟨b3,c3,ys,g1,g2,g3,g4⟩
  ·exact .inl ⟨g1,g2⟩
  ·refine .inr ⟨b3,c3,ys,g1,g2,?_,g4⟩;rw[hs1 _ _ (ne _ _ g1 rfl) (out _ _ g1 rfl) g3];simp only[oY,eQ g4]
 | imap kn ag t2 es pd=>
  obtain⟨b3,c3,n3,es',g1,g2,g3⟩:=hO;refine⟨b3,c3,n3,es',g1,g2,?_⟩;cases pd with
  | none=>
   have:=hs1 _ _ (ne _ _ g1 rfl) (out _ _ g1 rfl) g3;rw[show s1 b3=some (.imap kn es' none)by rw[this]; simp only[oY]; rw[jY (qL g2)]]
  | some p=>
   obtain⟨tk,key,v0⟩:=p;obtain⟨y,v0',q1,q2,q3⟩:=g3;refine⟨y,v0',q1,q2,?_⟩;rw[hs1 _ _ (ne _ _ g1 rfl) (out _ _ g1 rfl) q3];simp only[oY];rw[jY fun p hp=>by
    rcases pw hp with hp | hp
    ·exact qL g2 p hp
    ·rw[hp]; exact zI q2]
 | rows T T' t l=>
  rcases hO with⟨g1,g2⟩ | ⟨b3,c3,f,g1,hR⟩
  ·exact .inl ⟨g1,g2⟩
  ·refine .inr ⟨b3,c3,f,g1,hR.cap,?_,fun i hi=>?_,hR.ne,hR.dj⟩
   ·obtain⟨xs,q1,q2,q3⟩:=hR.ex;refine⟨_,hs1 _ _ (ne _ _ g1 (.inl rfl)) (out _ _ g1 (.inl rfl)) q1,by simp[q2],fun i hi=>?_⟩;have hi':i < xs.length:=by rw[q2]; exact hi
    have e3:(xs.map fun l=>l.map (fv b' x D)).getD i []=(xs.getD i []).map (fv b' x D):=by
     simp[List.getD_eq_getElem?_getD,List.getElem?_map,hi']
    rw[e3,q3 i hi,List.map_cons,List.map_nil,jZ fun p hp=>ne _ _ g1 (.inr ⟨i,p,hi,hp,rfl⟩)]
   ·have hI:=hR.ir i hi;cases hf:f i with
    | none=>rw[hf]at hI; exact hI
    | some q=>
     obtain⟨b4,c4,n4⟩:=q;rw[hf]at hI;obtain⟨k1,k2,ys,k3,k4⟩:=hI;have hh:Loc.has (.rls b3 c3 l.length f) b4:=.inr ⟨i,_,hi,hf,rfl⟩;refine⟨k1,k2,ys,?_,k4⟩;rw[hs1 _ _ (ne _ _ g1 hh) (out _ _ g1 hh) k3];simp only[oY,eQ k4]
 | pool t es=>
  obtain⟨g,g1,hP⟩:=hO;refine⟨g,g1,hP.keys,hP.nd,fun k y hk=>?_,hP.dj⟩;obtain⟨as,q1,q2⟩:=hP.ex k y hk;refine⟨as,?_,q2⟩;rw[hs1 _ _ (ne _ _ g1 ⟨k,hk⟩) (out _ _ g1 ⟨k,hk⟩) q1];simp only[oY,zH q2]
 | pmap p=>
  obtain⟨b3,c3,n3,g,g1,g2,g3⟩:=hO;refine⟨b3,c3,n3,g,g1,g2,?_⟩;rw[hs1 _ _ (ne _ _ g1 rfl) (out _ _ g1 rfl) g3];simp only[oY,xx (hkey p g rfl g2)]
 | gone p=>exact hO
 | hdl p=>exact hO
 | rowh T T' t l i0=>
  obtain⟨b3,c3,f,g1,hR⟩:=hO;refine⟨b3,c3,f,g1,hR.cap,?_,fun i hi=>?_,hR.ne,hR.dj,hR.lt,hR.at0⟩
  ·obtain⟨xs,q1,q2,q3,a0,q4⟩:=hR.ex;have e3:∀ i,i < l.length→(xs.map fun l=>l.map (fv b' x D)).getD i []=(xs.getD i []).map (fv b' x D):=fun i hi=>by
    have hi':i < xs.length:=by rw[q2]; exact hi
    simp[List.getD_eq_getElem?_getD,List.getElem?_map,hi']
   refine⟨_,hs1 _ _ (ne _ _ g1 (.inl rfl)) (out _ _ g1 (.inl rfl)) q1,by simp[q2],fun i hi hn=>?_,_,by rw[e3 i0 hR.lt,q4]; rfl⟩;rw[e3 i hi,q3 i hi hn,List.map_cons,List.map_nil,jZ fun p hp=>ne _ _ g1 (.inr ⟨i,p,hi,hp,rfl⟩)]
  ·have hI:=hR.ir i hi;cases hf:f i with
   | none=>rw[hf]at hI; exact hI
   | some q=>
    obtain⟨b4,c4,n4⟩:=q;rw[hf]at hI;obtain⟨k1,k2,ys,k3,k4⟩:=hI;have hh:Loc.has (.rls b3 c3 l.length f) b4:=.inr ⟨i,_,hi,hf,rfl⟩;refine⟨k1,k2,ys,?_,k4⟩;rw[hs1 _ _ (ne _ _ g1 hh) (out _ _ g1 hh) k3];simp only[oY,eQ k4]
 | raw k=>
  obtain⟨b3,c3,n3,g1,g2⟩:=hO;refine⟨b3,c3,n3,g1,?_⟩;rw[hs1 _ _ (ne _ _ g1 rfl) (out _ _ g1 rfl) g2];rfl
theorem mf (hS:RelS π Fr S s')(hpk:eP S=true){q b3 c3 n3:Nat}{o:DObj}(h:S.get q=some o)(hq:π q=some (.hnd b3 c3 n3)):∃ p o2 f,S.get p=some o2∧π p=some (.rls b3 c3 n3 f):=by
 have hO:=hS.obj _ _ h;cases o with
 | hdl p=>
  obtain⟨b4,c4,n4,f,q1,q2⟩:=hO;rw[hq]at q1; cases q1;have:=List.all_eq_true.1 hpk _ (dA h);simp only at this;cases hp:S.get p with
  | none=>rw[hp]at this; cases this
  | some o2=>exact⟨p,o2,f,hp,q2⟩
 | box _=>obtain⟨_,_,_,_,q,_⟩:=hO; rw[hq]at q; cases q
 | row _ _ _=>rcases hO with⟨q,_⟩ | ⟨_,_,_,q,_⟩ <;> (rw[hq]at q; cases q)
 | imap _ _ _ _ _=>obtain⟨_,_,_,_,q,_⟩:=hO; rw[hq]at q; cases q
 | rows _ _ _ _=>rcases hO with⟨q,_⟩ | ⟨_,_,_,q,_⟩ <;> (rw[hq]at q; cases q)
 | pool _ _=>obtain⟨_,q,_⟩:=hO; rw[hq]at q; cases q
 | pmap _=>obtain⟨_,_,_,_,q,_⟩:=hO; rw[hq]at q; cases q
 | gone _=>obtain⟨_,_,q,_⟩:=hO; rw[hq]at q; cases q
 | raw _=>obtain⟨_,_,_,q,_⟩:=hO; rw[hq]at q; cases q
 | rowh _ _ _ _ _=>obtain⟨_,_,_,q,_⟩:=hO; rw[hq]at q; cases q
theorem qM (hS:RelS π Fr S s')(hpk:eP S=true){e:DEnv}{e':Env}(hE:RelE π e e'){b:Nat}{e1:DEnv}{S1:DSt}{T:Nat}{t:Ty}{l:List t.den}(hb:S.get b=some (.row T t l))(h:some (ba (wr S b t l) e,(⟨S.nx,ba (EW S b t l) (fe S.m b)⟩:DSt))=some (e1,S1)):∃ e1' s1,Wk s' e' s1 e1'∧RelE π e1 e1'∧RelS π Fr S1 s1:=by
 ·cases h;have get:∀ c,(⟨S.nx,ba (EW S b t l) (fe S.m b)⟩:DSt).get c=(if c=b then none else S.get c).map (EW S b t l):=fun c=>by
   show fnd (ba _ _) c=_;rw[aV,cG]; rfl
  have live:∀ c o,(⟨S.nx,ba (EW S b t l) (fe S.m b)⟩:DSt).get c=some o→c≠b∧∃ o0,S.get c=some o0∧o=EW S b t l o0:=fun c o hc=>by
   rw[get]at hc;split at hc
   ·cases hc
   ·rename_i hne;cases hg:S.get c with
    | none=>rw[hg]at hc; cases hc
    | some o0=>rw[hg]at hc; cases hc; exact⟨hne,o0,rfl,rfl⟩
  rcases hS.obj _ _ hb with⟨hv,rfl⟩ | ⟨b',c,xs,hp,hcap,hs,hr⟩
  ·
   have v1:∀ d a,RelV π d a→RelV π (ld S b t [] d) a:=fun d a hd=>by
    cases d with
    | slc b2=>
     simp only[ld];cases hc:Nat.beq b2 b with
     | true=>
      obtain rfl:=aj.1 hc;simp only[RelV]at hd;rcases hd with⟨_,_,_,hp,_⟩ | ⟨_,rfl⟩
      ·rw[hv]at hp; cases hp
      ·simp only[cond_true,kL,RelV]; exact .inl ⟨rfl,rfl⟩
     | false=>
      simp only[cond_false];split
      ·exact hd
      ·simp only[RelV]
    | ptr b2 o=>
     simp only[ld];cases hc:Nat.beq b2 b with
     | true=>simp only[cond_true,RelV]
     | false=>
      simp only[cond_false];split
      ·exact hd
      ·simp only[RelV]
    | slr b2=>exact aX hd
    | slh b2=>exact aX hd
    | irow b2 i=>exact aX hd
    | pel b2 k o=>exact aX hd
    | _=>exact hd
   have vs1:∀ ds as,RelVs π ds as→RelVs π (ds.map (ld S b t [])) as:=fun ds=>by
    induction ds with
    | nil=>intro as h; exact h
    | cons d ds ih=>
     intro as h;simp only[RelVs]at h;obtain⟨a,as',rfl,h1,h2⟩:=h;exact RelVs_cons (v1 d a h1) (ih as' h2)
   refine⟨e',s',Wk.refl _ _,fun u d hu=>?_,⟨fun c o hc=>?_,fun b1 b2 o1 o2 l1 l2 y h1 h2 p1 p2 x1 x2=>?_,hS.frm,fun c o lc y hc hp hy=>?_,hS.nx⟩⟩
   ·rw[aV]at hu;cases hg:fnd e u with
    | none=>rw[hg]at hu; cases hu
    | some d0=>
     rw[hg]at hu;cases hu;have hd:=hE u d0 hg;cases d0 with
     | agg cs=>
      simp only[wr];simp only[RelV]at hd ⊢;obtain⟨as,e1,hd⟩:=hd;exact⟨as,e1,vs1 _ _ hd⟩
     | tup cs=>
      simp only[wr];simp only[RelV]at hd ⊢;obtain⟨as,e1,hd⟩:=hd;exact⟨as,e1,vs1 _ _ hd⟩
     | _=>exact v1 _ _ hd
   ·obtain⟨hne,o0,h0,rfl⟩:=live c o hc;have hO:=hS.obj _ _ h0;cases o0 with
    | box cs=>
     obtain⟨b',c,n,as,g1,g2,g3⟩:=hO;exact⟨b',c,n,as,g1,g2,vs1 _ _ g3⟩
    | _=>exact hO
   ·obtain⟨_,q1,g1,_⟩:=live _ _ h1;obtain⟨_,q2,g2,_⟩:=live _ _ h2;exact hS.inj' _ _ _ _ _ _ _ g1 g2 p1 p2 x1 x2
   ·obtain⟨_,q1,g1,_⟩:=live _ _ hc;exact hS.out' _ _ _ _ g1 hp hy
  ·have v1:∀ d a,RelV π d a→RelV π (ld S b t l d) (fv b' (.row T t.w c xs) [] a):=fun d a hd=>by
    have nm:∀ b2 o2 b2' c2 n2,S.get b2=some o2→Nat.beq b2 b=false→π b2=some (.real b2' c2 n2)→b2'≠b':=fun b2 o2 b2' c2 n2 h1 h2 h3 e=>by
     subst e;have:=hS.inj _ _ _ _ _ _ _ _ _ h1 hb h3 hp;subst this
     simp at h2
    cases d with
    | slc b2=>
     simp only[ld];cases hc:Nat.beq b2 b with
     | true=>
      obtain rfl:=aj.1 hc;simp only[RelV]at hd;rcases hd with⟨b3,c3,n3,hp3,rfl⟩ | ⟨hp3,rfl⟩
      ·rw[hp]at hp3; cases hp3;simp only[cond_true,fv,if_true];rw[if_pos ⟨by rw[hr.1]; exact Nat.le_refl _,hcap⟩];simp only[kL,RelV];exact .inr ⟨_,rfl,hr.2⟩
      ·rw[hp]at hp3; cases hp3
     | false=>
      simp only[cond_false];split
      ·rename_i o2 ho2;have hd0:=hd;simp only[RelV]at hd;rcases hd with⟨b3,c3,n3,hp3,rfl⟩ | ⟨hp3,rfl⟩
       ·simp only[fv]; rw[if_neg (nm _ _ _ _ _ ho2 hc hp3)]; exact hd0
       ·exact hd0
      ·simp only[RelV]
    | ptr b2 o=>
     simp only[ld];cases hc:Nat.beq b2 b with
     | true=>simp only[cond_true,RelV]
     | false=>
      simp only[cond_false];split
      ·rename_i o2 ho2;have hd0:=hd;simp only[RelV]at hd;obtain⟨b3,c3,n3,hp3,rfl⟩:=hd;simp only[fv]; rw[if_neg (nm _ _ _ _ _ ho2 hc hp3)]; exact hd0
      ·simp only[RelV]
    | v x=>
     have:a.frz=true:=bF (by simpa only[RelV]using hd) a (by simp);rw[jX this]; exact hd
    | undef=>simp only[ld,RelV]
    | emp=>simp only[RelV]at hd; subst hd; simp only[ld,fv,RelV]
    | nilp=>simp only[RelV]at hd; subst hd; simp only[ld,fv,RelV]
    | nilm=>simp only[RelV]at hd; subst hd; simp only[ld,fv,RelV]
    | agg ds=>have hd0:=hd; simp only[RelV]at hd; obtain⟨as,rfl,_⟩:=hd; exact hd0
    | tup ds=>have hd0:=hd; simp only[RelV]at hd; obtain⟨as,rfl,_⟩:=hd; exact hd0
    | elm ds=>have hd0:=hd; simp only[RelV]at hd; obtain⟨as,rfl,_⟩:=hd; exact hd0
    | fn f ds=>have hd0:=hd; simp only[RelV]at hd; obtain⟨as,rfl,_⟩:=hd; rcases iJ f as with⟨_,e⟩ | ⟨_,e⟩ <;> (rw[e]at hd0 ⊢; exact hd0)
    | rptr b k i j=>have hd0:=hd; simp only[RelV]at hd; obtain⟨_,_,_,_,_,rfl⟩:=hd; exact hd0
    | slo b k i j=>have hd0:=hd; simp only[RelV]at hd; obtain⟨_,_,_,_,_,rfl⟩:=hd; exact hd0
    | mp b=>have hd0:=hd; simp only[RelV]at hd; obtain⟨_,_,_,_,rfl⟩:=hd; exact hd0
    | stk b=>have hd0:=hd; simp only[RelV]at hd; obtain⟨_,_,rfl⟩:=hd; exact hd0
    | slh b2=>
     simp only[ld,bg];split
     ·rename_i o2 ho2;have hd0:=hd;simp only[RelV]at hd;obtain⟨b3,c3,n3,hp3,rfl⟩:=hd;obtain⟨p4,o4,f4,h4,hp4⟩:=mf hS hpk ho2 hp3;simp only[fv]; rw[if_neg fun e=>?_]
      ·exact hd0
      ·subst e;have:=hS.inj' _ _ _ _ _ _ _ h4 hb hp4 hp (.inl rfl) rfl;subst this;rw[hp4]at hp; cases hp
     ·simp only[RelV]
    | hrow b i=>have hd0:=hd; simp only[RelV]at hd; obtain⟨_,_,_,_,_,rfl⟩:=hd; exact hd0
    | slr b2=>
     simp only[ld,bg];split
     ·rename_i o2 ho2;have hd0:=hd;simp only[RelV]at hd;rcases hd with⟨b3,c3,n3,f3,hp3,rfl⟩ | ⟨hp3,rfl⟩
      ·simp only[fv]; rw[if_neg fun e=>?_]
       ·exact hd0
       ·subst e;have:=hS.inj' _ _ _ _ _ _ _ ho2 hb hp3 hp (.inl rfl) rfl;subst this;rw[hp3]at hp; cases hp
      ·exact hd0
     ·simp only[RelV]
    | irow b2 i=>
     simp only[ld,bg];split
     ·rename_i o2 ho2;have hd0:=hd;simp only[RelV]at hd;obtain⟨b3,c3,n3,f3,hp3,hi3,rfl⟩:=hd;rw[jZ fun p hf e=>?_]
      ·exact hd0
      ·subst e;have:=hS.inj' _ _ _ _ _ _ _ ho2 hb hp3 hp (.inr ⟨i,p,hi3,hf,rfl⟩) rfl;subst this;rw[hp3]at hp; cases hp
     ·simp only[RelV]
    | pel b2 k o=>
     simp only[ld,bg];split
     ·rename_i o2 ho2;have hd0:=hd;simp only[RelV]at hd;obtain⟨g3,x3,hp3,hg3,rfl⟩:=hd;simp only[fv]; rw[if_neg fun e=>?_]
      ·exact hd0
      ·subst e;have:=hS.inj' _ _ _ _ _ _ _ ho2 hb hp3 hp ⟨k,hg3⟩ rfl;subst this;rw[hp3]at hp; cases hp
     ·simp only[RelV]
    | orow b i=>have hd0:=hd; simp only[RelV]at hd; obtain⟨_,_,_,_,_,_,rfl⟩:=hd; exact hd0
    | iptr b k i j o=>have hd0:=hd; simp only[RelV]at hd; obtain⟨_,_,_,_,_,_,_,_,_,_,_,rfl⟩:=hd; exact hd0
    | mpl b=>have hd0:=hd; simp only[RelV]at hd; obtain⟨_,_,rfl⟩:=hd; exact hd0
    | whn g d=>have hd0:=hd; simp only[RelV]at hd; obtain⟨_,rfl,_⟩:=hd; exact hd0
   have vs1:∀ ds as,RelVs π ds as→RelVs π (ds.map (ld S b t l)) (as.map (fv b' (.row T t.w c xs) [])):=fun ds=>by
    induction ds with
    | nil=>intro as h; simp only[RelVs]at h; subst h; exact RelVs_nil
    | cons d ds ih=>
     intro as h;simp only[RelVs]at h;obtain⟨a,as',rfl,h1,h2⟩:=h;exact RelVs_cons (v1 d a h1) (ih as' h2)
   let x:AObj:=.row T t.w c xs
   let s1:Store:=fun c'=>if c'=b' then none else match Fr c' with
    | none=>(s' c').map (oY b' x [])
    | some _=>s' c'
   have s1v:∀ c' y,c'≠b'→Fr c'=none→s' c'=some y→s1 c'=some (oY b' x [] y):=fun c' y h1 h2 h3=>by
    show(if c'=b' then none else _)=_;rw[if_neg h1];simp only[h2,h3,Option.map_some]
   have hfrz:nZ x:=fun l2 hl a ha=>by
    obtain⟨i,hi,rfl⟩:=List.getElem_of_mem hl;have:=hr.2 i (by rw[← hr.1]; exact hi);rw[List.getD_eq_getElem?_getD,List.getElem?_eq_getElem hi]at this;exact bF this a ha
   refine⟨fun u=>hY b' x [] (e' u),s1,?_,fun u d hu=>?_,⟨fun c2 o hc=>?_,fun b1 b2 o1 o2 l1 l2 z h1 h2 p1 p2 x1 x2=>?_,fun b3 y h=>?_,fun c2 o lc z hc hp hz=>?_,hS.nx⟩⟩
   ·refine Wk.frz [] hs hfrz ?_ (fun c'=>?_) (fun u=>.inr (.inr rfl))
    ·show(if b'=b' then none else _)=none;rw[if_pos rfl]
    ·by_cases hcb:c'=b'
     ·left; show(if c'=b' then none else _)=none; rw[if_pos hcb]
     ·cases hf:Fr c' with
      | none=>right; right; show(if c'=b' then none else _)=_; rw[if_neg hcb]; simp only[hf]; rfl
      | some y=>right; left; show(if c'=b' then none else _)=_; rw[if_neg hcb]; simp only[hf]
   ·rw[aV]at hu;cases hg:fnd e u with
    | none=>rw[hg]at hu; cases hu
    | some d0=>
     rw[hg]at hu;cases hu;have hd:=hE u d0 hg;show RelV π _ (hY b' x [] (e' u));cases d0 with
     | agg cs=>
      simp only[wr];simp only[RelV]at hd ⊢;obtain⟨as,e1,hd⟩:=hd;rw[e1];exact⟨_,rfl,vs1 _ _ hd⟩
     | tup cs=>
      simp only[wr];simp only[RelV]at hd ⊢;obtain⟨as,e1,hd⟩:=hd;rw[e1];exact⟨_,rfl,vs1 _ _ hd⟩
     | undef=>simp only[wr,ld,RelV]
     | v y=>
      have:(e' u).frz=true:=bF (by simpa only[RelV]using hd) _ (by simp);have e2:hY b' x [] (e' u)=e' u:=by
       revert this; cases e' u <;> intro this <;> simp[AV.frz]at this <;> rfl
      rw[e2]; exact hd
     | slc b2=>
      have e2:hY b' x [] (e' u)=fv b' x [] (e' u):=by
       simp only[RelV]at hd;rcases hd with⟨_,_,_,_,e3⟩ | ⟨_,e3⟩ <;> rw[e3] <;> rfl
      rw[e2]; exact v1 _ _ hd
     | ptr b2 o=>
      have e2:hY b' x [] (e' u)=fv b' x [] (e' u):=by
       simp only[RelV]at hd;obtain⟨_,_,_,_,e3⟩:=hd; rw[e3]; rfl
      rw[e2]; exact v1 _ _ hd
     | emp=>simp only[RelV]at hd; rw[hd]; simp only[wr,ld,hY,fv,RelV]
     | nilp=>simp only[RelV]at hd; rw[hd]; simp only[wr,ld,hY,fv,RelV]
     | nilm=>simp only[RelV]at hd; rw[hd]; simp only[wr,ld,hY,fv,RelV]
     | elm ds=>have hd0:=hd; simp only[RelV]at hd; obtain⟨as,e3,_⟩:=hd; rw[e3]at hd0 ⊢; exact hd0
     | fn f ds=>have hd0:=hd; simp only[RelV]at hd; obtain⟨as,e3,_⟩:=hd; rw[e3]at hd0 ⊢; rcases iJ f as with⟨_,e⟩ | ⟨_,e⟩ <;> (rw[e]at hd0 ⊢; exact hd0)
     | rptr b k i j=>have hd0:=hd; simp only[RelV]at hd; obtain⟨_,_,_,_,_,e3⟩:=hd; rw[e3]at hd0 ⊢; exact hd0
     | slo b k i j=>have hd0:=hd; simp only[RelV]at hd; obtain⟨_,_,_,_,_,e3⟩:=hd; rw[e3]at hd0 ⊢; exact hd0
     | mp b=>have hd0:=hd; simp only[RelV]at hd; obtain⟨_,_,_,_,e3⟩:=hd; rw[e3]at hd0 ⊢; exact hd0
     | stk b=>have hd0:=hd; simp only[RelV]at hd; obtain⟨_,_,e3⟩:=hd; rw[e3]at hd0 ⊢; exact hd0
     | slr b2=>
      have e2:hY b' x [] (e' u)=fv b' x [] (e' u):=by
       simp only[RelV]at hd;rcases hd with⟨_,_,_,_,_,e3⟩ | ⟨_,e3⟩ <;> rw[e3] <;> rfl
      rw[e2]; exact v1 _ _ hd
     | slh b2=>
      have e2:hY b' x [] (e' u)=fv b' x [] (e' u):=by
       simp only[RelV]at hd;obtain⟨_,_,_,_,e3⟩:=hd; rw[e3]; rfl
      rw[e2]; exact v1 _ _ hd
     | hrow b i=>have hd0:=hd; simp only[RelV]at hd; obtain⟨_,_,_,_,_,e3⟩:=hd; rw[e3]at hd0 ⊢; exact hd0
     | irow b2 i=>
      have e2:hY b' x [] (e' u)=fv b' x [] (e' u):=by
       simp only[RelV]at hd;obtain⟨_,_,_,f3,_,_,e3⟩:=hd;rw[e3]; cases f3 i <;> rfl
      rw[e2]; exact v1 _ _ hd
     | pel b2 k o=>
      have e2:hY b' x [] (e' u)=fv b' x [] (e' u):=by
       simp only[RelV]at hd;obtain⟨_,_,_,_,e3⟩:=hd; rw[e3]; rfl
      rw[e2]; exact v1 _ _ hd
     | orow b i=>have hd0:=hd; simp only[RelV]at hd; obtain⟨_,_,_,_,_,_,e3⟩:=hd; rw[e3]at hd0 ⊢; exact hd0
     | iptr b k i j o=>have hd0:=hd; simp only[RelV]at hd; obtain⟨_,_,_,_,_,_,_,_,_,_,_,e3⟩:=hd; rw[e3]at hd0 ⊢; exact hd0
     | mpl b=>have hd0:=hd; simp only[RelV]at hd; obtain⟨_,_,e3⟩:=hd; rw[e3]at hd0 ⊢; exact hd0
     | whn g d=>have hd0:=hd; simp only[RelV]at hd; obtain⟨_,e3,_⟩:=hd; rw[e3]at hd0 ⊢; exact hd0
   ·obtain⟨hne,o0,h0,rfl⟩:=live c2 o hc;have hO:=hS.obj _ _ h0;have ne:∀ b3 c3 n3,π c2=some (.real b3 c3 n3)→b3≠b':=fun b3 c3 n3 hp3 e=>by
     subst e; exact hne (hS.inj _ _ _ _ _ _ _ _ _ h0 hb hp3 hp)
    cases o0 with
    | box cs=>
     obtain⟨b3,c3,n3,as,g1,g2,g3⟩:=hO;exact⟨b3,c3,n3,_,g1,s1v _ _ (ne _ _ _ g1) (hS.out _ _ _ _ _ h0 g1) g2,vs1 _ _ g3⟩
    | _=>exact ox (x:=x) (D:=[]) hS (fun _ _ h=>iP hpk h) s1v (fun c3 o3 l3 y3 h3 n3 p3 q3 e3=>n3 (hS.inj' _ _ _ _ _ _ _ h3 hb p3 hp (e3▸q3) rfl)) (fun g hg=>by rw[hp]at hg; cases hg) h0 hne (fun cs h=>by cases h)
   ·obtain⟨_,q1,g1,_⟩:=live _ _ h1;obtain⟨_,q2,g2,_⟩:=live _ _ h2;exact hS.inj' _ _ _ _ _ _ _ g1 g2 p1 p2 x1 x2
   ·have hne:b3≠b':=fun e=>by rw[e,hS.out _ _ _ _ _ hb hp]at h; cases h
    show(if b3=b' then none else _)=_;rw[if_neg hne];simp only[h];exact hS.frm _ _ h
   ·obtain⟨_,q1,g1,_⟩:=live _ _ hc;exact hS.out' _ _ _ _ g1 hp hz
theorem rS:∀ {ds:List DV} {as:List AV},RelVs π ds as→ds.all DV.fzn=true→∀ a∈as,a.frz=true
 | [],as,h,_=>by simp only[RelVs]at h; subst h; intro a ha; cases ha
 | d::ds,as,h,hz=>by
  simp only[RelVs]at h;obtain⟨a,as',rfl,h1,h2⟩:=h;simp only[List.all_cons,Bool.and_eq_true]at hz;intro c hc;rcases List.mem_cons.1 hc with rfl | hc
  ·cases d with
   | v x=>exact bF (by simpa only[RelV]using h1) _ (by simp)
   | emp=>simp only[RelV]at h1; subst h1; rfl
   | nilp=>simp only[RelV]at h1; subst h1; rfl
   | nilm=>simp only[RelV]at h1; subst h1; rfl
   | elm ds=>simp only[RelV]at h1; obtain⟨_,rfl,_⟩:=h1; rfl
   | _=>simp[DV.fzn]at hz
  ·exact rS h2 hz.2 c hc
theorem qN (hS:RelS π Fr S s')(hpk:eP S=true){e:DEnv}{e':Env}(hE:RelE π e e'){b:Nat}{e1:DEnv}{S1:DSt}{cs:List DV}(hb:S.get b=some (.box cs))(hz:cs.all DV.fzn=true)(h:some (ba (zE S b cs) e,(⟨S.nx,ba (EX S b cs) (fe S.m b)⟩:DSt))=some (e1,S1)):∃ e1' s1,Wk s' e' s1 e1'∧RelE π e1 e1'∧RelS π Fr S1 s1:=by
 ·cases h;have get:∀ c,(⟨S.nx,ba (EX S b cs) (fe S.m b)⟩:DSt).get c=(if c=b then none else S.get c).map (EX S b cs):=fun c=>by
   show fnd (ba _ _) c=_;rw[aV,cG]; rfl
  have live:∀ c o,(⟨S.nx,ba (EX S b cs) (fe S.m b)⟩:DSt).get c=some o→c≠b∧∃ o0,S.get c=some o0∧o=EX S b cs o0:=fun c o hc=>by
   rw[get]at hc;split at hc
   ·cases hc
   ·rename_i hne;cases hg:S.get c with
    | none=>rw[hg]at hc; cases hc
    | some o0=>rw[hg]at hc; cases hc; exact⟨hne,o0,rfl,rfl⟩
  obtain⟨b',c0,n0,ax,hp,hs,hr⟩:=hS.obj _ _ hb
  ·skip
   have v1:∀ d a,RelV π d a→RelV π (m6 S b cs d) (fv b' (.box ax) [] a):=fun d a hd=>by
    have nm:∀ b2 o2 b2' c2 n2,S.get b2=some o2→Nat.beq b2 b=false→π b2=some (.real b2' c2 n2)→b2'≠b':=fun b2 o2 b2' c2 n2 h1 h2 h3 e=>by
     subst e;have:=hS.inj _ _ _ _ _ _ _ _ _ h1 hb h3 hp;subst this
     simp at h2
    cases d with
    | slc b2=>
     simp only[m6];cases hc:Nat.beq b2 b with
     | true=>simp only[cond_true,RelV]
     | false=>
      simp only[cond_false];split
      ·rename_i o2 ho2;have hd0:=hd;simp only[RelV]at hd;rcases hd with⟨b3,c3,n3,hp3,rfl⟩ | ⟨hp3,rfl⟩
       ·simp only[fv]; rw[if_neg (nm _ _ _ _ _ ho2 hc hp3)]; exact hd0
       ·exact hd0
      ·simp only[RelV]
    | ptr b2 o=>
     simp only[m6];cases hc:Nat.beq b2 b with
     | true=>
      obtain rfl:=aj.1 hc;simp only[RelV]at hd;obtain⟨b3,c3,n3,hp3,rfl⟩:=hd;rw[hp]at hp3; cases hp3;simp only[cond_true,fv,if_true];cases hl:dI o cs.length with
      | true=>
       simp only[dI,Nat.ble_eq]at hl;rw[if_pos (by rw[aB hr]; exact hl)];simp only[cond_true,RelV];exact⟨_,rfl,cg o hr⟩
      | false=>simp only[cond_false,RelV]
     | false=>
      simp only[cond_false];split
      ·rename_i o2 ho2;have hd0:=hd;simp only[RelV]at hd;obtain⟨b3,c3,n3,hp3,rfl⟩:=hd;simp only[fv]; rw[if_neg (nm _ _ _ _ _ ho2 hc hp3)]; exact hd0
      ·simp only[RelV]
    | v x=>
     have:a.frz=true:=bF (by simpa only[RelV]using hd) a (by simp);rw[jX this]; exact hd
    | undef=>simp only[m6,RelV]
    | emp=>simp only[RelV]at hd; subst hd; simp only[m6,fv,RelV]
    | nilp=>simp only[RelV]at hd; subst hd; simp only[m6,fv,RelV]
    | nilm=>simp only[RelV]at hd; subst hd; simp only[m6,fv,RelV]
    | agg ds=>have hd0:=hd; simp only[RelV]at hd; obtain⟨as,rfl,_⟩:=hd; exact hd0
    | tup ds=>have hd0:=hd; simp only[RelV]at hd; obtain⟨as,rfl,_⟩:=hd; exact hd0
    | elm ds=>have hd0:=hd; simp only[RelV]at hd; obtain⟨as,rfl,_⟩:=hd; exact hd0
    | fn f ds=>have hd0:=hd; simp only[RelV]at hd; obtain⟨as,rfl,_⟩:=hd; rcases iJ f as with⟨_,e⟩ | ⟨_,e⟩ <;> (rw[e]at hd0 ⊢; exact hd0)
    | rptr b k i j=>have hd0:=hd; simp only[RelV]at hd; obtain⟨_,_,_,_,_,rfl⟩:=hd; exact hd0
    | slo b k i j=>have hd0:=hd; simp only[RelV]at hd; obtain⟨_,_,_,_,_,rfl⟩:=hd; exact hd0
    | mp b=>have hd0:=hd; simp only[RelV]at hd; obtain⟨_,_,_,_,rfl⟩:=hd; exact hd0
    | stk b=>have hd0:=hd; simp only[RelV]at hd; obtain⟨_,_,rfl⟩:=hd; exact hd0
    | slh b2=>
     simp only[m6,bg];split
     ·rename_i o2 ho2;have hd0:=hd;simp only[RelV]at hd;obtain⟨b3,c3,n3,hp3,rfl⟩:=hd;obtain⟨p4,o4,f4,h4,hp4⟩:=mf hS hpk ho2 hp3;simp only[fv]; rw[if_neg fun e=>?_]
      ·exact hd0
      ·subst e;have:=hS.inj' _ _ _ _ _ _ _ h4 hb hp4 hp (.inl rfl) rfl;subst this;rw[hp4]at hp; cases hp
     ·simp only[RelV]
    | hrow b i=>have hd0:=hd; simp only[RelV]at hd; obtain⟨_,_,_,_,_,rfl⟩:=hd; exact hd0
    | slr b2=>
     simp only[m6,bg];split
     ·rename_i o2 ho2;have hd0:=hd;simp only[RelV]at hd;rcases hd with⟨b3,c3,n3,f3,hp3,rfl⟩ | ⟨hp3,rfl⟩
      ·simp only[fv]; rw[if_neg fun e=>?_]
       ·exact hd0
       ·subst e;have:=hS.inj' _ _ _ _ _ _ _ ho2 hb hp3 hp (.inl rfl) rfl;subst this;rw[hp3]at hp; cases hp
      ·exact hd0
     ·simp only[RelV]
    | irow b2 i=>
     simp only[m6,bg];split
     ·rename_i o2 ho2;have hd0:=hd;simp only[RelV]at hd;obtain⟨b3,c3,n3,f3,hp3,hi3,rfl⟩:=hd;rw[jZ fun p hf e=>?_]
      ·exact hd0
      ·subst e;have:=hS.inj' _ _ _ _ _ _ _ ho2 hb hp3 hp (.inr ⟨i,p,hi3,hf,rfl⟩) rfl;subst this;rw[hp3]at hp; cases hp
     ·simp only[RelV]
    | pel b2 k o=>
     simp only[m6,bg];split
     ·rename_i o2 ho2;have hd0:=hd;simp only[RelV]at hd;obtain⟨g3,x3,hp3,hg3,rfl⟩:=hd;simp only[fv]; rw[if_neg fun e=>?_]
      ·exact hd0
      ·subst e;have:=hS.inj' _ _ _ _ _ _ _ ho2 hb hp3 hp ⟨k,hg3⟩ rfl;subst this;rw[hp3]at hp; cases hp
     ·simp only[RelV]
    | orow b i=>have hd0:=hd; simp only[RelV]at hd; obtain⟨_,_,_,_,_,_,rfl⟩:=hd; exact hd0
    | iptr b k i j o=>have hd0:=hd; simp only[RelV]at hd; obtain⟨_,_,_,_,_,_,_,_,_,_,_,rfl⟩:=hd; exact hd0
    | mpl b=>have hd0:=hd; simp only[RelV]at hd; obtain⟨_,_,rfl⟩:=hd; exact hd0
    | whn g d=>have hd0:=hd; simp only[RelV]at hd; obtain⟨_,rfl,_⟩:=hd; exact hd0
   have vs1:∀ ds as,RelVs π ds as→RelVs π (ds.map (m6 S b cs)) (as.map (fv b' (.box ax) [])):=fun ds=>by
    induction ds with
    | nil=>intro as h; simp only[RelVs]at h; subst h; exact RelVs_nil
    | cons d ds ih=>
     intro as h;simp only[RelVs]at h;obtain⟨a,as',rfl,h1,h2⟩:=h;exact RelVs_cons (v1 d a h1) (ih as' h2)
   let x:AObj:=.box ax
   let s1:Store:=fun c'=>if c'=b' then none else match Fr c' with
    | none=>(s' c').map (oY b' x [])
    | some _=>s' c'
   have s1v:∀ c' y,c'≠b'→Fr c'=none→s' c'=some y→s1 c'=some (oY b' x [] y):=fun c' y h1 h2 h3=>by
    show(if c'=b' then none else _)=_;rw[if_neg h1];simp only[h2,h3,Option.map_some]
   have hfrz:nZ x:=rS hr hz;refine⟨fun u=>hY b' x [] (e' u),s1,?_,fun u d hu=>?_,⟨fun c2 o hc=>?_,fun b1 b2 o1 o2 l1 l2 z h1 h2 p1 p2 x1 x2=>?_,fun b3 y h=>?_,fun c2 o lc z hc hp hz=>?_,hS.nx⟩⟩
   ·refine Wk.frz [] hs hfrz ?_ (fun c'=>?_) (fun u=>.inr (.inr rfl))
    ·show(if b'=b' then none else _)=none;rw[if_pos rfl]
    ·by_cases hcb:c'=b'
     ·left; show(if c'=b' then none else _)=none; rw[if_pos hcb]
     ·cases hf:Fr c' with
      | none=>right; right; show(if c'=b' then none else _)=_; rw[if_neg hcb]; simp only[hf]; rfl
      | some y=>right; left; show(if c'=b' then none else _)=_; rw[if_neg hcb]; simp only[hf]
   ·rw[aV]at hu;cases hg:fnd e u with
    | none=>rw[hg]at hu; cases hu
    | some d0=>
     rw[hg]at hu;cases hu;have hd:=hE u d0 hg;show RelV π _ (hY b' x [] (e' u));cases d0 with
     | agg cs=>
      simp only[zE];simp only[RelV]at hd ⊢;obtain⟨as,e1,hd⟩:=hd;rw[e1];exact⟨_,rfl,vs1 _ _ hd⟩
     | tup cs=>
      simp only[zE];simp only[RelV]at hd ⊢;obtain⟨as,e1,hd⟩:=hd;rw[e1];exact⟨_,rfl,vs1 _ _ hd⟩
     | undef=>simp only[zE,m6,RelV]
     | v y=>
      have:(e' u).frz=true:=bF (by simpa only[RelV]using hd) _ (by simp);have e2:hY b' x [] (e' u)=e' u:=by
       revert this; cases e' u <;> intro this <;> simp[AV.frz]at this <;> rfl
      rw[e2]; exact hd
     | slc b2=>
      have e2:hY b' x [] (e' u)=fv b' x [] (e' u):=by
       simp only[RelV]at hd;rcases hd with⟨_,_,_,_,e3⟩ | ⟨_,e3⟩ <;> rw[e3] <;> rfl
      rw[e2]; exact v1 _ _ hd
     | ptr b2 o=>
      have e2:hY b' x [] (e' u)=fv b' x [] (e' u):=by
       simp only[RelV]at hd;obtain⟨_,_,_,_,e3⟩:=hd; rw[e3]; rfl
      rw[e2]; exact v1 _ _ hd
     | emp=>simp only[RelV]at hd; rw[hd]; simp only[zE,m6,hY,fv,RelV]
     | nilp=>simp only[RelV]at hd; rw[hd]; simp only[zE,m6,hY,fv,RelV]
     | nilm=>simp only[RelV]at hd; rw[hd]; simp only[zE,m6,hY,fv,RelV]
     | elm ds=>have hd0:=hd; simp only[RelV]at hd; obtain⟨as,e3,_⟩:=hd; rw[e3]at hd0 ⊢; exact hd0
     | fn f ds=>have hd0:=hd; simp only[RelV]at hd; obtain⟨as,e3,_⟩:=hd; rw[e3]at hd0 ⊢; rcases iJ f as with⟨_,e⟩ | ⟨_,e⟩ <;> (rw[e]at hd0 ⊢; exact hd0)
     | rptr b k i j=>have hd0:=hd; simp only[RelV]at hd; obtain⟨_,_,_,_,_,e3⟩:=hd; rw[e3]at hd0 ⊢; exact hd0
     | slo b k i j=>have hd0:=hd; simp only[RelV]at hd; obtain⟨_,_,_,_,_,e3⟩:=hd; rw[e3]at hd0 ⊢; exact hd0
     | mp b=>have hd0:=hd; simp only[RelV]at hd; obtain⟨_,_,_,_,e3⟩:=hd; rw[e3]at hd0 ⊢; exact hd0
     | stk b=>have hd0:=hd; simp only[RelV]at hd; obtain⟨_,_,e3⟩:=hd; rw[e3]at hd0 ⊢; exact hd0
     | slr b2=>
      have e2:hY b' x [] (e' u)=fv b' x [] (e' u):=by
       simp only[RelV]at hd;rcases hd with⟨_,_,_,_,_,e3⟩ | ⟨_,e3⟩ <;> rw[e3] <;> rfl
      rw[e2]; exact v1 _ _ hd
     | slh b2=>
      have e2:hY b' x [] (e' u)=fv b' x [] (e' u):=by
       simp only[RelV]at hd;obtain⟨_,_,_,_,e3⟩:=hd; rw[e3]; rfl
      rw[e2]; exact v1 _ _ hd
     | hrow b i=>have hd0:=hd; simp only[RelV]at hd; obtain⟨_,_,_,_,_,e3⟩:=hd; rw[e3]at hd0 ⊢; exact hd0
     | irow b2 i=>
      have e2:hY b' x [] (e' u)=fv b' x [] (e' u):=by
       simp only[RelV]at hd;obtain⟨_,_,_,f3,_,_,e3⟩:=hd;rw[e3]; cases f3 i <;> rfl
      rw[e2]; exact v1 _ _ hd
     | pel b2 k o=>
      have e2:hY b' x [] (e' u)=fv b' x [] (e' u):=by
       simp only[RelV]at hd;obtain⟨_,_,_,_,e3⟩:=hd; rw[e3]; rfl
      rw[e2]; exact v1 _ _ hd
     | orow b i=>have hd0:=hd; simp only[RelV]at hd; obtain⟨_,_,_,_,_,_,e3⟩:=hd; rw[e3]at hd0 ⊢; exact hd0
     | iptr b k i j o=>have hd0:=hd; simp only[RelV]at hd; obtain⟨_,_,_,_,_,_,_,_,_,_,_,e3⟩:=hd; rw[e3]at hd0 ⊢; exact hd0
     | mpl b=>have hd0:=hd; simp only[RelV]at hd; obtain⟨_,_,e3⟩:=hd; rw[e3]at hd0 ⊢; exact hd0
     | whn g d=>have hd0:=hd; simp only[RelV]at hd; obtain⟨_,e3,_⟩:=hd; rw[e3]at hd0 ⊢; exact hd0
   ·obtain⟨hne,o0,h0,rfl⟩:=live c2 o hc;have hO:=hS.obj _ _ h0;have ne:∀ b3 c3 n3,π c2=some (.real b3 c3 n3)→b3≠b':=fun b3 c3 n3 hp3 e=>by
     subst e; exact hne (hS.inj _ _ _ _ _ _ _ _ _ h0 hb hp3 hp)
    cases o0 with
    | box cs=>
     obtain⟨b3,c3,n3,as,g1,g2,g3⟩:=hO;exact⟨b3,c3,n3,_,g1,s1v _ _ (ne _ _ _ g1) (hS.out _ _ _ _ _ h0 g1) g2,vs1 _ _ g3⟩
    | _=>exact ox (x:=x) (D:=[]) hS (fun _ _ h=>iP hpk h) s1v (fun c3 o3 l3 y3 h3 n3 p3 q3 e3=>n3 (hS.inj' _ _ _ _ _ _ _ h3 hb p3 hp (e3▸q3) rfl)) (fun g hg=>by rw[hp]at hg; cases hg) h0 hne (fun cs h=>by cases h)
   ·obtain⟨_,q1,g1,_⟩:=live _ _ h1;obtain⟨_,q2,g2,_⟩:=live _ _ h2;exact hS.inj' _ _ _ _ _ _ _ g1 g2 p1 p2 x1 x2
   ·have hne:b3≠b':=fun e=>by rw[e,hS.out _ _ _ _ _ hb hp]at h; cases h
    show(if b3=b' then none else _)=_;rw[if_neg hne];simp only[h];exact hS.frm _ _ h
   ·obtain⟨_,q1,g1,_⟩:=live _ _ hc;exact hS.out' _ _ _ _ g1 hp hz
def dh (S:DSt)(b:Nat):DV→DV
 | .slr b'=>bif Nat.beq b' b then .slr b' else bg S b' (.slr b')
 | .slc b'=>bg S b' (.slc b')
 | .slh b'=>bg S b' (.slh b')
 | .ptr b' o=>bg S b' (.ptr b' o)
 | .irow b' i=>bif Nat.beq b' b then .undef else bg S b' (.irow b' i)
 | .pel b' k o=>bg S b' (.pel b' k o)
 | d=>d
def qd (S:DSt)(b:Nat):DObj→DObj
 | .box ds=>.box (ds.map (dh S b))
 | o=>o
def vL (π:Pi)(S:DSt)(b:Nat):DV→AV→Prop
 | .agg ds,a=>∃ as,a = .agg as∧RelVs π (ds.map (dh S b)) as
 | .tup ds,a=>∃ as,a = .tup as∧RelVs π (ds.map (dh S b)) as
 | d,a=>RelV π (dh S b d) a
theorem rT {b:Nat}{d:DV}{a:AV}(h:RelV π d a):RelV π (dh S b d) a:=by
 cases d with
 | slr b2=>simp only[dh]; cases Nat.beq b2 b with | true=>exact h | false=>exact aX h
 | slc b2=>exact aX h
 | slh b2=>exact aX h
 | ptr b2 o=>exact aX h
 | irow b2 i=>simp only[dh]; cases Nat.beq b2 b with | true=>simp only[cond_true,RelV] | false=>exact aX h
 | pel b2 k o=>exact aX h
 | _=>exact h
theorem ll {b:Nat}:∀ {ds:List DV} {as:List AV},RelVs π ds as→RelVs π (ds.map (dh S b)) as
 | [],as,h=>h
 | d::ds,as,h=>by
  simp only[RelVs]at h;obtain⟨a,as',rfl,h1,h2⟩:=h;exact RelVs_cons (rT h1) (ll h2)
theorem xy {b:Nat}{d:DV}{a:AV}(h:RelV π d a):vL π S b d a:=by
 cases d with
 | agg ds=>simp only[RelV]at h; obtain⟨as,e,h⟩:=h; exact⟨as,e,ll h⟩
 | tup ds=>simp only[RelV]at h; obtain⟨as,e,h⟩:=h; exact⟨as,e,ll h⟩
 | _=>exact rT h
theorem py {b b2:Nat}{x:AObj}{bo co no:Nat}{f:Nat→Option (Nat×Nat×Nat)}(hp:π b=some (.rls bo co no f))(hbo:bo≠b2)(H:∀ c o l y,S.get c=some o→c≠b→π c=some l→l.has y→y≠b2)(Hh:∀ q o b3 c3 n3,S.get q=some o→π q=some (.hnd b3 c3 n3)→b3≠b2){d:DV}{a:AV}
  (h:RelV π (dh S b d) a):RelV π (dh S b d) (fv b2 x [] a):=by
 have keep:∀ q d0,(∀ o,S.get q=some o→RelV π d0 a→RelV π d0 (fv b2 x [] a))→RelV π (bg S q d0) a→RelV π (bg S q d0) (fv b2 x [] a):=fun q d0 h1 h2=>by
  unfold bg at h2 ⊢;split
  ·rename_i o ho; simp only[ho]at h2; exact h1 o ho h2
  ·simp only[RelV]
 cases d with
 | slr q=>
  simp only[dh]at h ⊢;cases hc:Nat.beq q b with
  | true=>
   rw[hc]at h;obtain rfl:=aj.1 hc;simp only[cond_true]at h ⊢;have h0:=h;simp only[RelV]at h;rcases h with⟨b3,c3,n3,f3,hp3,rfl⟩ | ⟨hp3,rfl⟩
   ·rw[hp]at hp3; cases hp3;simp only[fv]; rw[if_neg hbo]; exact h0
   ·exact h0
  | false=>
   rw[hc]at h;simp only[cond_false]at h ⊢;refine keep q _ (fun o ho h=>?_) h;have h0:=h;simp only[RelV]at h;rcases h with⟨b3,c3,n3,f3,hp3,rfl⟩ | ⟨hp3,rfl⟩
   ·simp only[fv]; rw[if_neg (H q o _ b3 ho (fun e=>by subst e; simp at hc) hp3 (.inl rfl))]; exact h0
   ·exact h0
 | slc q=>
  refine keep q _ (fun o ho h=>?_) h;have h0:=h;simp only[RelV]at h;rcases h with⟨b3,c3,n3,hp3,rfl⟩ | ⟨hp3,rfl⟩
  ·simp only[fv]; rw[if_neg (H q o _ b3 ho (fun e=>by subst e; rw[hp]at hp3; cases hp3) hp3 rfl)]; exact h0
  ·exact h0
 | slh q=>
  refine keep q _ (fun o ho h=>?_) h;have h0:=h;simp only[RelV]at h;obtain⟨b3,c3,n3,hp3,rfl⟩:=h;simp only[fv]; rw[if_neg (Hh q o b3 _ _ ho hp3)]; exact h0
 | hrow b i=>have h0:=h; simp only[dh,RelV]at h; obtain⟨_,_,_,_,_,rfl⟩:=h; exact h0
 | ptr q o2=>
  refine keep q _ (fun o ho h=>?_) h;have h0:=h;simp only[RelV]at h;obtain⟨b3,c3,n3,hp3,rfl⟩:=h;simp only[fv]; rw[if_neg (H q o _ b3 ho (fun e=>by subst e; rw[hp]at hp3; cases hp3) hp3 rfl)]; exact h0
 | irow q i=>
  simp only[dh]at h ⊢;cases hc:Nat.beq q b with
  | true=>simp only[cond_true,RelV]
  | false=>
   rw[hc]at h;simp only[cond_false]at h ⊢;refine keep q _ (fun o ho h=>?_) h;have h0:=h;simp only[RelV]at h;obtain⟨b3,c3,n3,f3,hp3,hi3,rfl⟩:=h;rw[jZ fun p hf=>H q o _ p.1 ho (fun e=>by subst e; simp at hc) hp3 (.inr ⟨i,p,hi3,hf,rfl⟩)]; exact h0
 | pel q k o2=>
  refine keep q _ (fun o ho h=>?_) h;have h0:=h;simp only[RelV]at h;obtain⟨g3,x3,hp3,hg3,rfl⟩:=h;simp only[fv]; rw[if_neg (H q o _ x3 ho (fun e=>by subst e; rw[hp]at hp3; cases hp3) hp3 ⟨k,hg3⟩)]; exact h0
 | v y=>
  have:a.frz=true:=bF (by simpa only[dh,RelV]using h) a (by simp);rw[jX this]; exact h
 | undef=>simp only[dh,RelV]
 | emp=>simp only[dh,RelV]at h; subst h; simp only[dh,fv,RelV]
 | nilp=>simp only[dh,RelV]at h; subst h; simp only[dh,fv,RelV]
 | nilm=>simp only[dh,RelV]at h; subst h; simp only[dh,fv,RelV]
 | agg ds=>have h0:=h; simp only[dh,RelV]at h; obtain⟨as,rfl,_⟩:=h; exact h0
 | tup ds=>have h0:=h; simp only[dh,RelV]at h; obtain⟨as,rfl,_⟩:=h; exact h0
 | elm ds=>have h0:=h; simp only[dh,RelV]at h; obtain⟨as,rfl,_⟩:=h; exact h0
 | fn f ds=>have h0:=h; simp only[dh,RelV]at h; obtain⟨as,rfl,_⟩:=h; rcases iJ f as with⟨_,e⟩ | ⟨_,e⟩ <;> (rw[e]at h0 ⊢; exact h0)
 | rptr b k i j=>have h0:=h; simp only[dh,RelV]at h; obtain⟨_,_,_,_,_,rfl⟩:=h; exact h0
 | slo b k i j=>have h0:=h; simp only[dh,RelV]at h; obtain⟨_,_,_,_,_,rfl⟩:=h; exact h0
 | mp b=>have h0:=h; simp only[dh,RelV]at h; obtain⟨_,_,_,_,rfl⟩:=h; exact h0
 | stk b=>have h0:=h; simp only[dh,RelV]at h; obtain⟨_,_,rfl⟩:=h; exact h0
 | orow b i=>have h0:=h; simp only[dh,RelV]at h; obtain⟨_,_,_,_,_,_,rfl⟩:=h; exact h0
 | iptr b k i j o=>have h0:=h; simp only[dh,RelV]at h; obtain⟨_,_,_,_,_,_,_,_,_,_,_,rfl⟩:=h; exact h0
 | mpl b=>have h0:=h; simp only[dh,RelV]at h; obtain⟨_,_,rfl⟩:=h; exact h0
 | whn g d=>have h0:=h; simp only[dh,RelV]at h; obtain⟨_,rfl,_⟩:=h; exact h0
theorem jo {b b2:Nat}{x:AObj}{bo co no:Nat}{f:Nat→Option (Nat×Nat×Nat)}(hp:π b=some (.rls bo co no f))(hbo:bo≠b2)(H:∀ c o l y,S.get c=some o→c≠b→π c=some l→l.has y→y≠b2)(Hh:∀ q o b3 c3 n3,S.get q=some o→π q=some (.hnd b3 c3 n3)→b3≠b2):∀ {ds:List DV} {as:List AV},
  RelVs π (ds.map (dh S b)) as→RelVs π (ds.map (dh S b)) (as.map (fv b2 x []))
 | [],as,h=>by simp only[List.map_nil,RelVs]at h; subst h; exact RelVs_nil
 | d::ds,as,h=>by
  simp only[List.map_cons,RelVs]at h;obtain⟨a,as',rfl,h1,h2⟩:=h;exact RelVs_cons (py hp hbo H Hh h1) (jo hp hbo H Hh h2)
theorem DU {b b2:Nat}{x:AObj}{D:List AV}{d:DV}{a:AV}(hn:∀ ds,d ≠ .agg ds∧d ≠ .tup ds)(h:RelV π (dh S b d) a):dh S b d = .undef∨hY b2 x D a=fv b2 x D a:=by
 have keep:∀ q d0,(RelV π d0 a→hY b2 x D a=fv b2 x D a)→RelV π (bg S q d0) a→bg S q d0 = .undef∨hY b2 x D a=fv b2 x D a:=fun q d0 h1 h2=>by
  unfold bg at h2 ⊢;split
  ·rename_i o ho; simp only[ho]at h2; exact .inr (h1 h2)
  ·exact .inl rfl
 have slr:∀ q,RelV π (.slr q) a→hY b2 x D a=fv b2 x D a:=fun q h=>by
  simp only[RelV]at h;rcases h with⟨_,_,_,_,_,rfl⟩ | ⟨_,rfl⟩ <;> rfl
 have irow:∀ q i,RelV π (.irow q i) a→hY b2 x D a=fv b2 x D a:=fun q i h=>by
  simp only[RelV]at h;obtain⟨_,_,_,f3,_,_,rfl⟩:=h;cases f3 i <;> rfl
 cases d with
 | slr q=>
  simp only[dh]at h ⊢;cases hc:Nat.beq q b with
  | true=>rw[hc]at h; exact .inr (slr q h)
  | false=>rw[hc]at h; exact keep q _ (slr q) h
 | slc q=>exact keep q _ (fun h=>by simp only[RelV]at h; rcases h with⟨_,_,_,_,rfl⟩ | ⟨_,rfl⟩ <;> rfl) h
 | ptr q o=>exact keep q _ (fun h=>by simp only[RelV]at h; obtain⟨_,_,_,_,rfl⟩:=h; rfl) h
 | slh q=>exact keep q _ (fun h=>by simp only[RelV]at h; obtain⟨_,_,_,_,rfl⟩:=h; rfl) h
 | hrow b i=>simp only[dh,RelV]at h; obtain⟨_,_,_,_,_,rfl⟩:=h; exact .inr rfl
 | irow q i=>
  simp only[dh]at h ⊢;cases hc:Nat.beq q b with
  | true=>exact .inl rfl
  | false=>rw[hc]at h; exact keep q _ (irow q i) h
 | pel q k o=>exact keep q _ (fun h=>by simp only[RelV]at h; obtain⟨_,_,_,_,rfl⟩:=h; rfl) h
 | v y=>
  have:a.frz=true:=bF (by simpa only[dh,RelV]using h) a (by simp);right;cases a <;> simp[AV.frz]at this <;> rfl
 | undef=>exact .inl rfl
 | agg ds=>exact absurd rfl (hn ds).1
 | tup ds=>exact absurd rfl (hn ds).2
 | emp=>simp only[dh,RelV]at h; subst h; exact .inr rfl
 | nilp=>simp only[dh,RelV]at h; subst h; exact .inr rfl
 | nilm=>simp only[dh,RelV]at h; subst h; exact .inr rfl
 | elm ds=>simp only[dh,RelV]at h; obtain⟨as,rfl,_⟩:=h; exact .inr rfl
 | fn f ds=>simp only[dh,RelV]at h; obtain⟨as,rfl,_⟩:=h; right; rcases iJ f as with⟨_,e⟩ | ⟨_,e⟩ <;> (rw[e]; rfl)
 | rptr b k i j=>simp only[dh,RelV]at h; obtain⟨_,_,_,_,_,rfl⟩:=h; exact .inr rfl
 | slo b k i j=>simp only[dh,RelV]at h; obtain⟨_,_,_,_,_,rfl⟩:=h; exact .inr rfl
 | mp b=>simp only[dh,RelV]at h; obtain⟨_,_,_,_,rfl⟩:=h; exact .inr rfl
 | stk b=>simp only[dh,RelV]at h; obtain⟨_,_,rfl⟩:=h; exact .inr rfl
 | orow b i=>simp only[dh,RelV]at h; obtain⟨_,_,_,_,_,_,rfl⟩:=h; exact .inr rfl
 | iptr b k i j o=>simp only[dh,RelV]at h; obtain⟨_,_,_,_,_,_,_,_,_,_,_,rfl⟩:=h; exact .inr rfl
 | mpl b=>simp only[dh,RelV]at h; obtain⟨_,_,rfl⟩:=h; exact .inr rfl
 | whn g d=>simp only[dh,RelV]at h; obtain⟨_,rfl,_⟩:=h; exact .inr rfl
theorem xz {b:Nat}{d:DV}{a:AV}(hn:∀ ds,d ≠ .agg ds∧d ≠ .tup ds):vL π S b d a=RelV π (dh S b d) a:=by
 cases d with
 | agg ds=>exact absurd rfl (hn ds).1
 | tup ds=>exact absurd rfl (hn ds).2
 | _=>rfl
theorem tJ {b b2:Nat}{x:AObj}{bo co no:Nat}{f:Nat→Option (Nat×Nat×Nat)}(hp:π b=some (.rls bo co no f))(hbo:bo≠b2)(H:∀ c o l y,S.get c=some o→c≠b→π c=some l→l.has y→y≠b2)(Hh:∀ q o b3 c3 n3,S.get q=some o→π q=some (.hnd b3 c3 n3)→b3≠b2){d:DV}{a:AV}
  (h:vL π S b d a):vL π S b d (hY b2 x [] a):=by
 by_cases hn:∀ ds,d ≠ .agg ds∧d ≠ .tup ds
 ·rw[xz hn]at h ⊢;rcases DU (b2:=b2) (x:=x) (D:=[]) hn h with e | e
  ·rw[e]; simp only[RelV]
  ·rw[e]; exact py hp hbo H Hh h
 ·cases d with
  | agg ds=>obtain⟨as,rfl,h⟩:=h; exact⟨_,rfl,jo hp hbo H Hh h⟩
  | tup ds=>obtain⟨as,rfl,h⟩:=h; exact⟨_,rfl,jo hp hbo H Hh h⟩
  | _=>exact absurd (fun ds=>⟨by simp,by simp⟩) hn
structure Frzn (π:Pi) (Fr:Store) (S:DSt) (b:Nat) (e:DEnv) (T T':Nat) (t:Ty) (l:List (List t.den)) (bo co:Nat) (f:Nat→Option (Nat×Nat×Nat)) (s0:Store) (e0:Env) (k:Nat) (ek:Env) (sk:Store):Prop where
 wk:Wk s0 e0 sk ek
 env:∀ u d,fnd e u=some d→vL π S b d (ek u)
 st:RelS π Fr ⟨S.nx,ba (qd S b) (fe S.m b)⟩ sk
 out:∃ xs,sk bo=some (.row T 1 co xs)∧xs.length=l.length∧(∀ i,i < l.length→i < k→∃ a,xs.getD i []=[a]∧CR (.sl t) (l.getD i []) [a])∧∀ i,i < l.length→k≤i→xs.getD i []=[ilv (f i)]∧IR sk T' t (f i) (l.getD i [])
theorem tK (hS:RelS π Fr S s')(hpk:eP S=true){b:Nat}{e:DEnv}{T T':Nat}{t:Ty}{l:List (List t.den)}{bo co:Nat}{f:Nat→Option (Nat×Nat×Nat)}(hb:S.get b=some (.rows T T' t l))(hp:π b=some (.rls bo co l.length f))
  (hne:∀ i p,i < l.length→f i=some p→p.1≠bo) (hdj:∀ i j p q,i < l.length→j < l.length→f i=some p→f j=some q→p.1=q.1→i=j) {s0:Store} {e0:Env} {k:Nat} (hk:k < l.length) {ek:Env} {sk:Store} (h:Frzn π Fr S b e T T' t l bo co f s0 e0 k ek sk) :
  ∃ ek1 sk1,Frzn π Fr S b e T T' t l bo co f s0 e0 (k+1) ek1 sk1:=by
 obtain⟨hwk,henv,hst,xs,hxs,hxl,hx1,hx2⟩:=h;obtain⟨hxk,hIk⟩:=hx2 k hk (Nat.le_refl _);cases hf:f k with
 | none=>
  rw[hf]at hxk hIk;refine⟨ek,sk,hwk,henv,hst,xs,hxs,hxl,fun i hi hik=>?_,fun i hi hik=>hx2 i hi (by omega)⟩;by_cases e1:i=k
  ·subst e1; exact⟨_,hxk,.inl ⟨rfl,hIk⟩⟩
  ·exact hx1 i hi (by omega)
 | some q=>
  obtain⟨b2,c2,n2⟩:=q;rw[hf]at hxk hIk;obtain⟨hn2,hc2,ys,hs2,hy⟩:=hIk;have hh2:Loc.has (.rls bo co l.length f) b2:=.inr ⟨k,_,hk,hf,rfl⟩;have hbo:bo≠b2:=fun e=>hne k _ hk hf e.symm;have H:∀ c o lc y,S.get c=some o→c≠b→π c=some lc→lc.has y→y≠b2:=fun c o lc y h1 h2 h3 h4 e=>h2 (hS.inj' _ _ _ _ _ _ _ h1 hb h3 hp h4 (e▸hh2));have Hh:∀ q o b3 c3 n3,S.get q=some o→π q=some (.hnd b3 c3 n3)→b3≠b2:=fun q o b3 c3 n3 h1 h2=>by
   obtain⟨p4,o4,f4,h4,hp4⟩:=mf hS hpk h1 h2;by_cases e:p4=b
   ·subst e; rw[hp]at hp4; cases hp4; exact hbo
   ·exact H p4 o4 _ b3 h4 e hp4 (.inl rfl)
  have hF2:Fr b2=none:=hS.out' _ _ _ _ hb hp hh2;have hFo:Fr bo=none:=hS.out' _ _ _ _ hb hp (.inl rfl)
  let x:AObj:=.row T' t.w c2 ys
  have hfrz:nZ x:=fun l2 hl a ha=>by
   obtain⟨i,hi,rfl⟩:=List.getElem_of_mem hl;have:=hy.2 i (by rw[← hy.1]; exact hi);have e3:ys.getD i []=ys[i]:=by simp[List.getD_eq_getElem?_getD,List.getElem?_eq_getElem hi]
   rw[e3]at this;exact bF this a ha
  let s1:Store:=fun c'=>if c'=b2 then none else match Fr c' with
   | none=>(sk c').map (oY b2 x [])
   | some _=>sk c'
  have s1v:∀ c' y,c'≠b2→Fr c'=none→sk c'=some y→s1 c'=some (oY b2 x [] y):=fun c' y h1 h2 h3=>by
   show(if c'=b2 then none else _)=_;rw[if_neg h1];simp only[h2,h3,Option.map_some]
  have get:∀ c,(⟨S.nx,ba (qd S b) (fe S.m b)⟩:DSt).get c=(if c=b then none else S.get c).map (qd S b):=fun c=>by
   show fnd (ba _ _) c=_;rw[aV,cG]; rfl
  have live:∀ c o,(⟨S.nx,ba (qd S b) (fe S.m b)⟩:DSt).get c=some o→c≠b∧∃ o0,S.get c=some o0∧o=qd S b o0:=fun c o hc=>by
   rw[get]at hc;split at hc
   ·cases hc
   ·rename_i hne;cases hg:S.get c with
    | none=>rw[hg]at hc; cases hc
    | some o0=>rw[hg]at hc; cases hc; exact⟨hne,o0,rfl,rfl⟩
  have H':∀ c o lc y,(⟨S.nx,ba (qd S b) (fe S.m b)⟩:DSt).get c=some o→c≠b→π c=some lc→lc.has y→y≠b2:=fun c o lc y h1 h2 h3 h4=>by
   obtain⟨_,o0,h0,_⟩:=live c o h1;exact H c o0 lc y h0 h2 h3 h4
  have hpk':∀ c p,(⟨S.nx,ba (qd S b) (fe S.m b)⟩:DSt).get c=some (.pmap p)→∃ o,(⟨S.nx,ba (qd S b) (fe S.m b)⟩:DSt).get p=some o:=fun c p hc=>by
   obtain⟨_,o0,h0,e0⟩:=live c _ hc;have:o0 = .pmap p:=by cases o0 <;> simp[qd]at e0; rw[e0]
   subst this;obtain⟨o,ho⟩:=iP hpk h0;have hpb:p≠b:=fun e=>by
    subst e;obtain⟨_,_,_,g,_,q2,_⟩:=hS.obj _ _ h0;rw[hp]at q2; cases q2
   exact⟨qd S b o,by rw[get,if_neg hpb,ho]; rfl⟩
  refine⟨fun u=>hY b2 x [] (ek u),s1,hwk.trans (Wk.frz [] hs2 hfrz ?_ (fun c'=>?_) (fun u=>.inr (.inr rfl))),fun u d hu=>tJ hp hbo H Hh (henv u d hu),⟨fun c o hc=>?_,hst.inj',fun b3 y h3=>?_,hst.out',hst.nx⟩,xs.map fun l=>l.map (fv b2 x []),?_,by simpa using hxl,fun i hi hik=>?_,fun i hi hik=>?_⟩
  ·show(if b2=b2 then none else _)=none;rw[if_pos rfl]
  ·by_cases hcb:c'=b2
   ·left; show(if c'=b2 then none else _)=none; rw[if_pos hcb]
   ·cases hfr:Fr c' with
    | none=>right; right; show(if c'=b2 then none else _)=_; rw[if_neg hcb]; simp only[hfr]; rfl
    | some y=>right; left; show(if c'=b2 then none else _)=_; rw[if_neg hcb]; simp only[hfr]
  ·obtain⟨hne',o0,h0,rfl⟩:=live c o hc;have hO:=hst.obj _ _ hc;cases o0 with
   | box cs=>
    obtain⟨b3,c3,n3,as,g1,g2,g3⟩:=hO;exact⟨b3,c3,n3,_,g1,s1v _ _ (H _ _ _ _ h0 hne' g1 rfl) (hS.out' _ _ _ _ h0 g1 rfl) g2,jo hp hbo H Hh g3⟩
   | _=>exact ox (x:=x) (D:=[]) hst hpk' s1v H' (fun g hg=>by rw[hp]at hg; cases hg) hc hne' (fun cs h=>by cases h)
  ·have:b3≠b2:=fun e=>by rw[e,hF2]at h3; cases h3
   show(if b3=b2 then none else _)=_;rw[if_neg this];simp only[h3];exact hst.frm _ _ h3
  ·exact s1v _ _ hbo hFo hxs
  ·have hi':i < xs.length:=by rw[hxl]; exact hi
   have e3:(xs.map fun l=>l.map (fv b2 x [])).getD i []=(xs.getD i []).map (fv b2 x []):=by
    simp[List.getD_eq_getElem?_getD,List.getElem?_map,hi']
   rw[e3];by_cases e1:i=k
   ·subst e1;rw[hxk];refine⟨_,rfl,.inr ⟨fun j=>ys.getD j [],?_,hy.2⟩⟩;simp only[ilv,fv,if_true,x];rw[if_pos ⟨by rw[hn2,hy.1]; exact Nat.le_refl _,hc2⟩,hn2]
   ·obtain⟨a,ha,hcr⟩:=hx1 i hi (by omega);rw[ha];exact⟨a,by rw[List.map_cons,List.map_nil,jX (bF hcr a (by simp))],hcr⟩
  ·have hi':i < xs.length:=by rw[hxl]; exact hi
   have e3:(xs.map fun l=>l.map (fv b2 x [])).getD i []=(xs.getD i []).map (fv b2 x []):=by
    simp[List.getD_eq_getElem?_getD,List.getElem?_map,hi']
   obtain⟨g1,g2⟩:=hx2 i hi (by omega);have nb:∀ p,f i=some p→p.1≠b2:=fun p hpi e1=>by
    have:=hdj i k p _ hi hk hpi hf e1;omega
   rw[e3,g1,List.map_cons,List.map_nil,jZ nb];refine⟨rfl,?_⟩;cases hfi:f i with
   | none=>rw[hfi]at g2; exact g2
   | some p=>
    obtain⟨b3,c3,n3⟩:=p;rw[hfi]at g2;obtain⟨k1,k2,zs,k3,k4⟩:=g2;refine⟨k1,k2,zs,?_,k4⟩;rw[s1v _ _ (nb _ hfi) (hS.out' _ _ _ _ hb hp (.inr ⟨i,_,hi,hfi,rfl⟩)) k3];simp only[x,oY,eQ k4]
theorem mg {b:Nat}{bo co no:Nat}{f:Nat→Option (Nat×Nat×Nat)}(hp:π b=some (.rls bo co no f))(hx:Ext π (addP π S.nx (.real bo co no))){d:DV}{a:AV}(h:RelV π (dh S b d) a):RelV (addP π S.nx (.real bo co no)) (ul S b d) a:=by
 cases d with
 | slr q=>
  simp only[dh,ul]at h ⊢;cases hc:Nat.beq q b with
  | true=>
   rw[hc]at h;obtain rfl:=aj.1 hc;simp only[cond_true]at h ⊢;simp only[RelV]at h ⊢;rcases h with⟨b3,c3,n3,f3,hp3,rfl⟩ | ⟨hp3,rfl⟩
   ·rw[hp]at hp3; cases hp3;exact .inl ⟨bo,_,_,addP_same _ _ _,rfl⟩
   ·rw[hp]at hp3; cases hp3
  | false=>rw[hc]at h; exact h.ext hx
 | irow q i=>
  simp only[dh,ul]at h ⊢;cases hc:Nat.beq q b with
  | true=>simp only[cond_true,RelV]
  | false=>rw[hc]at h; exact h.ext hx
 | _=>exact h.ext hx
theorem eR {b:Nat}{bo co no:Nat}{f:Nat→Option (Nat×Nat×Nat)}(hp:π b=some (.rls bo co no f))(hx:Ext π (addP π S.nx (.real bo co no))):∀ {ds:List DV} {as:List AV},RelVs π (ds.map (dh S b)) as→RelVs (addP π S.nx (.real bo co no)) (ds.map (ul S b)) as
 | [],as,h=>by simp only[List.map_nil,RelVs]at h; subst h; exact RelVs_nil
 | d::ds,as,h=>by
  simp only[List.map_cons,RelVs]at h;obtain⟨a,as',rfl,h1,h2⟩:=h;exact RelVs_cons (mg hp hx h1) (eR hp hx h2)
theorem pA {b:Nat}(hp:π b=some .virt)(hx:Ext π (addP π S.nx .virt)){d:DV}{a:AV}(h:RelV π d a):RelV (addP π S.nx .virt) (ul S b d) a:=by
 cases d with
 | slr q=>
  simp only[ul];cases hc:Nat.beq q b with
  | true=>
   obtain rfl:=aj.1 hc;simp only[cond_true];simp only[RelV]at h ⊢;rcases h with⟨b3,c3,n3,f3,hp3,rfl⟩ | ⟨hp3,rfl⟩
   ·rw[hp]at hp3; cases hp3
   ·exact .inr ⟨addP_same _ _ _,rfl⟩
  | false=>exact aX (h.ext hx)
 | slc q=>exact aX (h.ext hx)
 | slh q=>exact aX (h.ext hx)
 | ptr q o=>exact aX (h.ext hx)
 | irow q i=>
  simp only[ul];cases hc:Nat.beq q b with
  | true=>simp only[cond_true,RelV]
  | false=>exact aX (h.ext hx)
 | pel q k o=>exact aX (h.ext hx)
 | _=>exact h.ext hx
theorem gX {b:Nat}(hp:π b=some .virt)(hx:Ext π (addP π S.nx .virt)):∀ {ds:List DV} {as:List AV},RelVs π ds as→RelVs (addP π S.nx .virt) (ds.map (ul S b)) as
 | [],as,h=>by simp only[RelVs]at h; subst h; exact RelVs_nil
 | d::ds,as,h=>by
  simp only[RelVs]at h;obtain⟨a,as',rfl,h1,h2⟩:=h;exact RelVs_cons (pA hp hx h1) (gX hp hx h2)
theorem qO (hS:RelS π Fr S s')(hpk:eP S=true){e:DEnv}{e':Env}(hE:RelE π e e'){b T T':Nat}{t:Ty}{l:List (List t.den)}(hb:S.get b=some (.rows T T' t l)):
  ∃ π1 e1' s1,Ext π π1∧Wk s' e' s1 e1'∧RelE π1 (ba (EY S b) e) e1'∧RelS π1 Fr ⟨S.nx+1,ju (ba (DP S b) (fe S.m b)) S.nx (.row T (.sl t) l)⟩ s1:=by
 have get:∀ c,(⟨S.nx+1,ju (ba (DP S b) (fe S.m b)) S.nx (.row T (.sl t) l)⟩:DSt).get c=if c=S.nx then some (.row T (.sl t) l)else(if c=b then none else S.get c).map (DP S b):=fun c=>by
  show fnd (ju (ba _ _) _ _) c=_;rw[cF,aV,cG]; rfl
 have inv:∀ c o,(⟨S.nx+1,ju (ba (DP S b) (fe S.m b)) S.nx (.row T (.sl t) l)⟩:DSt).get c=some o→(c=S.nx∧o = .row T (.sl t) l)∨(c≠S.nx∧c≠b∧∃ o0,S.get c=some o0∧o=DP S b o0):=fun c o hc=>by
  rw[get]at hc;split at hc
  ·rename_i e1; cases hc; exact .inl ⟨e1,rfl⟩
  ·rename_i e1;split at hc
   ·cases hc
   ·rename_i e2;cases hg:S.get c with
    | none=>rw[hg]at hc; cases hc
    | some o0=>rw[hg]at hc; cases hc; exact .inr ⟨e1,e2,o0,rfl,rfl⟩
 rcases hS.obj _ _ hb with⟨hv,rfl⟩ | ⟨bo,co,f,hp,hR⟩
 ·have hx:Ext π (addP π S.nx .virt):=aW (hS.nx _ (Nat.le_refl _)) _;refine⟨_,e',s',hx,Wk.refl _ _,fun u d hu=>?_,fun c o hc=>?_,fun b1 b2 o1 o2 l1 l2 y h1 h2 p1 p2 x1 x2=>?_,hS.frm,fun c o lc y hc hl hy=>?_,fun c hc=>?_⟩
  ·rw[aV]at hu;cases hg:fnd e u with
   | none=>rw[hg]at hu; cases hu
   | some d0=>
    rw[hg]at hu;cases hu;have hd:=hE u d0 hg;cases d0 with
    | agg cs=>
     simp only[EY];simp only[RelV]at hd ⊢;obtain⟨as,e1,hd⟩:=hd;exact⟨as,e1,gX hv hx hd⟩
    | tup cs=>
     simp only[EY];simp only[RelV]at hd ⊢;obtain⟨as,e1,hd⟩:=hd;exact⟨as,e1,gX hv hx hd⟩
    | _=>exact pA hv hx hd
  ·rcases inv c o hc with⟨rfl,rfl⟩ | ⟨e1,e2,o0,h0,rfl⟩
   ·exact .inl ⟨addP_same _ _ _,rfl⟩
   ·have hO:=hS.obj _ _ h0;cases o0 with
    | box cs=>
     obtain⟨b3,c3,n3,as,g1,g2,g3⟩:=hO;exact⟨b3,c3,n3,as,hx _ _ g1,g2,gX hv hx g3⟩
    | _=>exact hO.mono hx fun _ _ _ _=>rfl
  ·have f1:b1≠S.nx:=fun e=>by rw[e,addP_same]at p1; cases p1; exact x1
   have f2:b2≠S.nx:=fun e=>by rw[e,addP_same]at p2; cases p2; exact x2
   rcases inv _ _ h1 with⟨e1,_⟩ | ⟨_,_,o3,h3,_⟩
   ·exact absurd e1 f1
   ·rcases inv _ _ h2 with⟨e1,_⟩ | ⟨_,_,o4,h4,_⟩
    ·exact absurd e1 f2
    ·rw[addP_ne _ _ f1]at p1;rw[addP_ne _ _ f2]at p2;exact hS.inj' _ _ _ _ _ _ _ h3 h4 p1 p2 x1 x2
  ·have f1:c≠S.nx:=fun e=>by rw[e,addP_same]at hl; cases hl; exact hy
   rcases inv _ _ hc with⟨e1,_⟩ | ⟨_,_,o3,h3,_⟩
   ·exact absurd e1 f1
   ·rw[addP_ne _ _ f1]at hl;exact hS.out' _ _ _ _ h3 hl hy
  ·have hc:S.nx+1≤c:=hc;rw[addP_ne _ _ (by omega)]; exact hS.nx _ (by omega)
 ·have hx:Ext π (addP π S.nx (.real bo co l.length)):=aW (hS.nx _ (Nat.le_refl _)) _;have getk:∀ c,(⟨S.nx,ba (qd S b) (fe S.m b)⟩:DSt).get c=(if c=b then none else S.get c).map (qd S b):=fun c=>by
   show fnd (ba _ _) c=_;rw[aV,cG]; rfl
  have livek:∀ c o,(⟨S.nx,ba (qd S b) (fe S.m b)⟩:DSt).get c=some o→c≠b∧∃ o0,S.get c=some o0∧o=qd S b o0:=fun c o hc=>by
   rw[getk]at hc;split at hc
   ·cases hc
   ·rename_i hne;cases hg:S.get c with
    | none=>rw[hg]at hc; cases hc
    | some o0=>rw[hg]at hc; cases hc; exact⟨hne,o0,rfl,rfl⟩
  have all:∀ k,k≤l.length→∃ ek sk,Frzn π Fr S b e T T' t l bo co f s' e' k ek sk:=fun k=>by
   induction k with
   | zero=>
    intro _;obtain⟨xs,h1,h2,h3⟩:=hR.ex;refine⟨e',s',Wk.refl _ _,fun u d hu=>xy (hE u d hu),⟨fun c o hc=>?_,fun b1 b2 o1 o2 l1 l2 y g1 g2 p1 p2 x1 x2=>?_,hS.frm,fun c o lc y hc hl hy=>?_,hS.nx⟩,xs,h1,h2,fun i _ hi=>by omega,fun i hi _=>⟨h3 i hi,hR.ir i hi⟩⟩
    ·obtain⟨_,o0,h0,rfl⟩:=livek c o hc;have hO:=hS.obj _ _ h0;cases o0 with
     | box cs=>
      obtain⟨b3,c3,n3,as,g1,g2,g3⟩:=hO;exact⟨b3,c3,n3,as,g1,g2,ll g3⟩
     | _=>exact hO
    ·obtain⟨_,o3,h3,_⟩:=livek _ _ g1;obtain⟨_,o4,h4,_⟩:=livek _ _ g2;exact hS.inj' _ _ _ _ _ _ _ h3 h4 p1 p2 x1 x2
    ·obtain⟨_,o3,h3,_⟩:=livek _ _ hc;exact hS.out' _ _ _ _ h3 hl hy
   | succ k ih=>
    intro hk;obtain⟨ek,sk,h⟩:=ih (by omega);exact tK hS hpk hb hp hR.ne hR.dj (by omega) h
  obtain⟨ek,sk,hwk,henv,hst,xs,hxs,hxl,hx1,_⟩:=all l.length (Nat.le_refl _);have crs:kP (.sl t) l xs:=⟨hxl,fun i hi=>by
   obtain⟨a,ha,hcr⟩:=hx1 i hi hi;rw[ha]; exact hcr⟩
  have notnx:∀ {c o},S.get c=some o→c≠S.nx:=fun {c o} h=>by
   obtain⟨lc,hl⟩:=(hS.obj _ _ h).loc;exact hS.lt hl
  refine⟨_,ek,sk,hx,hwk,fun u d hu=>?_,fun c o hc=>?_,fun b1 b2 o1 o2 l1 l2 y h1 h2 p1 p2 x1 x2=>?_,hst.frm,fun c o lc y hc hl hy=>?_,fun c hc=>?_⟩
  ·rw[aV]at hu;cases hg:fnd e u with
   | none=>rw[hg]at hu; cases hu
   | some d0=>
    rw[hg]at hu;cases hu;have hd:=henv u d0 hg;cases d0 with
    | agg cs=>
     obtain⟨as,e1,hd⟩:=hd;simp only[EY,RelV];exact⟨as,e1,eR hp hx hd⟩
    | tup cs=>
     obtain⟨as,e1,hd⟩:=hd;simp only[EY,RelV];exact⟨as,e1,eR hp hx hd⟩
    | _=>exact mg hp hx hd
  ·rcases inv c o hc with⟨rfl,rfl⟩ | ⟨e1,e2,o0,h0,rfl⟩
   ·exact .inr ⟨bo,co,xs,addP_same _ _ _,hR.cap,hxs,crs⟩
   ·have hk:(⟨S.nx,ba (qd S b) (fe S.m b)⟩:DSt).get c=some (qd S b o0):=by rw[getk,if_neg e2,h0]; rfl
    have hO:=hst.obj _ _ hk;cases o0 with
    | box cs=>
     obtain⟨b3,c3,n3,as,g1,g2,g3⟩:=hO;exact⟨b3,c3,n3,as,hx _ _ g1,g2,eR hp hx g3⟩
    | _=>exact hO.mono hx fun _ _ _ _=>rfl
  ·have key:∀ c o lc y,c≠S.nx→(⟨S.nx+1,ju (ba (DP S b) (fe S.m b)) S.nx (.row T (.sl t) l)⟩:DSt).get c=some o→π c=some lc→lc.has y→y≠bo:=fun c o lc y hne hc hl hy e=>by
    rcases inv _ _ hc with⟨e1,_⟩ | ⟨_,e2,o3,h3,_⟩
    ·exact hne e1
    ·exact e2 (hS.inj' _ _ _ _ _ _ _ h3 hb hl hp hy (by rw[e]; exact .inl rfl))
   by_cases f1:b1=S.nx <;> by_cases f2:b2=S.nx
   ·rw[f1,f2]
   ·rw[f1,addP_same]at p1; cases p1;rw[addP_ne _ _ f2]at p2;exact absurd x1 (key _ _ _ _ f2 h2 p2 x2)
   ·rw[f2,addP_same]at p2; cases p2;rw[addP_ne _ _ f1]at p1;exact absurd x2 (key _ _ _ _ f1 h1 p1 x1)
   ·rw[addP_ne _ _ f1]at p1;rw[addP_ne _ _ f2]at p2;rcases inv _ _ h1 with⟨e1,_⟩ | ⟨_,_,o3,h3,_⟩
    ·exact absurd e1 f1
    ·rcases inv _ _ h2 with⟨e1,_⟩ | ⟨_,_,o4,h4,_⟩
     ·exact absurd e1 f2
     ·exact hS.inj' _ _ _ _ _ _ _ h3 h4 p1 p2 x1 x2
  ·by_cases f1:c=S.nx
   ·rw[f1,addP_same]at hl; cases hl;cases hy;exact hS.out' _ _ _ _ hb hp (.inl rfl)
   ·rw[addP_ne _ _ f1]at hl;rcases inv _ _ hc with⟨e1,_⟩ | ⟨_,_,o3,h3,_⟩
    ·exact absurd e1 f1
    ·exact hS.out' _ _ _ _ h3 hl hy
  ·have hc:S.nx+1≤c:=hc;rw[addP_ne _ _ (by omega)]; exact hS.nx _ (by omega)
theorem rU {b p bo co no:Nat}{f:Nat→Option (Nat×Nat×Nat)}(hb:π b=some (.hnd bo co no))(hp:π p=some (.rls bo co no f)){d:DV}{a:AV}(h:RelV π d a):RelV π (zF b p d) a:=by
 cases d with
 | slh q=>
  simp only[zF];cases hc:Nat.beq q b with
  | true=>
   obtain rfl:=aj.1 hc;simp only[RelV]at h;obtain⟨b',c',n',h1,rfl⟩:=h;rw[hb]at h1; cases h1;simp only[cond_true,RelV];exact .inl ⟨bo,_,_,_,hp,rfl⟩
  | false=>exact h
 | hrow q i=>
  simp only[zF];cases hc:Nat.beq q b with
  | true=>
   obtain rfl:=aj.1 hc;simp only[RelV]at h;obtain⟨b',c',n',h1,hi,rfl⟩:=h;rw[hb]at h1; cases h1;simp only[cond_true,RelV];exact⟨bo,_,_,_,hp,hi,rfl⟩
  | false=>exact h
 | _=>exact h
theorem lm {b p bo co no:Nat}{f:Nat→Option (Nat×Nat×Nat)}(hb:π b=some (.hnd bo co no))(hp:π p=some (.rls bo co no f)):∀ {ds:List DV} {as:List AV},RelVs π ds as→RelVs π (ds.map (zF b p)) as
 | [],as,h=>by simp only[RelVs]at h; subst h; exact RelVs_nil
 | d::ds,as,h=>by
  simp only[RelVs]at h;obtain⟨a,as',rfl,h1,h2⟩:=h;exact RelVs_cons (rU hb hp h1) (lm hb hp h2)
theorem tL (hS:RelS π Fr S s'){e:DEnv}{e':Env}(hE:RelE π e e'){b p:Nat}(hb:S.get b=some (.hdl p)):RelE π (ba (Ju b p) e) e'∧RelS π Fr ⟨S.nx,ba (Jv b p) (fe S.m b)⟩ s':=by
 obtain⟨bo,co,no,f,q1,q2⟩:=hS.obj _ _ hb;have live:∀ c o,(⟨S.nx,ba (Jv b p) (fe S.m b)⟩:DSt).get c=some o→∃ o0,S.get c=some o0∧o=Jv b p o0:=fun c o hc=>by
  have hc:fnd (ba _ _) c=_:=hc;rw[aV,cG]at hc;split at hc
  ·cases hc
  ·cases hg:S.get c with
   | none=>rw[show fnd S.m c=none from hg]at hc; cases hc
   | some o0=>rw[show fnd S.m c=some o0 from hg]at hc; cases hc; exact⟨o0,rfl,rfl⟩
 refine⟨fun u d hu=>?_,fun c o hc=>?_,fun b1 b2 o1 o2 l1 l2 y h1 h2 p1 p2 x1 x2=>?_,hS.frm,fun c o lc y hc hl hy=>?_,hS.nx⟩
 ·rw[aV]at hu;cases hg:fnd e u with
  | none=>rw[hg]at hu; cases hu
  | some d0=>
   rw[hg]at hu;cases hu;have hd:=hE u d0 hg;cases d0 with
   | agg cs=>
    simp only[Ju];simp only[RelV]at hd ⊢;obtain⟨as,e1,hd⟩:=hd;exact⟨as,e1,lm q1 q2 hd⟩
   | tup cs=>
    simp only[Ju];simp only[RelV]at hd ⊢;obtain⟨as,e1,hd⟩:=hd;exact⟨as,e1,lm q1 q2 hd⟩
   | _=>exact rU q1 q2 hd
 ·obtain⟨o0,h0,rfl⟩:=live c o hc;have hO:=hS.obj _ _ h0;cases o0 with
  | box cs=>obtain⟨b',c',n',as,g1,g2,g3⟩:=hO; exact⟨b',c',n',as,g1,g2,lm q1 q2 g3⟩
  | _=>exact hO
 ·obtain⟨o3,h3,_⟩:=live _ _ h1;obtain⟨o4,h4,_⟩:=live _ _ h2;exact hS.inj' _ _ _ _ _ _ _ h3 h4 p1 p2 x1 x2
 ·obtain⟨o3,h3,_⟩:=live _ _ hc;exact hS.out' _ _ _ _ h3 hl hy
theorem tM (hS:RelS π Fr S s'){e:DEnv}{e':Env}(hE:RelE π e e'){b:Nat}{e1:DEnv}{S1:DSt}(h:Kq e S b=some (e1,S1)):∃ π1 e1' s1,Ext π π1∧Wk s' e' s1 e1'∧RelE π1 e1 e1'∧RelS π1 Fr S1 s1:=by
 unfold Kq at h;cases hpk:eP S with
 | false=>rw[hpk]at h; cases h
 | true=>
 rw[hpk]at h;simp only[cond_true]at h;split at h
 ·rename_i cs hb;cases hz:cs.all DV.fzn with
  | false=>rw[hz]at h; cases h
  | true=>
   rw[hz]at h;obtain⟨e2,s2,g1,g2,g3⟩:=qN hS hpk hE hb hz h;exact⟨π,e2,s2,Ext.refl _,g1,g2,g3⟩
 ·rename_i T t l hb;obtain⟨e2,s2,g1,g2,g3⟩:=qM hS hpk hE hb h;exact⟨π,e2,s2,Ext.refl _,g1,g2,g3⟩
 ·rename_i p hb;cases h;obtain⟨g1,g2⟩:=tL hS hE hb;exact⟨π,e',s',Ext.refl _,Wk.refl _ _,g1,g2⟩
 ·rename_i T T' t l hb;cases h;exact qO hS hpk hE hb
 ·cases h
end
end Go.Proofs.YtdkaijofmigmbaaGreat.D

set_option linter.unusedVariables false
set_option linter.unusedSectionVars false
set_option linter.unusedSimpArgs false
namespace Go.Proofs.YtdkaijofmigmbaaGreat.D
open Go Go.Proofs.YtdkaijofmigmbaaGreat.L
variable [YP]
section
variable {π:Pi} {Fr:Store} {S:DSt} {s':Store}
theorem DW (π:Pi)(S:DSt):HR π S [] (fun _=>False):=⟨fun b hb=>by simp at hb,fun b _ _ _ hb=>by simp at hb,fun _ h=>h.elim⟩
theorem fA {P:Program}{T:List FEnt}(hT:am P T){α:Type}{k:DEnv→DSt→Option α}{r:α}{K:Env→Store→Prop}:∀ (l:List DOper) {π:Pi} {S:DSt} {s':Store} {e:DEnv} {e':Env},zG T l k e S=some r→RelE π e e'→RelS π Fr S s' →
  (∀ e1 S1 π1 e1' s1,k e1 S1=some r→Ext π π1→RelE π1 e1 e1'→RelS π1 Fr S1 s1→K e1' s1)→uj P [] (dr l) K e' s'
 | [],π,S,s',e,e',h,hE,hS,hK=>⟨e',s',Wk.refl _ _,hK _ _ π _ _ h (Ext.refl _) hE hS⟩
 | .op o a::l,π,S,s',e,e',h,hE,hS,hK=>by
  simp only[zG]at h;exact⟨e',s',Wk.refl _ _,ns hT h hE hS (DW π S) fun e1 S1 π1 e1' s1 g1 g2 g3 g4 g5=>
   fA hT l g1 g3 g4 fun e2 S2 π2 e2' s2 q1 q2 q3 q4=>hK _ _ π2 _ _ q1 (g2.trans q2) q3 q4⟩
 | .fz u p::l,π,S,s',e,e',h,hE,hS,hK=>by
  simp only[zG]at h;split at h
  ·split at h
   ·rename_i b hb e1 S1 hz;obtain⟨π1,e1',s1,hx,w,g1,g2⟩:=tM hS hE hz;exact Dy w _ (fA hT l h g1 g2 fun e2 S2 π2 e2' s2 q1 q2 q3 q4=>hK _ _ π2 _ _ q1 (hx.trans q2) q3 q4)
   ·cases h
  ·exact fA hT l h hE hS hK
theorem mh {P:Program}{T:List FEnt}(hT:am P T){RD:List Nat}{R:Nat→Prop}{α:Type}{k:DEnv→DSt→Option α}{r:α}{K:Env→Store→Prop}:∀ (l:List (AOper×rF)) {π:Pi} {S:DSt} {s':Store} {e:DEnv} {e':Env},xl RD T l k e S=some r→RelE π e e'→RelS π Fr S s'→HR π S RD R →
  (∀ e1 S1 π1 e1' s1,k e1 S1=some r→Ext π π1→RelE π1 e1 e1'→RelS π1 Fr S1 s1→K e1' s1)→xr P [] R (l.map (·.1)) K e' s'
 | [],π,S,s',e,e',h,hE,hS,hH,hK=>hK _ _ π _ _ h (Ext.refl _) hE hS
 | (o,a)::l,π,S,s',e,e',h,hE,hS,hH,hK=>by
  simp only[xl]at h;exact ns hT h hE hS hH fun e1 S1 π1 e1' s1 g1 g2 g3 g4 g5=>
   mh hT l g1 g3 g4 g5 fun e2 S2 π2 e2' s2 q1 q2 q3 q4=>hK _ _ π2 _ _ q1 (g2.trans q2) q3 q4
theorem mi {e:DEnv}{e':Env}(hE:RelE π e e')(hS:RelS π Fr S s'):∀ {rs RD:List Nat},xp e S rs=some RD→HR π S RD (rOf e' rs)∧∀ b,rOf e' rs b→own s' b
 | [],RD,h=>by
  cases h;exact⟨⟨fun b hb=>by simp at hb,fun b _ _ _ hb=>by simp at hb,fun _ h=>h.elim⟩,fun b h=>h.elim⟩
 | t::l,RD,h=>by
  simp only[xp]at h;split at h
  ·rename_i bs hbs;obtain⟨h1,h2⟩:=mi hE hS hbs;have hr:RelV π (e.get t) (e' t):=dd hE (.t t);have name:∀ b o,S.get b=some o→RD=b::bs→(∀ b' c n,π b=some (.real b' c n)→n6 (e' t).val=some b')→(∀ b',n6 (e' t).val=some b'→∃ l,π b=some l∧l.has b')→HR π S RD (rOf e' (t::l))∧∀ b,rOf e' (t::l) b→own s' b:=by
    intro b o hb e1 n1 n2;subst e1;refine⟨⟨fun c hc=>?_,fun c b' m n hc hp=>?_,fun b' hR=>?_⟩,fun b' hR=>?_⟩
    ·rcases List.mem_cons.1 (cO.1 hc)with rfl | hc
     ·exact⟨o,hb,(hS.obj _ _ hb).loc⟩
     ·exact h1.live c (cO.2 hc)
    ·rcases List.mem_cons.1 (cO.1 hc)with rfl | hc
     ·exact .inl (n1 _ _ _ hp)
     ·exact .inr (h1.to c b' m n (cO.2 hc) hp)
    ·rcases hR with hR | hR
     ·obtain⟨l,hp,hh⟩:=n2 _ hR; exact⟨b,l,cO.2 (by simp),hp,hh⟩
     ·obtain⟨c,m,q1,q2,q3⟩:=h1.of b' hR; exact⟨c,m,cO.2 (by simp[cO.1 q1]),q2,q3⟩
    ·rcases hR with hR | hR
     ·obtain⟨l,hp,hh⟩:=n2 _ hR; exact(hS.obj _ _ hb).some'' hp hh
     ·exact h2 b' hR
   have none':RD=bs→n6 (e' t).val=none→HR π S RD (rOf e' (t::l))∧∀ b,rOf e' (t::l) b→own s' b:=by
    intro e1 hn;subst e1;have iff:∀ b,rOf e' (t::l) b↔rOf e' l b:=fun b=>⟨fun h=>h.elim (fun h=>by rw[hn]at h; cases h) id,.inr⟩
    exact⟨⟨h1.live,fun c b' m n hc hp=>(iff _).2 (h1.to c b' m n hc hp),fun b' hR=>h1.of b' ((iff _).1 hR)⟩,fun b' hR=>h2 b' ((iff _).1 hR)⟩
   split at h
   ·rename_i b o hg;rw[hg]at hr;simp only[RelV]at hr;obtain⟨b',c,n,hp,e1⟩:=hr;split at h
    ·rename_i o2 hb;cases h;exact name b o2 hb rfl (fun b2 c2 n2 hp2=>by rw[hp]at hp2; cases hp2; rw[e1]; rfl) (fun b2 hn=>by rw[e1]at hn; cases hn; exact⟨_,hp,rfl⟩)
    ·cases h
   ·rename_i b k i j hg;rw[hg]at hr;simp only[RelV]at hr;obtain⟨b',c,n,hp,_,e1⟩:=hr;split at h
    ·rename_i o2 hb;cases h;exact name b o2 hb rfl (fun b2 c2 n2 hp2=>by rw[hp]at hp2; cases hp2; rw[e1]; rfl) (fun b2 hn=>by rw[e1]at hn; cases hn; exact⟨_,hp,rfl⟩)
    ·cases h
   ·rename_i b hg;rw[hg]at hr;simp only[RelV]at hr;split at h
    ·rename_i o2 hb;cases h;rcases hr with⟨b',c,n,hp,e1⟩ | ⟨hp,e1⟩
     ·exact name b o2 hb rfl (fun b2 c2 n2 hp2=>by rw[hp]at hp2; cases hp2; rw[e1]; rfl) (fun b2 hn=>by rw[e1]at hn; cases hn; exact⟨_,hp,rfl⟩)
     ·exact name b o2 hb rfl (fun b2 c2 n2 hp2=>by rw[hp]at hp2; cases hp2) (fun b2 hn=>by rw[e1]at hn; cases hn)
    ·cases h
   ·rename_i b k i j hg;rw[hg]at hr;simp only[RelV]at hr;obtain⟨b',c,n,hp,_,e1⟩:=hr;split at h
    ·rename_i o2 hb;cases h;exact name b o2 hb rfl (fun b2 c2 n2 hp2=>by rw[hp]at hp2; cases hp2; rw[e1]; rfl) (fun b2 hn=>by rw[e1]at hn; cases hn; exact⟨_,hp,rfl⟩)
    ·cases h
   ·rename_i b hg;rw[hg]at hr;simp only[RelV]at hr;obtain⟨b',c,n,hp,e1⟩:=hr;split at h
    ·rename_i o2 hb;cases h;exact name b o2 hb rfl (fun b2 c2 n2 hp2=>by rw[hp]at hp2; cases hp2; rw[e1]; rfl) (fun b2 hn=>by rw[e1]at hn; cases hn; exact⟨_,hp,rfl⟩)
    ·cases h
   ·rename_i b hg;rw[hg]at hr;simp only[RelV]at hr;split at h
    ·rename_i o2 hb;cases h;rcases hr with⟨b',c,n,f,hp,e1⟩ | ⟨hp,e1⟩
     ·exact name b o2 hb rfl (fun b2 c2 n2 hp2=>by rw[hp]at hp2; cases hp2) (fun b2 hn=>by rw[e1]at hn; cases hn; exact⟨_,hp,.inl rfl⟩)
     ·exact name b o2 hb rfl (fun b2 c2 n2 hp2=>by rw[hp]at hp2; cases hp2) (fun b2 hn=>by rw[e1]at hn; cases hn)
    ·cases h
   ·rename_i b hg;rw[hg]at hr;simp only[RelV]at hr;obtain⟨b',c,n,hp,e1⟩:=hr;split at h
    ·rename_i q hb;split at h
     ·rename_i o2 hq;cases h;obtain⟨b0,c0,n0,f,hp1,hp2⟩:=hS.obj _ _ hb;rw[hp]at hp1; cases hp1;exact name q o2 hq rfl (fun b2 c2 n2 hp3=>by rw[hp2]at hp3; cases hp3) (fun b2 hn=>by rw[e1]at hn; cases hn; exact⟨_,hp2,.inl rfl⟩)
     ·cases h
    ·cases h
   ·rename_i b i hg;rw[hg]at hr;simp only[RelV]at hr;obtain⟨b',c,n,hp,hi,e1⟩:=hr;split at h
    ·rename_i q hb;split at h
     ·rename_i o2 hq;cases h;obtain⟨b0,c0,n0,f,hp1,hp2⟩:=hS.obj _ _ hb;rw[hp]at hp1; cases hp1;exact name q o2 hq rfl (fun b2 c2 n2 hp3=>by rw[hp2]at hp3; cases hp3) (fun b2 hn=>by rw[e1]at hn; cases hn; exact⟨_,hp2,.inl rfl⟩)
     ·cases h
    ·cases h
   ·rename_i b i hg;rw[hg]at hr;simp only[RelV]at hr;obtain⟨b',c,n,f,hp,hi,e1⟩:=hr;split at h
    ·rename_i o2 hb;cases h;exact name b o2 hb rfl (fun b2 c2 n2 hp2=>by rw[hp]at hp2; cases hp2) (fun b2 hn=>by rw[e1]at hn; cases hn; exact⟨_,hp,.inl rfl⟩)
    ·cases h
   ·rename_i b i hg;rw[hg]at hr;simp only[RelV]at hr;obtain⟨b',c,n,f,hp,hi,e1⟩:=hr;split at h
    ·rename_i o2 hb;cases h;refine name b o2 hb rfl (fun b2 c2 n2 hp2=>by rw[hp]at hp2; cases hp2) (fun b2 hn=>?_);rw[e1]at hn;cases hf:f i with
     | none=>rw[hf]at hn; cases hn
     | some q=>obtain⟨q1,q2,q3⟩:=q; rw[hf]at hn; cases hn; exact⟨_,hp,.inr ⟨i,_,hi,hf,rfl⟩⟩
    ·cases h
   ·rename_i b k i j o hg;rw[hg]at hr;simp only[RelV]at hr;obtain⟨b',c,n,f,b2,c2,n2,hp,hi,hf,hj,e1⟩:=hr;split at h
    ·rename_i o2 hb;cases h;exact name b o2 hb rfl (fun b2 c2 n2 hp2=>by rw[hp]at hp2; cases hp2) (fun b2 hn=>by rw[e1]at hn; cases hn; exact⟨_,hp,.inr ⟨i,_,hi,hf,rfl⟩⟩)
    ·cases h
   ·rename_i b k o hg;rw[hg]at hr;simp only[RelV]at hr;obtain⟨g,y,hp,hgk,e1⟩:=hr;split at h
    ·rename_i o2 hb;cases h;exact name b o2 hb rfl (fun b2 c2 n2 hp2=>by rw[hp]at hp2; cases hp2) (fun b2 hn=>by rw[e1]at hn; cases hn; exact⟨_,hp,k,hgk⟩)
    ·cases h
   ·rename_i x hg;rw[hg]at hr;have hfrz:(e' t).frz=true:=bF (by simpa only[RelV]using hr) _ (by simp);cases ho:DJ x.t with
    | false=>rw[ho]at h; cases h
    | true=>
     rw[ho]at h; cases h;refine none' rfl ?_
     revert hfrz; cases e' t <;> intro hfrz <;> simp[AV.frz]at hfrz <;> rfl
   ·rename_i cs hg;rw[hg]at hr;simp only[RelV]at hr;obtain⟨as,e1,_⟩:=hr;cases h;exact none' rfl (by rw[e1]; rfl)
   ·cases h
  ·cases h
theorem rV {a b:Exit}(h:tw a b=true):a=b:=by
 cases a <;> cases b <;> simp only[tw]at h <;> first
  | rfl
  | cases h
  | (rw[aj.1 h])
theorem j0 {β:Type}{f:XSh→List Leaf→Option β}{r:β}{ex:Exit}{e:DEnv}{S:DSt}:∀ {xs:List XSh} {y:XD xs},oi xs ex e S=some y→rH xs y f=some r→∃ a z,a.ex=ex∧FO a e S=some z∧f a (ofDens a.o.ts z)=some r
 | [],y,h,_=>by simp[oi]at h
 | [a],y,h,h2=>by
  simp only[oi]at h;cases he:tw a.ex ex with
  | false=>rw[he]at h; cases h
  | true=>rw[he]at h; exact⟨a,y,rV he,h,h2⟩
 | a::b::l,y,h,h2=>by
  simp only[oi]at h;split at h
  ·rename_i z hz;cases h;cases he:tw a.ex ex with
   | false=>rw[he]at hz; cases hz
   | true=>rw[he]at hz; exact⟨a,z,rV he,hz,h2⟩
  ·split at h
   ·rename_i z hz;cases h;exact j0 (xs:=b::l) hz h2
   ·cases h
theorem cj {e:DEnv}{e':Env}(hE:RelE π e e'):∀ (rs:List Nat),RelVs π (vo e rs) (rs.map e')
 | []=>RelVs_nil
 | t::l=>RelVs_cons (dd hE (.t t)) (cj hE l)
theorem eB {e':Env}:∀ {rs:List Nat} {ds:List DV},RelVs π ds (rs.map e')→RelE π (eK rs ds) e'
 | [],ds,h=>by intro t d ht; cases ds <;> simp[eK,fnd]at ht
 | r::rs,ds,h=>by
  cases ds with
  | nil=>intro t d ht; simp[eK,fnd]at ht
  | cons d0 ds=>
   simp only[List.map_cons,RelVs]at h;obtain⟨a,as',e1,h1,h2⟩:=h;cases e1;intro t d ht;simp only[eK,fnd]at ht;by_cases e2:r=t
   ·subst e2; simp at ht; subst ht; exact h1
   ·simp only[bE e2,cond_false]at ht; exact eB h2 t d ht
theorem fB {ids:List Nat}{k:Nat}(h:ids.any (Nat.beq k)=true):fnd (jN ids) k=some (some k):=by
 induction ids with
 | nil=>simp at h
 | cons c ids ih=>
  by_cases e:c=k
  ·subst e; simp[jN,fnd]
  ·have h':ids.any (Nat.beq k)=true:=by
    rcases List.mem_cons.1 (cO.1 h)with h | h
    ·exact absurd h.symm e
    ·exact cO.2 h
   have:=ih h';simp only[jN,List.map_cons,fnd,bE e,cond_false]at this ⊢;exact this
theorem fC {l m:List Nat}(h:fP l m=true){k:Nat}(hk:l.any (Nat.beq k)=true):m.any (Nat.beq k)=true:=List.all_eq_true.1 h k (cO.1 hk)
theorem jp {sh:StSh}{l:List Leaf}{ds:List DV}{os:List (Nat×DObj)}(h:fillSt (fun k=>k) sh l=some (ds,os)){k:Nat}(hk:(sh.objs.map (·.1)).any (Nat.beq k)=true):∃ o,fnd os k=some o:=by
 unfold fillSt at h;split at h
 ·split at h
  ·rename_i ho;cases h;have:=gD ho;have hm:k∈os.map (·.1):=by rw[this]; exact cO.1 hk
   obtain⟨⟨k2,o⟩,h1,rfl⟩:=List.mem_map.1 hm;exact rN h1
  ·cases h
 ·cases h
def cx (s:Store)(q:Nat)(x:Option AObj):Store:=fun c=>if c=q then x else s c
theorem aJ (s:Store)(q:Nat)(x:Option AObj):cx s q x q=x:=by simp[cx]
theorem bQ (s:Store){q c:Nat}(x:Option AObj)(h:c≠q):cx s q x c=s c:=by simp[cx,h]
theorem jq (s:Store)(q:Nat)(x y:Option AObj):cx (cx s q x) q y=cx s q y:=by
 funext c; unfold cx; split <;> rfl
theorem nt (s:Store)(q:Nat):cx s q (s q)=s:=by
 funext c; unfold cx; split
 ·rename_i h; rw[h]
 ·rfl
theorem di (hS:RelS π Fr S s'){q:Nat}(hno:∀ b o l y,S.get b=some o→π b=some l→l.has y→y≠q)(x:Option AObj):RelS π (cx Fr q x) S (cx s' q x):=by
 refine⟨fun b o h=>(hS.obj b o h).mono (Ext.refl _) fun l y hp hh=>bQ _ _ (hno _ _ _ _ h hp hh),hS.inj',fun b' y h=>?_,fun b o l b' h hp hh=>?_,hS.nx⟩
 ·unfold cx at h ⊢;split
  ·rename_i e; rw[if_pos e]at h; exact h
  ·rename_i e; rw[if_neg e]at h; exact hS.frm _ _ h
 ·rw[bQ _ _ (hno _ _ _ _ h hp hh)]; exact hS.out' _ _ _ _ h hp hh
theorem ka {Fr':Store}{s:Store}(h:RelS π Fr' S s){m b:Nat}{c n:Nat}{x y:AObj}{o:DObj}(hF:∀ q z,Fr q=some z→Fr' q=some z∧q≠m)(hm:Fr' m=some y)(hp:π b=some (.real m c n))(hO:ObR π (upd s m x) b o):RelS π Fr (S.set b o) (upd s m x):=by
 have ne:∀ b2 o2 l2 b',S.get b2=some o2→π b2=some l2→l2.has b'→b'≠m:=fun b2 o2 l2 b' h1 h2 h3 e=>by
  subst e; rw[h.out' _ _ _ _ h1 h2 h3]at hm; cases hm
 refine⟨fun b2 o2 hb=>?_,fun b1 b2 o1 o2 l1 l2 b' h1 h2 p1 p2 x1 x2=>?_,fun b' z hz=>?_,fun b2 o2 l2 b' hb hp2 hh=>?_,fun b2 hb=>h.nx _ hb⟩
 ·rw[DSt.get_set]at hb;split at hb
  ·rename_i e; subst e; cases hb; exact hO
  ·exact(h.obj _ _ hb).mono (Ext.refl _) fun l2 b' hp2 hh=>ay _ _ (ne _ _ _ _ hb hp2 hh)
 ·rw[DSt.get_set]at h1 h2;split at h1 <;> split at h2
  ·rename_i e1 e2; rw[e1,e2]
  ·rename_i e1 e2;rw[e1,hp]at p1; cases p1;cases x1;exact absurd rfl (ne _ _ _ _ h2 p2 x2)
  ·rename_i e1 e2;rw[e2,hp]at p2; cases p2;cases x2;exact absurd rfl (ne _ _ _ _ h1 p1 x1)
  ·exact h.inj' _ _ _ _ _ _ _ h1 h2 p1 p2 x1 x2
 ·obtain⟨g1,g2⟩:=hF _ _ hz;rw[ay _ _ g2]; exact h.frm _ _ g1
 ·rw[DSt.get_set]at hb;split at hb
  ·rename_i e; subst e;rw[hp]at hp2; cases hp2;cases hh;cases hf:Fr m with
   | none=>rfl
   | some z=>exact absurd rfl (hF _ _ hf).2
  ·have:=h.out' _ _ _ _ hb hp2 hh;cases hf:Fr b' with
   | none=>rfl
   | some z=>rw[(hF _ _ hf).1]at this; cases this
theorem tN {m:Nat}{os:List (Nat×DObj)}(hS:RelS π Fr ⟨m,os⟩ s')(l:Loc):RelS (addP π m l) Fr ⟨m+1,os⟩ s':=by
 have hx:Ext π (addP π m l):=aW (hS.nx _ (Nat.le_refl _)) _;have live:∀ b o,(⟨m+1,os⟩:DSt).get b=some o→b≠m:=fun b o h e=>by
  obtain⟨l2,hl⟩:=(hS.obj b o h).loc;rw[e,hS.nx _ (Nat.le_refl _)]at hl; cases hl
 refine⟨fun b o h=>(hS.obj b o h).mono hx fun _ _ _ _=>rfl,fun b1 b2 o1 o2 l1 l2 y h1 h2 p1 p2 x1 x2=>?_,hS.frm,fun b o l2 y h hp hh=>?_,fun b h=>?_⟩
 ·rw[addP_ne _ _ (live _ _ h1)]at p1;rw[addP_ne _ _ (live _ _ h2)]at p2;exact hS.inj' _ _ _ _ _ _ _ h1 h2 p1 p2 x1 x2
 ·rw[addP_ne _ _ (live _ _ h)]at hp;exact hS.out' _ _ _ _ h hp hh
 ·have h':m+1≤b:=h;rw[addP_ne _ _ (by omega)]; exact hS.nx _ (show m≤b by omega)
theorem kb {α σ:Type}(step:σ→α→Option σ):∀ (a b:List α) (x:σ),db step (a++b) x=(db step a x).bind (db step b)
 | [],b,x=>rfl
 | c::a,b,x=>by
  simp only[List.cons_append,db];cases step x c with
  | none=>rfl
  | some y=>simp only[Option.bind_some]; exact kb step a b y
theorem pB {α σ:Type}[dq:DecidableEq σ]{es:List α}{step:σ→α→Option σ}{x z:σ}(h:rngF es step x=some z):∀ p:List α,p.Perm es→db step p x=some z:=by
 rw[xm]at h;split at h
 ·rename_i hp; intro p hpp; rw[hp p hpp]; exact h
 ·cases h
theorem qP {n:Nat}{v:List Nat}(hn:v.Nodup)(hl:∀ p∈v,p < n):∃ r,(v++r).Perm (List.range n):=by
 refine⟨(List.range n).filter fun p=>!v.contains p,?_⟩;refine(List.perm_ext_iff_of_nodup ?_ List.nodup_range).2 fun a=>?_
 ·rw[List.nodup_append];refine⟨hn,List.nodup_range.sublist List.filter_sublist,fun a ha b hb e=>?_⟩;subst e;have:=(List.mem_filter.1 hb).2
  simp[ha]at this
 ·rw[List.mem_append,List.mem_filter,List.mem_range];constructor
  ·rintro(h | h)
   ·exact hl a h
   ·exact h.1
  ·intro h;by_cases ha:a∈v
   ·exact .inl ha
   ·exact .inr ⟨h,by simpa using ha⟩
theorem iv {α:Type}(es:List α)(d:α):(List.range es.length).map (fun i=>es.getD i d)=es:=by
 refine List.ext_getElem (by simp) fun i h1 h2=>?_
 simp[List.getD_eq_getElem?_getD,h2]
theorem vM {ag:Bool}{t:Ty}:∀ {es:List (List Int×t.den)} {es':List (List Int×AV)} {i:Nat} (d:List Int×t.den),na ag t es es'→i < es.length→(es'.getD i default).1=(es.getD i d).1∧MR ag t (es.getD i d).2 (es'.getD i default).2
 | [],_,i,d,h,hi=>by simp at hi
 | (k,x)::l,es',i,d,h,hi=>by
  simp only[na]at h;obtain⟨a,l',rfl,h1,h⟩:=h;cases i with
  | zero=>exact⟨rfl,h1⟩
  | succ i=>simpa using vM (i:=i) d h (by simpa using hi)
theorem vN (kn:Nat)(k:List Int):RelV π (xn kn k) (wU kn k):=by
 cases kn with
 | zero=>exact aG _ _
 | succ n=>
  simp only[xn,wU,RelV];refine⟨_,rfl,?_⟩
  induction k with
  | nil=>exact RelVs_nil
  | cons a k ih=>exact RelVs_cons (aG _ _) ih
theorem mj:∀ {rs:List Nat} {ds:List DV} {t:Nat} {d:DV},fnd (eK rs ds) t=some d→t∈rs
 | [],ds,t,d,h=>by cases ds <;> simp[eK,fnd]at h
 | r::rs,[],t,d,h=>by simp[eK,fnd]at h
 | r::rs,d0::ds,t,d,h=>by
  simp only[eK,fnd]at h;by_cases e:r=t
  ·subst e; simp
  ·simp only[bE e,cond_false]at h;exact List.mem_cons_of_mem _ (mj h)
theorem ml {rs:List Nat}{a b:Nat}(h:dc rs a b=true):∀ t∈rs,t≠a∧t≠b:=fun t ht=>by
 have:=List.all_eq_true.1 h t ht;simp only[Bool.and_eq_true,Bool.not_eq_true']at this;exact⟨fun e=>by subst e; simp at this,fun e=>by subst e; simp at this⟩
def gG {ε:Type}(h:LSh)(it et:Nat)(ent:ε→DV)(body:(Exit→DEnv→DSt→Option (dens h.ts))→DEnv→DSt→Option (dens h.ts))(x:dens h.ts)(en:ε):Option (dens h.ts):=match fillSt (fun k=>k) h.st (ofDens h.ts x)with
 | some (ds,os)=>body (io h it) ((et,ent en)::(it,.ptr h.m 0)::eK h.regs ds) ⟨h.m+1,os⟩
 | none=>none
theorem pC {P:Program}{T:List FEnt}{c:DCode}(ih:∀ {α:Type} {K:Exit→DEnv→DSt→Option α} {e:DEnv} {S:DSt} {r:α},bT T c K e S=some r→∀ {π:Pi} {Fr:Store} {e':Env} {s':Store},RelE π e e'→RelS π Fr S s' →
   ∀ {C:Exit→Env→Store→Prop},(∀ x e1 S1 π1 e1' s1,K x e1 S1=some r→Ext π π1→RelE π1 e1 e1'→RelS π1 Fr S1 s1→C x e1' s1)→xc P [] (erase c) C e' s')
  {it nx bb et j:Nat} {hd:LSh} {e:DEnv} {S:DSt} {kn:Nat} {ε:Type} (d0:ε) (entD:ε→DV) {es:List ε} {es':List (List Int×AV)} (hlen:es'.length=es.length)
  (hnr:(dc (it::hd.regs) nx bb&&dc hd.regs it it)=true) (hids:fP hd.ids (hd.st.objs.map (·.1))=true)
  {π:Pi} {Fr:Store} {e':Env} {s':Store} (hE:RelE π e e') (hS0:RelS π Fr S s') {m r cl:Nat} {en:Array MapEntry} (hr:s' r=none) (hrm:r≠m)
  (no_m:∀ b2 o l y,S.get b2=some o→π b2=some l→l.has y→y≠m) (hFm:Fr m=none)
  {y0:dens hd.ts} {nm:Nm} (hrd:pZ hd e S []=some (y0,nm))
  (hent:∀ π1:Pi,(∀ k,hd.ids.any (Nat.beq k)=true→π1 k=cu π nm k)→∀ i,i < es.length→RelV π1 (entD (es.getD i d0)) (.tup [wU kn (es'.getD i default).1,(es'.getD i default).2]))
  {z:dens hd.ts} (hz:@rngF _ _ (decDens _) es (gG hd it et entD fun K'=>bT T c (gh j K')) y0=some z)
  {C:Env→Store→Prop} (hK:∀ ds3 S3 π3 e2 sv,el S nm ⟨hd.st,hd.ts,hd.ids,hd.m⟩ (ofDens hd.ts z)=some (ds3,S3)→Ext π π3→RelE π3 (eK hd.regs ds3) e2→RelS π3 (cx Fr m (some (.rmap en cl))) S3 sv→C e2 (upd sv m (.imap kn es' none))) :
  ∃ (I:List Nat→Env→Store→Prop) (e0:Env) (s0:Store),Wk (upd (upd s' m (.rmap en cl)) r (.rit m cl #[])) (Env.set e' it (.ptr r 0)) s0 e0∧s0 r=some (.rit m cl #[])∧I [] e0 s0 ∧
  (∀ v e s,I v e s→e it = .ptr r 0∧s m=some (.rmap en cl)) ∧
  (∀ v e s seen,I v e s→∀ i,i < es'.length→i∉v→xc P [] (erase c) (iy j (rngK fun e' s'=>s' r=some (.rit m cl seen)∧I (v++[i]) e' s'))
   (Env.set (Env.set (Env.set e nx .undef) bb .undef) et (.tup [wU kn (es'.getD i default).1,(es'.getD i default).2])) (upd s r (.rit m cl seen))) ∧
  (∀ v e s,I v e s→(∀ i,i < es'.length→i∈v)→C (Env.set (Env.set e nx .undef) bb .undef) (upd (del s r) m (.imap kn es' none))):=by
 simp only[Bool.and_eq_true]at hnr;have nr1:=ml hnr.1;have nr2:=ml hnr.2;have no_r:∀ b2 o l y,S.get b2=some o→π b2=some l→l.has y→y≠r:=fun b2 o l y h1 h2 h3 e=>by
  subst e; exact(hS0.obj _ _ h1).some'' h2 h3 hr
 have hS2:=di (di hS0 no_m (some (.rmap en cl))) no_r (some (.rit m cl #[]));have hFr:Fr r=none:=hS0.free hr;generalize hF2:cx (cx Fr m (some (.rmap en cl))) r (some (.rit m cl #[]))=Fr2 at hS2;have es2:upd (upd s' m (.rmap en cl)) r (.rit m cl #[])=cx (cx s' m (some (.rmap en cl))) r (some (.rit m cl #[])):=rfl;rw[es2];generalize hs2:cx (cx s' m (some (.rmap en cl))) r (some (.rit m cl #[]))=s2 at hS2;have f2m:Fr2 m=some (.rmap en cl):=by rw[← hF2,bQ _ _ (Ne.symm hrm),aJ]
 have f2r:Fr2 r=some (.rit m cl #[]):=by rw[← hF2,aJ]
 unfold pZ at hrd;split at hrd
 ·rename_i l nm1 hr1;split at hrd
  ·rename_i x1 htd;cases hrd;have hl:=aM htd;obtain⟨q1,q2,q3,live,ds0,os0,q4,q5,q6⟩:=dN hS2 hr1 (cj hE hd.regs) (Fr1:=cS π nm s2) (fun b' x h=>lj h) (fun k b lc x h1 h2 h3=>gW h1 h2 h3);have fm:cS π nm s2 m=some (.rmap en cl):=lk hS2 live f2m;have fr:cS π nm s2 r=some (.rit m cl #[]):=lk hS2 live f2r
   let get:Nat→ε:=fun i=>es.getD i d0
   let step:=gG hd it et entD fun K'=>bT T c (gh j K')
   let I:List Nat→Env→Store→Prop:=fun v e2 sv=>∃ y π1 ds os,db step (v.map get) y0=some y∧fillSt (fun k=>k) hd.st (ofDens hd.ts y)=some (ds,os)∧RelVs π1 ds (hd.regs.map e2) ∧
    RelS π1 (cx (cS π nm s2) r (sv r)) ⟨hd.m,os⟩ sv∧e2 it = .ptr r 0∧sv m=some (.rmap en cl)∧(∃ seen,sv r=some (.rit m cl seen))∧v.Nodup∧(∀ p∈v,p < es.length)∧∀ k,hd.ids.any (Nat.beq k)=true→π1 k=cu π nm k
   have regs_it:∀ (e2:Env) (a:AV),hd.regs.map (Env.set e2 it a)=hd.regs.map e2:=fun e2 a=>List.map_congr_left fun q hq=>by
    simp only[Env.set]; rw[if_neg (nr2 q hq).1]
   refine⟨I,Env.set e' it (.ptr r 0),s2,Wk.refl _ _,by rw[← hs2,aJ],⟨y0,cu π nm,ds0,os0,rfl,by rw[hl]; exact q4,by rw[regs_it]; exact q5,?_,by simp[Env.set],by rw[← hs2,bQ _ _ (Ne.symm hrm),aJ],⟨_,by rw[← hs2,aJ]⟩,List.nodup_nil,(fun p hp=>by cases hp),fun _ _=>rfl⟩,?_,?_,?_⟩
   ·have e3:cx (cS π nm s2) r (s2 r)=cS π nm s2:=by
     rw[show s2 r=cS π nm s2 r by rw[fr,← hs2,aJ],nt]
    rw[e3]; exact q6
   ·rintro v e2 sv ⟨y,π1,ds,os,g1,g2,g3,g4,g5,g6,_⟩;exact⟨g5,g6⟩
   ·rintro v e2 sv seen ⟨y,π1,ds,os,g1,g2,g3,g4,g5,g6,g7,g8,g9,g10⟩ i hi hiv;rw[hlen]at hi;have hnd:(v++[i]).Nodup:=by
     rw[List.nodup_append];exact⟨g8,by simp,fun a ha b hb e=>by simp at hb; subst hb; subst e; exact hiv ha⟩
    have hlt:∀ p∈v++[i],p < es.length:=fun p hp=>by
     rcases List.mem_append.1 hp with h | h
     ·exact g9 p h
     ·simp at h; subst h; exact hi
    obtain⟨rest,hperm⟩:=qP hnd hlt;have hall:=pB (dq:=decDens _) hz (((v++[i])++rest).map get) (by have:=hperm.map get; rwa [iv es d0]at this);rw[List.map_append,kb]at hall;cases hy1:db step ((v++[i]).map get) y0 with
    | none=>rw[show db (gG hd it et entD fun K'=>bT T c (gh j K')) ((v++[i]).map get) y0=none from hy1]at hall; cases hall
    | some y1=>
     have hst:step y (get i)=some y1:=by
      have:=hy1;rw[List.map_append,kb,g1]at this;simp only[Option.bind_some,List.map_cons,List.map_nil,db]at this;cases hs:step y (get i)with
      | none=>rw[hs]at this; cases this
      | some y2=>rw[hs]at this; simpa using this
     have hst0:=hst;simp only[step,gG,g2]at hst;have no_r1:∀ b2 o l b',(⟨hd.m,os⟩:DSt).get b2=some o→π1 b2=some l→l.has b'→b'≠r:=fun b2 o l b' h1 h2 h3 e=>by
      subst e;obtain⟨sn,hsn⟩:=g7;have:=g4.out' _ _ _ _ h1 h2 h3;rw[aJ,hsn]at this; cases this
     have hS5:=tN (di g4 no_r1 (some (.rit m cl seen))) (.real r 0 0);rw[jq]at hS5;have hnm:π1 hd.m=none:=g4.nx _ (Nat.le_refl _);have hx1:Ext π1 (addP π1 hd.m (.real r 0 0)):=aW hnm _;have hE5:RelE (addP π1 hd.m (.real r 0 0)) ((et,entD (get i))::(it,.ptr hd.m 0)::eK hd.regs ds)
       (Env.set (Env.set (Env.set e2 nx .undef) bb .undef) et (.tup [wU kn (es'.getD i default).1,(es'.getD i default).2])):=by
      intro u d hu;simp only[fnd]at hu;by_cases e1:et=u
      ·subst e1;simp only[Nat.beq_refl,cond_true,Option.some.injEq]at hu;subst hu;simp only[Env.set,if_true];exact(hent π1 g10 i hi).ext hx1
      ·simp only[bE e1,cond_false]at hu;have hne:u≠et:=fun e=>e1 e.symm;by_cases e2':it=u
       ·subst e2';simp only[Nat.beq_refl,cond_true,Option.some.injEq]at hu;subst hu;have:=nr1 it (by simp);simp only[Env.set,if_neg hne,if_neg this.1,if_neg this.2,g5,RelV];exact⟨r,0,0,addP_same _ _ _,rfl⟩
       ·simp only[bE e2',cond_false]at hu;have hmem:=mj hu;have:=nr1 u (by simp[hmem]);have hr':=eB g3 u d hu;simp only[Env.set,if_neg hne,if_neg this.1,if_neg this.2];exact hr'.ext hx1
     refine ih hst hE5 hS5 fun ex e3 S3 π3 e3' s3 k1 k2 k3 k4=>?_;have idsome:∀ k,hd.ids.any (Nat.beq k)=true→∃ lc,π1 k=some lc:=fun k hk=>by
      obtain⟨o,ho⟩:=jp g2 (fC hids hk);exact(g4.obj k o ho).loc
     have fin:io hd it .normal e3 S3=some y1→rngK (fun e' s'=>s' r=some (.rit m cl seen)∧I (v++[i]) e' s') .normal e3' s3:=fun hk=>by
      simp only[io]at hk;split at hk
      ·rename_i b0 hg;cases hbq:Nat.beq b0 hd.m with
       | false=>rw[hbq]at hk; cases hk
       | true=>
        rw[hbq]at hk;obtain rfl:=aj.1 hbq;simp only[cond_true]at hk;have hitr:=dd k3 (.t it);simp only[bX,hg,RelV,opd]at hitr;obtain⟨r',c',n',hpr,hite⟩:=hitr;rw[k2 _ _ (addP_same π1 hd.m (.real r 0 0))]at hpr;cases hpr;have hs3r:s3 r=some (.rit m cl seen):=k4.frm _ _ (aJ _ _ _);split at hk
        ·rename_i x2 nm2 hr2;cases hk;unfold pZ at hr2;split at hr2
         ·rename_i l2 nm3 hr3;split at hr2
          ·rename_i x3 htd3;cases hr2;have hl3:=aM htd3;obtain⟨p1,p2,p3,p4,ds2,os2,p5,p6,p7⟩:=dN k4 hr3 (cj k3 hd.regs) (Fr1:=cx (cS π nm s2) r (some (.rit m cl seen))) k4.frm (fun k b lc x h1 h2 h3=>by
            obtain⟨o,ho⟩:=(dN k4 hr3 (cj k3 hd.regs) (Fr1:=qc) (fun _ _ h=>by cases h) (fun _ _ _ _ _ _ _=>rfl)).2.2.2.1 k b h1;exact k4.out' b o lc x ho h2 h3)
           refine⟨e3',s3,Wk.refl _ _,hs3r,y1,cu π3 nm2,ds2,os2,hy1,by rw[hl3]; exact p5,p6,by rw[hs3r]; exact p7,hite,k4.frm _ _ (by rw[bQ _ _ (Ne.symm hrm)]; exact fm),⟨_,hs3r⟩,hnd,hlt,fun k hk=>?_⟩;have hf:=p1 _ _ (fB hk);have e3:cu π3 nm2 k=π3 k:=by simp only[cu,hf,ez]
           obtain⟨lc,hlc⟩:=idsome k hk;rw[e3,← g10 k hk,hlc];exact k2 _ _ (hx1 _ _ hlc)
          ·cases hr2
         ·cases hr2
        ·cases hk
      ·cases hk
     cases ex with
     | normal=>exact fin k1
     | exit q=>
      simp only[gh]at k1;simp only[iy];by_cases hq:q=j
      ·subst hq;rw[if_pos rfl];simp only[Nat.beq_refl,cond_true]at k1;exact fin k1
      ·simp only[bE hq,cond_false,io]at k1;cases k1
     | ret=>simp only[gh,io]at k1; cases k1
     | goto q=>simp only[gh,io]at k1; cases k1
     | panic q=>simp only[gh,io]at k1; cases k1
     | outgrown=>simp only[gh,io]at k1; cases k1
   ·rintro v e2 sv ⟨y,π1,ds,os,g1,g2,g3,g4,g5,g6,⟨sn,g7⟩,g8,g9,g10⟩ hallv;have hperm:v.Perm (List.range es.length):=(List.perm_ext_iff_of_nodup g8 List.nodup_range).2 fun a=>by
     rw[List.mem_range]; exact⟨g9 a,fun h=>hallv a (by rw[hlen]; exact h)⟩
    have hyz:y=z:=by
     have:=pB (dq:=decDens _) hz (v.map get) (by have:=hperm.map get; rwa [iv es d0]at this);rw[show db (gG hd it et entD fun K'=>bT T c (gh j K')) (v.map get) y0=some y from g1]at this;exact Option.some.inj this
    subst hyz;have no_r1:∀ b2 o l b',(⟨hd.m,os⟩:DSt).get b2=some o→π1 b2=some l→l.has b'→b'≠r:=fun b2 o l b' h1 h2 h3 e=>by
     subst e;have:=g4.out' _ _ _ _ h1 h2 h3;rw[aJ,g7]at this; cases this
    have h4:=di g4 no_r1 (some (.rit m cl #[]));rw[jq]at h4;have e4:cx (cS π nm s2) r (some (.rit m cl #[]))=cS π nm s2:=by rw[← fr,nt]
    rw[e4]at h4;obtain⟨ds3,S3,π3,a1,a2,a3,a4,a5,a6⟩:=dG (o:=⟨hd.st,hd.ts,hd.ids,hd.m⟩) hS2 live g2 q3 g3 h4 (fun k hk b hb=>by
     rw[g10 k hk];simp only[cu,hb,ez])
    have no_r3:∀ b2 o l b',S3.get b2=some o→π3 b2=some l→l.has b'→b'≠r:=fun b2 o l b' h1 h2 h3 e=>by
     subst e;have:=a4.out' _ _ _ _ h1 h2 h3;rw[f2r]at this; cases this
    have h5:=di a4 no_r3 none;rw[jq]at h5;have e5:cx Fr2 r none=cx Fr m (some (.rmap en cl)):=by
     rw[← hF2,jq]
     funext q
     unfold cx;by_cases e1:q=r
     ·rw[if_pos e1,e1,if_neg hrm,hFr]
     ·rw[if_neg e1]
    rw[e5]at h5;refine hK ds3 S3 π3 _ _ a1 a2 (fun u d hu=>?_) h5;have hmem:=mj hu;have hne:=nr1 u (by simp[hmem]);have:=eB a3 u d hu;simp only[Env.set,if_neg hne.1,if_neg hne.2];exact this
  ·cases hrd
 ·cases hrd
theorem qQ {P:Program}{T:List FEnt}{c:DCode}(ih:∀ {α:Type} {K:Exit→DEnv→DSt→Option α} {e:DEnv} {S:DSt} {r:α},bT T c K e S=some r→∀ {π:Pi} {Fr:Store} {e':Env} {s':Store},RelE π e e'→RelS π Fr S s' →
   ∀ {C:Exit→Env→Store→Prop},(∀ x e1 S1 π1 e1' s1,K x e1 S1=some r→Ext π π1→RelE π1 e1 e1'→RelS π1 Fr S1 s1→C x e1' s1)→xc P [] (erase c) C e' s')
  {x:Opd} {it nx bb et j:Nat} {hd:LSh} {α:Type} {K:DEnv→DSt→Option α} {e:DEnv} {S:DSt} {r0:α} {b kn:Nat} {ag:Bool} {t:Ty} {es:List (List Int×t.den)}
  (hx:(bX e x).val = .mp b) (hb:S.get b=some (.imap kn ag t es none)) (hdf:(bX e x).df.all id=true) (hnr:(dc (it::hd.regs) nx bb&&dc hd.regs it it)=true) (hids:fP hd.ids (hd.st.objs.map (·.1))=true)
  {y0:dens hd.ts} {nm:Nm} (hrd:pZ hd e (S.del b) []=some (y0,nm)) {z:dens hd.ts} (hz:@rngF _ _ (decDens _) es (oj hd it et kn ag t fun K'=>bT T c (gh j K')) y0=some z)
  (hK0:(match el (S.del b) nm ⟨hd.st,hd.ts,hd.ids,hd.m⟩ (ofDens hd.ts z)with
   | some (ds,S')=>K (eK hd.regs ds) (S'.set b (.imap kn ag t es none))
   | none=>none)=some r0)
  {π:Pi} {Fr:Store} {e':Env} {s':Store} (hE:RelE π e e') (hS:RelS π Fr S s') {C:Env→Store→Prop} (hK:∀ e1 S1 π1 e1' s1,K e1 S1=some r0→Ext π π1→RelE π1 e1 e1'→RelS π1 Fr S1 s1→C e1' s1) :
  o7 x it nx bb et (fun K'=>xc P [] (erase c) (iy j K')) C e' s':=by
 have hxr:=dd hE x;have hxv:=bc hxr hdf;rw[hx]at hxv;simp only[RelV]at hxv;obtain⟨m,cm,nm0,hp,hmv⟩:=hxv;obtain⟨m2,c2,n2,es',hp2,hers,hsm⟩:=hS.obj _ _ hb;rw[hp]at hp2; cases hp2;have hsm:s' m=some (.imap kn es' none):=hsm;have hlen:=oq hers;refine⟨bj hxr hdf,m,kn,es',hmv,hsm,fun r en cl hr hrm=>?_⟩;have hFm:Fr m=none:=hS.out _ _ _ _ _ hb hp;refine pC ih (([],t.zero):List Int×t.den) (fun en=>.tup [xn kn en.1,zD ag t en.2]) hlen hnr hids hE (bi hS b) hr hrm (fun b2 o l y h1 h2 h3 e=>?_) hFm hrd (fun π1 _ i hi=>?_) hz fun ds3 S3 π3 e2 sv a1 a2 a3 a4=>?_
 ·subst e;rw[DSt.get_del]at h1;split at h1
  ·cases h1
  ·rename_i hne; exact hne (hS.inj' _ _ _ _ _ _ _ h1 hb h2 hp h3 rfl)
 ·obtain⟨k1,k2⟩:=vM ([],t.zero) hers hi;simp only[RelV];refine⟨_,rfl,RelVs_cons ?_ (aA (om k2))⟩;rw[k1]; exact vN _ _
 ·rw[a1]at hK0;have hfin:=ka (Fr:=Fr) (m:=m) (b:=b) (x:=.imap kn es' none) (y:=.rmap en cl) (o:=.imap kn ag t es none) a4 (fun q w hq=>by
    have h2:q≠m:=fun e=>by rw[e,hFm]at hq; cases hq
    exact⟨by rw[bQ _ _ h2]; exact hq,h2⟩) (aJ _ _ _) (a2 _ _ hp) ⟨m,cm,nm0,es',a2 _ _ hp,hers,upd_same _ _ _⟩
  exact hK _ _ π3 _ _ hK0 a2 a3 hfin
theorem rW {b m c n:Nat}{d:DV}{a:AV}(hp:π b=some (.real m c n))(hx:Ext π (addP π S.nx (.mlk m)))(h:RelV π d a):RelV (addP π S.nx (.mlk m)) (DQ b S.nx d) a:=by
 cases d with
 | mp q=>
  simp only[DQ];cases hc:Nat.beq q b with
  | true=>
   obtain rfl:=aj.1 hc;simp only[RelV]at h;obtain⟨b',c',n',h1,rfl⟩:=h;rw[hp]at h1; cases h1;simp only[cond_true,RelV];exact⟨m,addP_same _ _ _,rfl⟩
  | false=>exact h.ext hx
 | _=>exact h.ext hx
theorem ln {b m c n:Nat}(hp:π b=some (.real m c n))(hx:Ext π (addP π S.nx (.mlk m))):∀ {ds:List DV} {as:List AV},RelVs π ds as→RelVs (addP π S.nx (.mlk m)) (ds.map (DQ b S.nx)) as
 | [],as,h=>by simp only[RelVs]at h; subst h; exact RelVs_nil
 | d::ds,as,h=>by
  simp only[RelVs]at h;obtain⟨a,as',rfl,h1,h2⟩:=h;exact RelVs_cons (rW hp hx h1) (ln hp hx h2)
theorem xA {b m c n:Nat}(hp:π b=some (.real m c n))(hx:Ext π (addP π S.nx (.mlk m))){e:DEnv}{e':Env}(hE:RelE π e e'):RelE (addP π S.nx (.mlk m)) (ba (FQ b S.nx) e) e':=fun u d hu=>by
 rw[aV]at hu;cases hg:fnd e u with
 | none=>rw[hg]at hu; cases hu
 | some d0=>
  rw[hg]at hu;cases hu;have hd:=hE u d0 hg;cases d0 with
  | agg cs=>
   simp only[FQ];simp only[RelV]at hd ⊢;obtain⟨as,e1,hd⟩:=hd;exact⟨as,e1,ln hp hx hd⟩
  | tup cs=>
   simp only[FQ];simp only[RelV]at hd ⊢;obtain⟨as,e1,hd⟩:=hd;exact⟨as,e1,ln hp hx hd⟩
  | _=>exact rW hp hx hd
theorem rX {b m c n q:Nat}{d:DV}{a:AV}(hq:π q=some (.mlk m))(hp:π b=some (.real m c n))(h:RelV π d a):RelV π (DR b q d) a:=by
 cases d with
 | mpl p=>
  simp only[DR];cases hc:Nat.beq p q with
  | true=>
   obtain rfl:=aj.1 hc;simp only[RelV]at h;obtain⟨b',h1,rfl⟩:=h;rw[hq]at h1; cases h1;simp only[cond_true,RelV];exact⟨m,c,n,hp,rfl⟩
  | false=>exact h
 | _=>exact h
theorem lp {b m c n q:Nat}(hq:π q=some (.mlk m))(hp:π b=some (.real m c n)):∀ {ds:List DV} {as:List AV},RelVs π ds as→RelVs π (ds.map (DR b q)) as
 | [],as,h=>by simp only[RelVs]at h; subst h; exact RelVs_nil
 | d::ds,as,h=>by
  simp only[RelVs]at h;obtain⟨a,as',rfl,h1,h2⟩:=h;exact RelVs_cons (rX hq hp h1) (lp hq hp h2)
theorem xB {b m c n q:Nat}(hq:π q=some (.mlk m))(hp:π b=some (.real m c n)){e:DEnv}{e':Env}(hE:RelE π e e'):RelE π (ba (FR b q) e) e':=fun u d hu=>by
 rw[aV]at hu;cases hg:fnd e u with
 | none=>rw[hg]at hu; cases hu
 | some d0=>
  rw[hg]at hu;cases hu;have hd:=hE u d0 hg;cases d0 with
  | agg cs=>
   simp only[FR];simp only[RelV]at hd ⊢;obtain⟨as,e1,hd⟩:=hd;exact⟨as,e1,lp hq hp hd⟩
  | tup cs=>
   simp only[FR];simp only[RelV]at hd ⊢;obtain⟨as,e1,hd⟩:=hd;exact⟨as,e1,lp hq hp hd⟩
  | _=>exact rX hq hp hd
theorem lockD_inv {b p c:Nat}{o:DObj}(h:(m9 S b p).get c=some o):(c=S.nx∧o = .gone p)∨(c≠S.nx∧c≠b∧∃ o0,S.get c=some o0∧o=Kr b S.nx o0):=by
 have h:fnd (ju (ba (Kr b S.nx) (fe S.m b)) S.nx (.gone p)) c=some o:=h;rw[cF,aV,cG]at h;split at h
 ·rename_i e; cases h; exact .inl ⟨e,rfl⟩
 ·rename_i e1;split at h
  ·cases h
  ·rename_i e2;cases hg:S.get c with
   | none=>rw[show fnd S.m c=none from hg]at h; cases h
   | some o0=>rw[show fnd S.m c=some o0 from hg]at h; cases h; exact .inr ⟨e1,e2,o0,rfl,rfl⟩
theorem tO (hS:RelS π Fr S s'){b p m c n:Nat}{g:List (Int×Nat)}{o:DObj}(hb:S.get b=some o)(hp:π b=some (.real m c n))(hpp:π p=some (.pol g)):RelS (addP π S.nx (.mlk m)) Fr (m9 S b p) s':=by
 have hx:Ext π (addP π S.nx (.mlk m)):=aW (hS.nx _ (Nat.le_refl _)) _;have nn:∀ q l y,addP π S.nx (.mlk m) q=some l→l.has y→q≠S.nx:=fun q l y h hh e=>by rw[e,addP_same]at h; cases h; exact hh
 refine⟨fun q o h=>?_,fun b1 b2 o1 o2 l1 l2 y h1 h2 p1 p2 x1 x2=>?_,hS.frm,fun q o l y h hl hh=>?_,fun q h=>?_⟩
 ·rcases lockD_inv h with⟨rfl,rfl⟩ | ⟨e1,e2,o0,h0,rfl⟩
  ·exact⟨m,g,addP_same _ _ _,hx _ _ hpp⟩
  ·have hO:=hS.obj _ _ h0;cases o0 with
   | box cs=>
    obtain⟨b3,c3,n3,as,g1,g2,g3⟩:=hO;exact⟨b3,c3,n3,as,hx _ _ g1,g2,ln hp hx g3⟩
   | _=>exact hO.mono hx fun _ _ _ _=>rfl
 ·have f1:=nn _ _ _ p1 x1;have f2:=nn _ _ _ p2 x2;rcases lockD_inv h1 with⟨e1,_⟩ | ⟨_,_,o3,h3,_⟩
  ·exact absurd e1 f1
  ·rcases lockD_inv h2 with⟨e1,_⟩ | ⟨_,_,o4,h4,_⟩
   ·exact absurd e1 f2
   ·rw[addP_ne _ _ f1]at p1;rw[addP_ne _ _ f2]at p2;exact hS.inj' _ _ _ _ _ _ _ h3 h4 p1 p2 x1 x2
 ·have f1:=nn _ _ _ hl hh;rcases lockD_inv h with⟨e1,_⟩ | ⟨_,_,o3,h3,_⟩
  ·exact absurd e1 f1
  ·rw[addP_ne _ _ f1]at hl;exact hS.out' _ _ _ _ h3 hl hh
 ·have h:S.nx+1≤q:=h;rw[addP_ne _ _ (by omega)]; exact hS.nx _ (by omega)
theorem unlockD_inv {b p q c:Nat}{o:DObj}(h:(lf S b p q).get c=some o):(c=b∧o = .pmap p)∨(c≠b∧c≠q∧∃ o0,S.get c=some o0∧o=Ks b q o0):=by
 have h:fnd (ju (ba (Ks b q) (fe S.m q)) b (.pmap p)) c=some o:=h;rw[cF,aV,cG]at h;split at h
 ·rename_i e; cases h; exact .inl ⟨e,rfl⟩
 ·rename_i e1;split at h
  ·cases h
  ·rename_i e2;cases hg:S.get c with
   | none=>rw[show fnd S.m c=none from hg]at h; cases h
   | some o0=>rw[show fnd S.m c=some o0 from hg]at h; cases h; exact .inr ⟨e1,e2,o0,rfl,rfl⟩
theorem pD {Fr':Store}{s:Store}(h:RelS π Fr' S s){m b p q c n:Nat}{g:List (Int×Nat)}{y:AObj}(hF:∀ u z,Fr u=some z→Fr' u=some z∧u≠m)(hm:Fr' m=some y)(hp:π b=some (.real m c n))(hpp:π p=some (.pol g))(hq:π q=some (.mlk m)):
  RelS π Fr (lf S b p q) (upd s m (.imap 0 (fl g) none)):=by
 have ne:∀ b2 o2 l2 b',S.get b2=some o2→π b2=some l2→l2.has b'→b'≠m:=fun b2 o2 l2 b' h1 h2 h3 e=>by
  subst e; rw[h.out' _ _ _ _ h1 h2 h3]at hm; cases hm
 refine⟨fun b2 o2 hb=>?_,fun b1 b2 o1 o2 l1 l2 b' h1 h2 p1 p2 x1 x2=>?_,fun b' z hz=>?_,fun b2 o2 l2 b' hb hp2 hh=>?_,fun b2 hb=>h.nx _ hb⟩
 ·rcases unlockD_inv hb with⟨rfl,rfl⟩ | ⟨e1,e2,o0,h0,rfl⟩
  ·exact⟨m,c,n,g,hp,hpp,upd_same _ _ _⟩
  ·have same:∀ l2 b',π b2=some l2→l2.has b'→upd s m (.imap 0 (fl g) none) b'=s b':=fun l2 b' hp2 hh=>ay _ _ (ne _ _ _ _ h0 hp2 hh);have hO:=h.obj _ _ h0;cases o0 with
   | box cs=>
    obtain⟨b3,c3,n3,as,g1,g2,g3⟩:=hO;exact⟨b3,c3,n3,as,g1,(same _ _ g1 rfl).trans g2,lp hq hp g3⟩
   | _=>exact hO.mono (Ext.refl _) same
 ·rcases unlockD_inv h1 with⟨e1,_⟩ | ⟨e1,_,o3,h3,_⟩ <;> rcases unlockD_inv h2 with⟨e2,_⟩ | ⟨e2,_,o4,h4,_⟩
  ·rw[e1,e2]
  ·rw[e1,hp]at p1; cases p1;cases x1;exact absurd rfl (ne _ _ _ _ h4 p2 x2)
  ·rw[e2,hp]at p2; cases p2;cases x2;exact absurd rfl (ne _ _ _ _ h3 p1 x1)
  ·exact h.inj' _ _ _ _ _ _ _ h3 h4 p1 p2 x1 x2
 ·obtain⟨g1,g2⟩:=hF _ _ hz;rw[ay _ _ g2]; exact h.frm _ _ g1
 ·rcases unlockD_inv hb with⟨e1,_⟩ | ⟨e1,_,o3,h3,_⟩
  ·rw[e1,hp]at hp2; cases hp2;cases hh;cases hf:Fr m with
   | none=>rfl
   | some z=>exact absurd rfl (hF _ _ hf).2
  ·have:=h.out' _ _ _ _ h3 hp2 hh;cases hf:Fr b' with
   | none=>rfl
   | some z=>rw[(hF _ _ hf).1]at this; cases this
theorem kc {p:Nat}:∀ {nm:Nm} {k:Nat},bO (nm.map (·.1))=true→kE p nm=some k→fnd nm k=some (some p)
 | [],k,_,h=>by simp[kE]at h
 | (k',some b)::nm,k,hn,h=>by
  obtain⟨g1,g2⟩:=fS (b:=k') (l:=nm.map (·.1)) (show bO (k'::nm.map (·.1))=true from hn);simp only[kE]at h;cases hc:Nat.beq b p with
  | true=>
   rw[hc]at h; cases h;obtain rfl:=aj.1 hc
   simp[fnd]
  | false=>
   rw[hc]at h;have ih:=kc g2 h;have:k'≠k:=fun e=>by subst e; exact g1 (List.mem_map.2 ⟨_,dA ih,rfl⟩)
   simp only[fnd,bE this,cond_false]; exact ih
 | (k',none)::nm,k,hn,h=>by
  obtain⟨g1,g2⟩:=fS (b:=k') (l:=nm.map (·.1)) (show bO (k'::nm.map (·.1))=true from hn);simp only[kE]at h;have ih:=kc g2 h;have:k'≠k:=fun e=>by subst e; exact g1 (List.mem_map.2 ⟨_,dA ih,rfl⟩)
  simp only[fnd,bE this,cond_false]; exact ih
theorem DX {h:LSh}{e:DEnv}{S:DSt}{nm0 nm:Nm}{x:dens h.ts}(hr:pZ h e S nm0=some (x,nm)):bO (nm.map (·.1))=true:=by
 unfold pZ iI at hr;split at hr
 ·rename_i l nm1 h1;split at h1
  ·split at h1
   ·rename_i l2 nm2 h2;cases hc:(bO (aK nm2)&&(bO (nm2.map (·.1))&&(gz h.st.objs nm2&&(iH h.m h.st.objs&&bO (h.st.objs.map (·.1))))))with
    | false=>rw[hc]at h1; cases h1
    | true=>
     rw[hc]at h1; cases h1;simp only[Bool.and_eq_true]at hc;split at hr
     ·cases hr; exact hc.2.1
     ·cases hr
   ·cases h1
  ·cases h1
 ·cases hr
theorem xC {g:List (Int×Nat)}{i:Nat}(hi:i < g.length):(fl g).getD i default=([(g.getD i (0,0)).1],.ptr (g.getD i (0,0)).2 0):=by
 simp[fl,List.getD_eq_getElem?_getD,hi]
theorem pE {P:Program}{T:List FEnt}{c:DCode}(ih:∀ {α:Type} {K:Exit→DEnv→DSt→Option α} {e:DEnv} {S:DSt} {r:α},bT T c K e S=some r→∀ {π:Pi} {Fr:Store} {e':Env} {s':Store},RelE π e e'→RelS π Fr S s' →
   ∀ {C:Exit→Env→Store→Prop},(∀ x e1 S1 π1 e1' s1,K x e1 S1=some r→Ext π π1→RelE π1 e1 e1'→RelS π1 Fr S1 s1→C x e1' s1)→xc P [] (erase c) C e' s')
  {x:Opd} {it nx bb et j:Nat} {hd:LSh} {α:Type} {K:DEnv→DSt→Option α} {e:DEnv} {S:DSt} {r0:α} {b p kp:Nat} {t:Ty} {es:List (Int×t.den)}
  (hx:(bX e x).val = .mp b) (hb:S.get b=some (.pmap p)) (hpo:S.get p=some (.pool t es)) (hdf:(bX e x).df.all id=true) (hnr:(dc (it::hd.regs) nx bb&&dc hd.regs it it)=true) (hids:fP hd.ids (hd.st.objs.map (·.1))=true)
  {y0:dens hd.ts} {nm:Nm} (hrd:pZ hd (ba (FQ b S.nx) e) (m9 S b p) []=some (y0,nm)) (hkp:kE p nm=some kp) (hki:hd.ids.any (Nat.beq kp)=true) {z:dens hd.ts} (hz:@rngF _ _ (decDens _) (es.map (·.1)) (jh hd it et kp fun K'=>bT T c (gh j K')) y0=some z)
  (hK0:(match el (m9 S b p) nm ⟨hd.st,hd.ts,hd.ids,hd.m⟩ (ofDens hd.ts z)with
   | some (ds,S')=>K (ba (FR b S.nx) (eK hd.regs ds)) (lf S' b p S.nx)
   | none=>none)=some r0)
  {π:Pi} {Fr:Store} {e':Env} {s':Store} (hE:RelE π e e') (hS:RelS π Fr S s') {C:Env→Store→Prop} (hK:∀ e1 S1 π1 e1' s1,K e1 S1=some r0→Ext π π1→RelE π1 e1 e1'→RelS π1 Fr S1 s1→C e1' s1) :
  o7 x it nx bb et (fun K'=>xc P [] (erase c) (iy j K')) C e' s':=by
 have hxr:=dd hE x;have hxv:=bc hxr hdf;rw[hx]at hxv;simp only[RelV]at hxv;obtain⟨m,cm,nm0,hp,hmv⟩:=hxv;obtain⟨m2,c2,n2,g,hp2,hpp,hsm⟩:=hS.obj _ _ hb;rw[hp]at hp2; cases hp2;obtain⟨g2,hg2,hP⟩:=hS.obj _ _ hpo;rw[hpp]at hg2; cases hg2;have hlen:(fl g).length=(es.map (·.1)).length:=by rw[hP.keys]; simp[fl]
 refine⟨bj hxr hdf,m,0,fl g,hmv,hsm,fun r en cl hr hrm=>?_⟩;have hFm:Fr m=none:=hS.out _ _ _ _ _ hb hp;have hx1:Ext π (addP π S.nx (.mlk m)):=aW (hS.nx _ (Nat.le_refl _)) _;refine pC ih (0:Int) (fun key=>.tup [cC .i64 key,.pel kp key 0]) hlen hnr hids (xA hp hx1 hE) (tO hS hb hp hpp) hr hrm (fun b2 o l y h1 h2 h3 e=>?_) hFm hrd (fun π1 hπ i hi=>?_) hz fun ds3 S3 π3 e2 sv a1 a2 a3 a4=>?_
 ·subst e;have f1:b2≠S.nx:=fun e=>by rw[e,addP_same]at h2; cases h2; exact h3
  rcases lockD_inv h1 with⟨e1,_⟩ | ⟨_,e2,o0,h0,_⟩
  ·exact f1 e1
  ·rw[addP_ne _ _ f1]at h2;exact e2 (hS.inj' _ _ _ _ _ _ _ h0 hb h2 hp h3 rfl)
 ·have hgi:i < g.length:=by
   have:g.length=es.length:=by have:=congrArg List.length hP.keys; simpa using this.symm
   rw[this]; simpa using hi
  have ek:(es.map (·.1)).getD i 0=(g.getD i (0,0)).1:=by
   rw[hP.keys]; simp[List.getD_eq_getElem?_getD,hgi]
  have hfk:=kc (DX hrd) hkp;have hloc:π1 kp=some (.pol g):=by
   rw[hπ kp hki];simp only[cu,hfk,ez];exact hx1 _ _ hpp
  rw[xC hgi,ek];simp only[RelV];refine⟨_,rfl,RelVs_cons (aG _ _) (aA ?_)⟩;simp only[RelV];refine⟨g,_,hloc,l6 hP.nd ?_,rfl⟩;have:(g.getD i (0,0))∈g:=by
   rw[List.getD_eq_getElem?_getD,List.getElem?_eq_getElem hgi]; exact List.getElem_mem hgi
  exact this
 ·rw[a1]at hK0;refine hK _ _ π3 _ _ hK0 (hx1.trans a2) (xB (a2 _ _ (addP_same _ _ _)) (a2 _ _ (hx1 _ _ hp)) a3) (pD a4 (fun q w hq=>?_) (aJ _ _ _) (a2 _ _ (hx1 _ _ hp)) (a2 _ _ (hx1 _ _ hpp)) (a2 _ _ (addP_same _ _ _)));have h2:q≠m:=fun e=>by rw[e,hFm]at hq; cases hq
  exact⟨by rw[bQ _ _ h2]; exact hq,h2⟩
theorem b6 {P:Program}{T:List FEnt}(hT:am P T):∀ (c:DCode) {α:Type} {K:Exit→DEnv→DSt→Option α} {e:DEnv} {S:DSt} {r:α},bT T c K e S=some r→∀ {π:Pi} {Fr:Store} {e':Env} {s':Store},RelE π e e'→RelS π Fr S s' →
  ∀ {C:Exit→Env→Store→Prop},(∀ x e1 S1 π1 e1' s1,K x e1 S1=some r→Ext π π1→RelE π1 e1 e1'→RelS π1 Fr S1 s1→C x e1' s1)→xc P [] (erase c) C e' s'
 | .skip,α,K,e,S,r,h,π,Fr,e',s',hE,hS,C,hK=>hK _ _ _ π _ _ h (Ext.refl _) hE hS
 | .ret,α,K,e,S,r,h,π,Fr,e',s',hE,hS,C,hK=>hK _ _ _ π _ _ h (Ext.refl _) hE hS
 | .exit i,α,K,e,S,r,h,π,Fr,e',s',hE,hS,C,hK=>hK _ _ _ π _ _ h (Ext.refl _) hE hS
 | .reg l,α,K,e,S,r,h,π,Fr,e',s',hE,hS,C,hK=>fA hT l h hE hS fun e1 S1 π1 e1' s1 g1 g2 g3 g4=>hK _ _ _ π1 _ _ g1 g2 g3 g4
 | .drw rs l,α,K,e,S,r,h,π,Fr,e',s',hE,hS,C,hK=>by
  simp only[bT]at h;split at h
  ·rename_i RD hrd;obtain⟨h1,h2⟩:=mi hE hS hrd;exact⟨h2,mh hT l h hE hS h1 fun e1 S1 π1 e1' s1 g1 g2 g3 g4=>hK _ _ _ π1 _ _ g1 g2 g3 g4⟩
  ·cases h
 | .seq a b,α,K,e,S,r,h,π,Fr,e',s',hE,hS,C,hK=>by
  simp only[bT]at h;refine b6 hT a h hE hS fun x e1 S1 π1 e1' s1 g1 g2 g3 g4=>?_;cases x with
  | normal=>exact b6 hT b g1 g3 g4 fun x e2 S2 π2 e2' s2 q1 q2 q3 q4=>hK _ _ _ π2 _ _ q1 (g2.trans q2) q3 q4
  | exit i=>exact hK _ _ _ π1 _ _ g1 g2 g3 g4
  | goto i=>exact hK _ _ _ π1 _ _ g1 g2 g3 g4
  | ret=>exact hK _ _ _ π1 _ _ g1 g2 g3 g4
  | panic i=>exact hK _ _ _ π1 _ _ g1 g2 g3 g4
  | outgrown=>exact hK _ _ _ π1 _ _ g1 g2 g3 g4
 | .cond c a b,α,K,e,S,r,h,π,Fr,e',s',hE,hS,C,hK=>by
  simp only[bT]at h;split at h
  ·rename_i g hg;obtain⟨h1,h2⟩:=bP h;have hr:=dd hE c;have e1:=cN hg (bc hr h1);refine⟨bj hr h1,?_⟩;rw[e1];cases g with
   | true=>exact⟨fun _=>b6 hT a h2 hE hS hK,fun h=>(by cases h)⟩
   | false=>exact⟨fun h=>(by cases h),fun _=>b6 hT b h2 hE hS hK⟩
  ·cases h
 | .blk i c,α,K,e,S,r,h,π,Fr,e',s',hE,hS,C,hK=>by
  simp only[bT]at h;refine b6 hT c h hE hS fun x e1 S1 π1 e1' s1 g1 g2 g3 g4=>?_;cases x with
  | exit j=>
   simp only[gh]at g1;simp only[iy];by_cases hj:j=i
   ·subst hj;rw[if_pos rfl];simp only[Nat.beq_refl,cond_true]at g1;exact hK _ _ _ π1 _ _ g1 g2 g3 g4
   ·rw[if_neg hj];simp only[bE hj,cond_false]at g1;exact hK _ _ _ π1 _ _ g1 g2 g3 g4
  | normal=>exact hK _ _ _ π1 _ _ g1 g2 g3 g4
  | goto i=>exact hK _ _ _ π1 _ _ g1 g2 g3 g4
  | ret=>exact hK _ _ _ π1 _ _ g1 g2 g3 g4
  | panic i=>exact hK _ _ _ π1 _ _ g1 g2 g3 g4
  | outgrown=>exact hK _ _ _ π1 _ _ g1 g2 g3 g4
 | .loop hd xs c,α,K,e,S,r,h,π,Fr,e',s',hE,hS,C,hK=>by
  simp only[bT]at h;cases hids:fP hd.ids (hd.st.objs.map (·.1))with
  | false=>rw[hids]at h; cases h
  | true=>
   rw[hids]at h;simp only[cond_true]at h;split at h
   ·rename_i x nm hrd;cases hw:af (aU (xs:=xs) hd (bT T c)) x with
    | none=>rw[hw]at h; cases h
    | some y=>
     rw[hw]at h;simp only[Option.bind_some]at h;unfold pZ at hrd;split at hrd
     ·rename_i l nm1 hr1;split at hrd
      ·rename_i x1 htd;cases hrd;have hl:=aM htd;obtain⟨q1,q2,q3,live,ds0,os0,q4,q5,q6⟩:=dN hS hr1 (cj hE hd.regs) (Fr1:=cS π nm s') (fun b' x h=>lj h) (fun k b lc x h1 h2 h3=>gW h1 h2 h3)
       let I:Nat→Env→Store→Prop:=fun m e1' s1=>∃ x1 π1 ds os,um (aU (xs:=xs) hd (bT T c)) m x1=some y∧fillSt (fun k=>k) hd.st (ofDens hd.ts x1)=some (ds,os)∧RelVs π1 ds (hd.regs.map e1')∧RelS π1 (cS π nm s') ⟨hd.m,os⟩ s1 ∧
        ∀ k,hd.ids.any (Nat.beq k)=true→π1 k=cu π nm k
       refine⟨I,18446744073709551616,e',s',Wk.refl _ _,⟨x,cu π nm,ds0,os0,hw,by rw[hl]; exact q4,q5,q6,fun _ _=>rfl⟩,?_⟩;rintro m e1' s1 ⟨x1,π1,ds,os,hgo,hfl,hrv,hrs,hid⟩;cases m with
       | zero=>cases hgo
       | succ m=>
        simp only[um]at hgo;have idsome:∀ k,hd.ids.any (Nat.beq k)=true→∃ lc,π1 k=some lc:=fun k hk=>by
         obtain⟨o,ho⟩:=jp hfl (fC hids hk);exact(hrs.obj k o ho).loc
        cases hst:aU (xs:=xs) hd (bT T c) x1 with
        | none=>rw[hst]at hgo; cases hgo
        | some z=>
         rw[hst]at hgo;unfold aU at hst;rw[hfl]at hst;simp only at hst;refine b6 hT c hst (eB hrv) hrs fun ex e2 S2 π2 e2' s2 g1 g2 g3 g4=>?_;have idk:∀ k,hd.ids.any (Nat.beq k)=true→π2 k=cu π nm k:=fun k hk=>by
          obtain⟨lc,hlc⟩:=idsome k hk;rw[← hid k hk,hlc]; exact g2 _ _ hlc
         have exit:∀ yy,oi xs ex e2 S2=some yy→z = .inr yy→C ex e2' s2:=fun yy hin hz=>by
          subst hz;simp only at hgo;cases hgo;obtain⟨a,w,ha,hrx,hk⟩:=j0 hin h;cases hsub:fP a.o.ids hd.ids with
          | false=>rw[hsub]at hk; cases hk
          | true=>
           rw[hsub]at hk;simp only[cond_true]at hk;unfold FO at hrx;split at hrx
           ·rename_i l2 nm2 hr2;have hl2:=aM hrx;obtain⟨p1,p2,p3,p4,ds2,os2,p5,p6,p7⟩:=dN g4 hr2 (cj g3 a.regs) (Fr1:=cS π nm s') g4.frm (fun k b lc x h1 h2 h3=>by
             obtain⟨o,ho⟩:=(dN g4 hr2 (cj g3 a.regs) (Fr1:=qc) (fun _ _ h=>by cases h) (fun _ _ _ _ _ _ _=>rfl)).2.2.2.1 k b h1;exact g4.out' b o lc x ho h2 h3)
            rw[hl2]at hk;obtain⟨ds3,S3,π3,a1,a2,a3,a4,a5,a6⟩:=dG hS live p5 p3 p6 p7 (fun k hk b hb=>by
             have hf:=p1 _ _ (fB hk);have e3:cu π2 nm2 k=π2 k:=by simp only[cu,hf,ez]
             rw[e3,idk k (fC hsub hk)];simp only[cu,hb,ez])
            rw[a1]at hk;rw[← ha];exact hK _ _ _ π3 _ _ hk a2 (eB a3) a4
           ·cases hrx
         have other:(match oi xs ex e2 S2 with | some y=>some (.inr y) | none=>none)=some z→C ex e2' s2:=fun hg=>by
          split at hg
          ·rename_i yy hyy; cases hg; exact exit yy hyy rfl
          ·cases hg
         cases ex with
         | normal=>
          simp only[FP]at g1;split at g1
          ·rename_i x2 nm2 hr2;cases g1;unfold pZ at hr2;split at hr2
           ·rename_i l2 nm3 hr3;split at hr2
            ·rename_i x3 htd3;cases hr2;have hl3:=aM htd3;obtain⟨p1,p2,p3,p4,ds2,os2,p5,p6,p7⟩:=dN g4 hr3 (cj g3 hd.regs) (Fr1:=cS π nm s') g4.frm (fun k b lc x h1 h2 h3=>by
              obtain⟨o,ho⟩:=(dN g4 hr3 (cj g3 hd.regs) (Fr1:=qc) (fun _ _ h=>by cases h) (fun _ _ _ _ _ _ _=>rfl)).2.2.2.1 k b h1;exact g4.out' b o lc x ho h2 h3)
             refine⟨m,e2',s2,Wk.refl _ _,Nat.lt_succ_self m,x2,cu π2 nm2,ds2,os2,hgo,by rw[hl3]; exact p5,p6,p7,fun k hk=>?_⟩;have hf:=p1 _ _ (fB hk);have e3:cu π2 nm2 k=π2 k:=by simp only[cu,hf,ez]
             rw[e3,idk k hk]
            ·cases hr2
           ·cases hr2
          ·cases g1
         | exit i=>exact other g1
         | ret=>exact other g1
         | goto i=>exact other g1
         | panic i=>exact other g1
         | outgrown=>exact other g1
      ·cases hrd
     ·cases hrd
   ·cases h
 | .mrng pre x it nx bb et j hd c,α,K,e,S,r,h,π,Fr,e',s',hE,hS,C,hK=>by
  simp only[bT]at h;refine fA hT pre h hE hS fun e1 S1 π1 e1' s1 g1 g2 g3 g4=>?_;split at g1
  ·rename_i b hx;split at g1
   ·rename_i kn ag t es hb;obtain⟨o1,g1⟩:=bP g1;obtain⟨o1,o2⟩:=ah o1;simp only[List.all_cons,List.all_nil,id,Bool.and_true]at o2;split at g1
    ·rename_i y nm hrd;cases hids:fP hd.ids (hd.st.objs.map (·.1))with
     | false=>rw[hids]at hrd; cases hrd
     | true=>
      rw[hids,cond_true]at hrd;cases hz:@rngF _ _ (decDens _) es (oj hd it et kn ag t fun K'=>bT T c (gh j K')) y with
      | none=>rw[hz]at g1; cases g1
      | some z=>
       rw[hz]at g1;simp only[Option.bind_some]at g1;exact qQ (K:=K .normal) (C:=C .normal) (b6 hT c) hx hb o1 o2 hids hrd hz g1 g3 g4 fun e2 S2 π2 e2' s2 q1 q2 q3 q4=>hK _ _ _ π2 _ _ q1 (g2.trans q2) q3 q4
    ·cases g1
   ·rename_i p hb;split at g1
    ·rename_i t es hpo;obtain⟨o1,g1⟩:=bP g1;obtain⟨o1,o2⟩:=ah o1;simp only[List.all_cons,List.all_nil,id,Bool.and_true]at o2;split at g1
     ·rename_i y nm hrd;cases hids:fP hd.ids (hd.st.objs.map (·.1))with
      | false=>rw[hids]at hrd; cases hrd
      | true=>
       rw[hids,cond_true]at hrd;split at g1
       ·rename_i kp hkp;cases hki:hd.ids.any (Nat.beq kp)with
        | false=>rw[hki]at g1; cases g1
        | true=>
         rw[hki,cond_true]at g1;cases hz:@rngF _ _ (decDens _) (es.map (·.1)) (jh hd it et kp fun K'=>bT T c (gh j K')) y with
         | none=>rw[hz]at g1; cases g1
         | some z=>
          rw[hz]at g1;simp only[Option.bind_some]at g1;exact pE (K:=K .normal) (C:=C .normal) (b6 hT c) hx hb hpo o1 o2 hids hrd hkp hki hz g1 g3 g4 fun e2 S2 π2 e2' s2 q1 q2 q3 q4=>hK _ _ _ π2 _ _ q1 (g2.trans q2) q3 q4
       ·cases g1
     ·cases g1
    ·cases g1
   ·cases g1
  ·cases g1
 | .once hd xs c,α,K,e,S,r,h,π,Fr,e',s',hE,hS,C,hK=>by
  simp only[bT]at h;cases hids:fP hd.ids (hd.st.objs.map (·.1))with
  | false=>rw[hids]at h; cases h
  | true=>
   rw[hids]at h;simp only[cond_true]at h;split at h
   ·rename_i x nm hrd;cases hw:kD (xs:=xs) hd (bT T c) x with
    | none=>rw[hw]at h; cases h
    | some y=>
     rw[hw]at h;simp only[Option.bind_some]at h;unfold pZ at hrd;split at hrd
     ·rename_i l nm1 hr1;split at hrd
      ·rename_i x1 htd;cases hrd;have hl:=aM htd;obtain⟨q1,q2,q3,live,ds0,os0,q4,q5,q6⟩:=dN hS hr1 (cj hE hd.regs) (Fr1:=cS π nm s') (fun b' x h=>lj h) (fun k b lc x h1 h2 h3=>gW h1 h2 h3);rw[← hl]at q4;unfold kD at hw;rw[q4]at hw;simp only at hw;have idsome:∀ k,hd.ids.any (Nat.beq k)=true→∃ lc,cu π nm k=some lc:=fun k hk=>by
        obtain⟨o,ho⟩:=jp q4 (fC hids hk);exact(q6.obj k o ho).loc
       refine b6 hT c hw (eB q5) q6 fun ex e2 S2 π2 e2' s2 g1 g2 g3 g4=>?_;have idk:∀ k,hd.ids.any (Nat.beq k)=true→π2 k=cu π nm k:=fun k hk=>by
        obtain⟨lc,hlc⟩:=idsome k hk;rw[hlc]; exact g2 _ _ hlc
       obtain⟨a,w,ha,hrx,hk⟩:=j0 g1 h;cases hsub:fP a.o.ids hd.ids with
       | false=>rw[hsub]at hk; cases hk
       | true=>
        rw[hsub]at hk;simp only[cond_true]at hk;unfold FO at hrx;split at hrx
        ·rename_i l2 nm2 hr2;have hl2:=aM hrx;obtain⟨p1,p2,p3,p4,ds2,os2,p5,p6,p7⟩:=dN g4 hr2 (cj g3 a.regs) (Fr1:=cS π nm s') g4.frm (fun k b lc x h1 h2 h3=>by
          obtain⟨o,ho⟩:=(dN g4 hr2 (cj g3 a.regs) (Fr1:=qc) (fun _ _ h=>by cases h) (fun _ _ _ _ _ _ _=>rfl)).2.2.2.1 k b h1;exact g4.out' b o lc x ho h2 h3)
         rw[hl2]at hk;obtain⟨ds3,S3,π3,a1,a2,a3,a4,a5,a6⟩:=dG hS live p5 p3 p6 p7 (fun k hk b hb=>by
          have hf:=p1 _ _ (fB hk);have e3:cu π2 nm2 k=π2 k:=by simp only[cu,hf,ez]
          rw[e3,idk k (fC hsub hk)];simp only[cu,hb,ez])
         rw[a1]at hk;rw[← ha];exact hK _ _ _ π3 _ _ hk a2 (eB a3) a4
        ·cases hrx
      ·cases hrd
     ·cases hrd
   ·cases h
theorem pF {as:List AV}:∀ {ds:List DV} {bs:List AV} (i:Nat),RelVs π ds bs→(∀ j,at_ as (i+j)=at_ bs j)→RelE π (vt i ds) (lw as)
 | [],bs,i,h,hb=>by intro t d ht; simp[vt,fnd]at ht
 | d0::ds,bs,i,h,hb=>by
  simp only[RelVs]at h;obtain⟨a,as',rfl,h1,h2⟩:=h;intro t d ht;simp only[vt,fnd]at ht;by_cases e1:i=t
  ·subst e1
   simp at ht
   subst ht;show RelV π d0 (at_ as i);rw[show i=i+0 from rfl,hb 0]; exact h1
  ·simp only[bE e1,cond_false]at ht;refine pF (i+1) h2 (fun j=>?_) t d ht;rw[show i+1+j=i+(j+1)by omega,hb (j+1)]; rfl
theorem tP {e:DEnv}{e':Env}(hE:RelE π e e')(hS:RelS π Fr S s'){r:Res}{d:DV}(h:vq e S r=some d):∃ a,jw e' s' r=some a∧RelV π d a:=by
 cases r with
 | t n=>cases h; exact⟨_,rfl,dd hE (.t n)⟩
 | cell a ag k=>
  simp only[vq]at h;split at h
  ·rename_i b hg;have hr:=dd hE (.t a);simp only[bX,hg,RelV,opd]at hr;obtain⟨b',c,n,hp,e1⟩:=hr;split at h
   ·rename_i cs hb;obtain⟨b2,c2,n2,as,hp2,hs,hv⟩:=hS.obj _ _ hb;rw[hp]at hp2; cases hp2;cases hc:Nat.beq cs.length k with
    | false=>rw[hc]at h; cases h
    | true=>
     rw[hc]at h;simp only[cond_true]at h;have hlen:as.length=k:=by rw[aB hv]; exact aj.1 hc
     simp only[jw,e1,hs];cases ag with
     | true=>
      cases h;exact⟨.agg as,by simp[hlen],by simp only[RelV]; exact⟨as,rfl,hv⟩⟩
     | false=>
      simp only at h;split at h
      ·cases h;simp only[RelVs]at hv;obtain⟨a,as',rfl,h1,h2⟩:=hv;exact⟨a,by simp only[List.length_cons]at hlen; simp only[List.length_cons,hlen,if_true,Bool.false_eq_true,if_false]; rfl,h1⟩
      ·cases h
   ·cases h
  ·cases h
theorem kd {e:DEnv}{e':Env}(hE:RelE π e e')(hS:RelS π Fr S s'):∀ {rs:List Res} {ds:List DV},rI e S rs=some ds→∃ as,gl e' s' rs=some as∧RelVs π ds as
 | [],ds,h=>by cases h; exact⟨[],rfl,RelVs_nil⟩
 | r::rs,ds,h=>by
  simp only[rI]at h;split at h
  ·rename_i d ds' h1 h2;cases h;obtain⟨a,g1,g2⟩:=tP hE hS h1;obtain⟨as,g3,g4⟩:=kd hE hS h2;exact⟨a::as,by simp only[gl,g1,g3],RelVs_cons g2 g4⟩
  ·cases h
theorem pG {e:DEnv}{e':Env}(hE:RelE π e e')(hS:RelS π Fr S s'){rs:List Res}{d:DV}(h:vr e S rs=some d):∃ a,gm e' s' rs=some a∧RelV π d a:=by
 unfold vr at h;split at h
 ·rename_i d1 hd;cases h;obtain⟨as,g1,g2⟩:=kd hE hS hd;simp only[RelVs]at g2;obtain⟨a,as',rfl,g2,rfl⟩:=g2;exact⟨a,by simp only[gm,g1],g2⟩
 ·rename_i ds hne hd;cases h;obtain⟨as,g1,g2⟩:=kd hE hS hd;refine⟨.tup as,?_,by simp only[RelV]; exact⟨as,rfl,g2⟩⟩;unfold gm;rw[g1];split
  ·rename_i v hv;cases hv;have:=aB g2
   match ds,this,hne with
   | [x],_,hne=>exact absurd rfl (hne x)
  ·rename_i vs _ hv; cases hv; rfl
  ·rename_i hv; cases hv
 ·cases h
theorem dx {P:Program}{T:List FEnt}(hT:am P T){f:FuncId}{n:Nat}{rs:List Res}{c:DCode}(hF:L.Fn P f n rs (erase c)){sh:FSh}(hn:Nat.ble sh.ins.vals.length n=true):DC P f sh (aO T sh rs c):=by
 refine⟨fun _=>hF.callR,fun x r h π Fr as s' hin=>?_⟩;obtain⟨ds,os,h1,h2,h3⟩:=hin;unfold aO at h;rw[h1]at h;simp only at h;have hids:fP sh.out.ids (sh.ins.objs.map (·.1))=true:=by
  cases hc:fP sh.out.ids (sh.ins.objs.map (·.1))with
  | true=>rfl
  | false=>rw[hc]at h; cases h
 rw[hids,cond_true]at h;have hlen:as.length≤n:=by
  rw[aB h2];have:ds.length=sh.ins.vals.length:=by
   unfold fillSt at h1;split at h1
   ·rename_i ds1 l1 hv;split at h1
    ·cases h1
     clear h h2
     revert hv
     generalize ofDens sh.ts x=l;generalize sh.ins.vals=rs;intro hv
     induction rs generalizing ds l with
     | nil=>simp only[fillVs]at hv; cases hv; rfl
     | cons r rs ih=>
      simp only[fillVs]at hv;split at hv
      ·split at hv
       ·rename_i h2; cases hv; simp[ih _ _ h2]
       ·cases hv
      ·cases hv
    ·cases h1
   ·cases h1
  rw[this]
  simpa [Nat.ble_eq]using hn
 refine qu (mO _) hF hlen (b6 hT c h (pF 0 h2 fun j=>by rw[Nat.zero_add]) h3 fun ex e1 S1 π1 e1' s1 g1 g2 g3 g4=>?_);have fin:(match vr e1 S1 rs with
   | some d=>match iI none S1 sh.out.st sh.out.q [d] (jN sh.out.ids)with
    | some (l,_)=>ct sh.out.ts l
    | none=>none
   | none=>none)=some r→∃ r0,gm e1' s1 rs=some r0∧∃ r' s'',Wk1 s1 r0 s'' r'∧∃ π1,E2 π π1 Fr sh.out r r' s'':=fun hg=>by
  split at hg
  ·rename_i d hd;split at hg
   ·rename_i l nm hr;obtain⟨a,q1,q2⟩:=pG g3 g4 hd;refine⟨a,q1,a,s1,Wk1.refl _ _,cu π1 nm,?_⟩;obtain⟨p1,p2,p3,p4,ds2,os2,p5,p6,p7⟩:=dN g4 hr (aA q2) (Fr1:=Fr) g4.frm (fun k b lc x h1 h2 h3=>by
     obtain⟨o,ho⟩:=(dN g4 hr (aA q2) (Fr1:=qc) (fun _ _ h=>by cases h) (fun _ _ _ _ _ _ _=>rfl)).2.2.2.1 k b h1;exact g4.out' b o lc x ho h2 h3)
    have hl:ofDens sh.out.ts r=l:=aM hg;cases ds2 with
    | nil=>simp only[RelVs]at p6; cases p6
    | cons d2 ds2=>
     simp only[RelVs]at p6;obtain⟨a',as',e1,p6,p8⟩:=p6;cases e1;cases ds2 with
     | cons d3 ds3=>simp only[RelVs]at p8; obtain⟨_,_,e1,_⟩:=p8; cases e1
     | nil=>
      refine⟨d2,os2,by rw[hl]; exact p5,p3,p6,p7,fun k hk=>?_⟩;have hf:=p1 _ _ (fB hk);simp only[cu,hf,ez];obtain⟨o,ho⟩:=jp h1 (fC hids hk);obtain⟨lc,hlc⟩:=(h3.obj k o ho).loc;rw[hlc]; exact g2 _ _ hlc
   ·cases hg
  ·cases hg
 cases ex with
 | normal=>exact fin g1
 | ret=>exact fin g1
 | _=>cases g1
end
end Go.Proofs.YtdkaijofmigmbaaGreat.D

set_option linter.unusedVariables false
set_option linter.unusedSectionVars false
set_option linter.unusedSimpArgs false
namespace Go.Proofs.YtdkaijofmigmbaaGreat.D
open Go Go.Proofs.YtdkaijofmigmbaaGreat.L
variable [YP]
theorem pH {P:Program}{f:FuncId}{sh:FSh}{F F':dens sh.ts→Option (dens sh.out.ts)}(h:F=F')(k:DC P f sh F):DC P f sh F':=h▸k
theorem rY {P:Program}{f:FuncId}{sh:FSh}(h:f≠YB→lr P f):DC P f sh (fun _=>none):=⟨h,fun x r hr=>by cases hr⟩
theorem bG {P:Program}{f:FuncId}{sh:FSh}{F:dens sh.ts→Option (dens sh.out.ts)}{T:List FEnt}(h:DC P f sh F)(hv:(!sh.bw||tE sh)=true)(hT:am P T):am P (⟨f,sh,F⟩::T):=tI (ent:=⟨f,sh,F⟩) h hv hT
end Go.Proofs.YtdkaijofmigmbaaGreat.D

set_option linter.unusedVariables false
set_option linter.unusedSectionVars false
set_option linter.unusedSimpArgs false
namespace Go.Proofs.YtdkaijofmigmbaaGreat.D
open Go Go.Proofs.YtdkaijofmigmbaaGreat.L
variable [YP]
inductive Mk where
 | a (i:Nat) (ag:Bool) (t:Ty)
 | f (i r:Nat) (p:List Nat)
def FT:List Mk→Nat→List DOper
 | .f i r p::hs,k=>bif Nat.beq i k then .fz r p::FT hs k else []
 | _,_=>[]
def Kt:List Mk→Nat→List Mk
 | .f i r p::hs,k=>bif Nat.beq i k then Kt hs k else .f i r p::hs
 | hs,_=>hs
def M9:List Mk→Nat→rF
 | .a i ag t::_,k=>bif Nat.beq i k then some (ag,t)else none
 | _,_=>none
def Na:List Mk→Nat→List Mk
 | .a i ag t::hs,k=>bif Nat.beq i k then hs else .a i ag t::hs
 | hs,_=>hs
def qR:List AOper→List Mk→Nat→List DOper
 | [],hs,k=>FT hs k
 | o::l,hs,k=>FT hs k ++ .op o (M9 (Kt hs k) k)::qR l (Na (Kt hs k) k) (k+1)
def vO:List AOper→List Mk→Nat→List (AOper×rF)
 | [],_,_=>[]
 | o::l,hs,k=>(o,M9 hs k)::vO l (Na hs k) (k+1)
theorem iQ:∀ (a b:List DOper),dr (a++b)=dr a++dr b
 | [],_=>rfl
 | .op o _::a,b=>by simp[dr,iQ a b]
 | .fz ..::a,b=>by simp[dr,iQ a b]
theorem iR:∀ (hs:List Mk) (k:Nat),dr (FT hs k)=[]
 | [],_=>rfl
 | .a ..::_,_=>rfl
 | .f i r p::hs,k=>by
  simp only[FT];cases Nat.beq i k
  ·rfl
  ·exact iR hs k
theorem eC:∀ (l:List AOper) (hs:List Mk) (k:Nat),dr (qR l hs k)=l
 | [],hs,k=>iR hs k
 | o::l,hs,k=>by simp only[qR,iQ,iR,List.nil_append,dr,eC l]
theorem iS:∀ (l:List AOper) (hs:List Mk) (k:Nat),(vO l hs k).map (·.1)=l
 | [],_,_=>rfl
 | o::l,hs,k=>by simp only[vO,List.map_cons,iS l]
inductive HT where
 | n
 | r (l:List Mk)
 | s (x y:HT)
 | b (x:HT)
 | l (h:LSh) (xs:List XSh) (x:HT)
 | o (h:LSh) (xs:List XSh) (x:HT)
 | m (l:List Mk) (h:LSh) (x:HT)
def Nb:LSh:=⟨[],⟨[],[]⟩,[],0,[]⟩
def ib:ACode→DCode
 | .skip=>.skip
 | .ret=>.ret
 | .exit i=>.exit i
 | .reg l=>.reg (qR (l ()) [] 0)
 | .drw rs l=>.drw rs (vO (l ()) [] 0)
 | .seq x y=>.seq (ib x) (ib y)
 | .cond c x y=>.cond c (ib x) (ib y)
 | .blk i x=>.blk i (ib x)
 | .loop c=>.loop Nb [] (ib (c ()))
 | .mrng pre x it nx bb et j c=>.mrng (qR (pre ()) [] 0) x it nx bb et j Nb (ib (c ()))
def ann:HT→ACode→DCode
 | .r hs,.reg l=>.reg (qR (l ()) hs 0)
 | .r hs,.drw rs l=>.drw rs (vO (l ()) hs 0)
 | .s h k,.seq x y=>.seq (ann h x) (ann k y)
 | .s h k,.cond c x y=>.cond c (ann h x) (ann k y)
 | .b h,.blk i x=>.blk i (ann h x)
 | .l h xs k,.loop c=>.loop h xs (ann k (c ()))
 | .o h xs k,c=>.once h xs (ann k c)
 | .m hs h k,.mrng pre x it nx bb et j c=>.mrng (qR (pre ()) hs 0) x it nx bb et j h (ann k (c ()))
 | _,c=>ib c
theorem be:∀ c:ACode,erase (ib c)=c
 | .skip | .ret | .exit _=>rfl
 | .reg l=>by simp only[ib,erase,eC]
 | .drw rs l=>by simp only[ib,erase,iS]
 | .seq x y=>by simp only[ib,erase,be x,be y]
 | .cond c x y=>by simp only[ib,erase,be x,be y]
 | .blk i x=>by simp only[ib,erase,be x]
 | .loop c=>by simp only[ib,erase,be (c ())]
 | .mrng pre x it nx bb et j c=>by simp only[ib,erase,eC,be (c ())]
theorem nu:∀ (h:HT) (c:ACode),erase (ann h c)=c:=by
 intro h
 induction h with
 | n=>intro c; cases c <;> exact be _
 | r hs=>
  intro c;cases c <;> first
   | exact be _
   | simp only[ann,erase,eC,iS]
 | s h k ih1 ih2=>
  intro c;cases c <;> first
   | exact be _
   | simp only[ann,erase,ih1,ih2]
 | b h ih=>
  intro c;cases c <;> first
   | exact be _
   | simp only[ann,erase,ih]
 | l h xs k ih=>
  intro c;cases c <;> first
   | exact be _
   | simp only[ann,erase,ih]
 | o h xs k ih=>intro c; simp only[ann,erase,ih]
 | m hs h k ih=>
  intro c;cases c <;> first
   | exact be _
   | simp only[ann,erase,eC,ih]
def DY (P:Program)(n:Nat)(c:RCh)(ops:Array Oper)(draw:Bool):ACode:=match draw with
 | false=>.reg fun _=>(jJ P n ops c.ch ops.toList).getD []
 | true=>.drw c.rs fun _=>gq ((jJ P n ops c.ch ops.toList).getD []).toArray (zz c ops.size)
theorem xD {P:Program}{n:Nat}{c:RCh}{ops:Array Oper}{draw:Bool}{a:ACode}(h:ve P n c ops draw=some a):DY P n c ops draw=a:=by
 unfold ve at h;unfold DY;split at h
 ·rename_i l hl;rw[hl];split at h
  ·cases h; rfl
  ·simp only[]at h;split at h
   ·cases h; rfl
   ·cases h
 ·cases h
def cn (P:Program)(n:Nat)(cs:List (Nat×RCh)):Code→ACode
 | .skip=>.skip
 | .ret=>.ret
 | .exit i=>.exit i
 | .region id ops draw=>DY P n (Km cs id) ops draw
 | .seq a b=>xe P n a b (cn P n cs a) (cn P n cs b)
 | .cond c a b=>.cond ((cOpd c).getD (.t 0)) (cn P n cs a) (cn P n cs b)
 | .block i c=>.blk i (cn P n cs c)
 | .loop c=>.loop fun _=>cn P n cs c
 | .label _=>.skip
 | .scope c=>cn P n cs c
 | _=>.skip
theorem dk {P:Program}{n:Nat}{cs:List (Nat×RCh)}:∀ {c:Code} {a:ACode},bC P n cs c=some a→cn P n cs c=a
 | .skip,_,h=>by cases h; rfl
 | .ret,_,h=>by cases h; rfl
 | .exit i,_,h=>by cases h; rfl
 | .region id ops draw,_,h=>xD h
 | .seq x y,_,h=>by
  simp only[bC]at h;split at h
  ·rename_i h1 h2; cases h; rw[cn,dk h1,dk h2]
  ·cases h
 | .cond c x y,_,h=>by
  simp only[bC]at h;split at h
  ·rename_i h0 h1 h2; cases h; rw[cn,dk h1,dk h2,h0]; rfl
  ·cases h
 | .block i c,_,h=>by
  simp only[bC]at h;split at h
  ·rename_i h1; cases h; rw[cn,dk h1]
  ·cases h
 | .loop c,_,h=>by
  simp only[bC]at h;split at h
  ·rename_i h1; cases h; rw[cn,dk h1]
  ·cases h
 | .label l,_,h=>by cases h; rfl
 | .scope c,_,h=>by
  simp only[bC]at h;rw[cn,dk h]
def cz (P:Program)(cs:List (Nat×RCh))(fn:Func)(h:HT):DCode:=match fn.body with
 | some b=>ann h (cn P fn.ntmps cs b)
 | none=>.skip
theorem Fn.ofA {P:Program}(hm:P.follows .mixedOrders=true){f:FuncId}{fn:Func}(hf:P.funcs[f]?=some fn)(cs:List (Nat×RCh)){n:Nat}{rs:List Res}(H:HT)(h:(ER P cs fn).map (fun x=>(x.1,x.2.1))=some (n,rs))(hne:Nat.beq f YB=false:=by rfl):L.Fn P f n rs (erase (cz P cs fn H)):=by
 cases hc:ER P cs fn with
 | none=>rw[hc]at h; cases h
 | some x=>
  rw[hc]at h;obtain⟨n',rs',c⟩:=x;cases h;have:erase (cz P cs fn H)=c:=by
   have hc':=hc;unfold ER at hc';split at hc'
   ·split at hc'
    ·rename_i b rs0 hb hr;split at hc'
     ·rename_i c0 h0;cases hc';simp only[cz,hb,nu];exact dk h0
     ·cases hc'
    ·cases hc'
   ·cases hc'
  rw[this];exact L.Fn.of hm hf cs hc hne
def sb:List Nat→DCode→DCode
 | [],c=>c
 | 0::p,.seq x _=>sb p x
 | _::p,.seq _ y=>sb p y
 | 0::p,.cond _ x _=>sb p x
 | _::p,.cond _ _ y=>sb p y
 | _::p,.blk _ x=>sb p x
 | _::p,.loop _ _ x=>sb p x
 | _::p,.once _ _ x=>sb p x
 | _::p,.mrng _ _ _ _ _ _ _ _ x=>sb p x
 | _::_,c=>c
end Go.Proofs.YtdkaijofmigmbaaGreat.D

set_option linter.unusedVariables false
set_option linter.unusedSimpArgs false
namespace Go.Proofs.YtdkaijofmigmbaaGreat.L
open Go
def mark (D:Nat):Deferred:={target:=.collected D,args:=#[] }
def gH (fid:FuncId)(tmps:Array Value)(ps:Array Tmp)(assign body:Code)(D:Nat):Loop:=
 {state:=.ready,pending:=none,fn:=fid,tmps,params:=ps,assign,body,defers:=D }
def kQ:Obj:=.deferred (some [])
def busy (r:Loop):Loop:={r with state:=.busy }
def gone (r:Loop):Loop:={r with state:=.exhausted }
def gI (r:Loop)(j:Option Code):Loop:={r with state:=if j.isNone then .ready else .done,pending:=j }
theorem ke {s:Store}{w:World}(hs:St s w){b:Nat}(hb:own s b)(o:Obj):St (upd s b (.raw o)) (w.putObj b o)∧Mv (own s) (own (upd s b (.raw o))) w (w.putObj b o):=
 fK hs hb rfl rfl rfl (by simp) (fun c hc=>World.putObj_heap_other hc) (fun _=>World.putObj_heap_same (hs.lt hb))
theorem vP {s:Store}{w:World}(hs:St s w)(o:Obj):St (upd s w.heap.size (.raw o)) (w.alloc o)∧Mv (own s) (own (upd s w.heap.size (.raw o))) w (w.alloc o):=
 nU hs (Mv.alloc w o) (fun c hc=>RowKit.Below.heap_alloc w _ c hc) (heap_alloc_new w _)
theorem nv {P:Program}{n:Nat}{s:Store}{e:Env}{a:Act}{w:World}(hf:Conf n s e a w){g:Operand}{gf:FuncId}{caps:List AV}(hg:RV (own s) w (.fn gf caps) (a.eval g))(hne:gf≠YB){ps:Array Tmp}{assign body:Code}{Q:Exit→Act→World→Prop}
  (h:∀ fid D l,D≠l→s D=none→s l=none →
   ∃ pins R,AC P gf (.yld l pins pins::caps) (upd (upd s D (.raw kQ)) l (.raw (.loop (gH fid a.tmps ps assign body D)))) R ∧
    ∀ r s2,R r s2→∃ rc,s2 l=some (.raw (.loop rc))∧rc.state ≠ .busy∧∀ w3,St (upd s2 l (.raw (.loop (gone rc)))) w3→Mv (own s) (own (upd s2 l (.raw (.loop (gone rc))))) w w3 →
     match rc.pending with
     | none=>Q .normal {a with defers:=mark D::a.defers } w3
     | some c=>cwp none P c Q {a with defers:=mark D::a.defers } w3) :
  cwp none P (.rangeFunc g ps assign body) Q a w:=by
 obtain⟨us,hv,hl,hj⟩:=nS hg;refine wpIn_rangeFunc fun fn _=>?_;have hD:s w.heap.size=none:=hf.st.fresh;obtain⟨t1,m1⟩:=vP hf.st kQ;have hs1:(w.alloc kQ).heap.size=w.heap.size+1:=by simp
 obtain⟨t2,m2⟩:=vP t1 (.loop (gH fn a.tmps ps assign body w.heap.size));rw[hs1]at t2 m2;have hl0:s (w.heap.size+1)=none:=by
  cases hc:s (w.heap.size+1)with
  | none=>rfl
  | some x=>have:=(hf.st _ _ hc).lt; omega
 obtain⟨pins,R,hac,hR⟩:=h fn w.heap.size (w.heap.size+1) (by omega) hD hl0;have rv:nP (own (upd (upd s w.heap.size (.raw kQ)) (w.heap.size+1) (.raw (.loop (gH fn a.tmps ps assign body w.heap.size))))) ((w.alloc kQ).alloc (.loop (gH fn a.tmps ps assign body w.heap.size))) (.yld (w.heap.size+1) pins pins::caps) (.func (.yield (w.heap.size+1)) #[] #[]::us):=by
  refine⟨by simp[hl],fun j hj'=>?_⟩;cases j with
  | zero=>exact .yld _ _
  | succ j=>have:=(hj j (by simpa using hj')).mv (m1.trans m2); simpa [at_,b9]using this
 refine⟨w.heap.size+1,[mark w.heap.size],((w.alloc kQ).alloc (.loop (gH fn a.tmps ps assign body w.heap.size))),{target:=.fn (.func gf) us.toArray,args:=#[.func (.yield (w.heap.size+1)) #[] #[]] },((w.alloc kQ).alloc (.loop (gH fn a.tmps ps assign body w.heap.size))),gf,#[.func (.yield (w.heap.size+1)) #[] #[]]++us.toArray,((w.alloc kQ).alloc (.loop (gH fn a.tmps ps assign body w.heap.size))),run_enterLoop_outer _ _ _ _ _,?_,fun _ _=>trivial,?_,fun h=>(by cases h),?_⟩
 ·simp only[resolve,hv]
  simp[go_sem]
 ·simp[invoke,go_sem,jx (hac.1 hne)]
 ·have hcall:=(hac.2 _ _ t2 rv).1 hne;have e1:(Value.func (.yield (w.heap.size+1)) #[] #[]::us).toArray=#[.func (.yield (w.heap.size+1)) #[] #[]]++us.toArray:=by simp
  rw[e1]at hcall;refine iw.2 (hcall.mono ?_);rintro en w3 ⟨v,r,s3,rfl,hRr,hst3,_,hm3⟩;obtain⟨rc,g1,g2,g3⟩:=hR r s3 hRr;obtain⟨p1,p2⟩:=ke hst3 (bB g1) (.loop (gone rc));have fin:=g3 _ p1 (m1.trans (m2.trans (hm3.trans p2)));have hend:(Instr.endLoop (w.heap.size+1)).run P w3 = .ok rc.pending (w3.putObj (w.heap.size+1) (.loop (gone rc))):=run_endLoop (hst3 _ _ g1) g2;generalize w3.putObj (w.heap.size+1) (.loop (gone rc))=W4 at hend fin;generalize rc.pending=pd at hend fin;refine⟨pd,W4,hend,?_⟩;cases pd with
  | none=>exact fin
  | some c=>exact fin
def FU (n:Nat)(rs:List Res)(R:AV→Store→Prop)(s:Store)(w:World):Exit→Act→World→Prop
 | .normal,a,w' | .ret,a,w'=>∃ e' s' D r,gm e' (upd s' D (.raw (.deferred none))) rs=some r∧Conf n s' e' a w'∧Mv (own s) (own s') w w'∧a.defers=[mark D]∧s' D=some (.raw kQ)∧R r (upd s' D (.raw (.deferred none)))
 | _,_,_=>False
theorem pI {P : Program} {f : FuncId} {fn : Func} {b : Code} (hf : P.funcs[f]? = some fn) (hname : (fn.name == "runtime.NumGoroutine") = false) (hb : fn.body = some b) (hne : f ≠ YB) {rs : List Res} (hrs : gu P fn.results.toList rs) {as : List AV} {s : Store} {R : AV → Store → Prop} (hn : as.length ≤ fn.ntmps)
  (h:∀ a w,Conf fn.ntmps s (lw as) a w→a.defers=[]→cwp none P b (FU fn.ntmps rs R s w) a w):AC P f as s R:=by
 refine⟨fun _=>⟨fn,hf,hname,by simp[hb]⟩,fun vs w hs hv=>⟨fun _=>?_,fun e=>absurd e hne⟩⟩;refine(iw (r:=none) (n:=0)).1 (callsIn_of_wp_marks (F:=FW none) (n:=0) hf hb trivial ?_ rfl);have hlen:=hv.1;have hc:Conf fn.ntmps s (lw as) {tmps:=vs.toArray++Array.replicate (fn.ntmps-vs.toArray.size) Go.undef,defers:=[] } w:=
  ⟨by simp[hlen]; omega,hs,fun t=>rB hv t⟩
 refine wpIn_mono (h _ w hc rfl) ?_;have fin:∀ {a' w'},(∃ e' s' D r,gm e' (upd s' D (.raw (.deferred none))) rs=some r∧Conf fn.ntmps s' e' a' w'∧Mv (own s) (own s') w w'∧a'.defers=[mark D]∧s' D=some (.raw kQ)∧R r (upd s' D (.raw (.deferred none)))) →
   LeavesInM (FW none) 0 P fn a'.tmps (ret R s w) a'.defers .returning w':=by
  rintro a' w' ⟨e',s',D,r,h1,h2,h3,h4,h5,h6⟩;rw[h4];obtain⟨p1,p2⟩:=ke h2.st (bB h5) (.deferred none);obtain⟨u,hu,hru⟩:=kB hrs (n:=fn.ntmps) ⟨h2.sz,p1,fun t=>(h2.env t).mv p2⟩ h1;exact⟨by simp,.inl ⟨D,_,rfl,run_takeDeferred (h2.st D _ h5),⟨u,hu,⟨u,r,_,rfl,h6,p1,hru,h3.trans p2⟩⟩⟩⟩
 rintro ex a' w' hk;cases ex with
 | normal=>exact fin hk
 | ret=>exact fin hk
 | exit i=>exact hk.elim
 | goto l=>exact hk.elim
 | panic ch=>exact hk.elim
 | outgrown=>exact hk.elim
def DZ (l:Nat)(rc:Loop)(R:AV→Store→Prop):Exit→Env→Store→Prop
 | .normal,_,s=>s l=some (.raw (.loop (busy rc)))∧R (.bool true) (upd s l (.raw (.loop (gI rc none))))
 | .ret,_,s=>s l=some (.raw (.loop (busy rc)))∧R (.bool false) (upd s l (.raw (.loop (gI rc (some .ret)))))
 | .exit i,_,s=>s l=some (.raw (.loop (busy rc)))∧R (.bool false) (upd s l (.raw (.loop (gI rc (some (.exit i))))))
 | _,_,_=>False
theorem pJ {P:Program}{l:Nat}{pins caps xs:List AV}{rc:Loop}{s:Store}{R:AV→Store→Prop}(hready:rc.state = .ready)(hsz:rc.params.size=xs.length){n:Nat}(hn:rc.tmps.size=n)
  (h:caps=pins→s l=some (.raw (.loop rc))∧∃ e:Env,(∀ o w vs,nP o w xs vs→∀ t,RV o w (e t) (((rc.params.toList.zip vs).foldl (fun t p=>t.setIfInBounds p.1 p.2) rc.tmps).getD t Go.undef)) ∧
   jt P n rc.assign (fun x e1 s1=>x = .normal∧s1 l=some (.raw (.loop rc))∧jt P n rc.body (DZ l rc R) e1 (upd s1 l (.raw (.loop (busy rc))))) e s) :
  AC P YB (xs++[.yld l pins caps]) s R:=by
 refine⟨fun h=>absurd rfl h,fun vs w hst hv=>⟨fun h=>absurd rfl h,fun _=>?_⟩⟩;obtain⟨h1,h2⟩:=hv;obtain⟨vx,y,rfl⟩:∃ vx y,vs=vx++[y]:=by
  have:vs≠[]:=fun e=>by rw[e]at h1; simp at h1
  exact⟨vs.dropLast,vs.getLast this,(List.dropLast_concat_getLast this).symm⟩
 have hlx:vx.length=xs.length:=by simpa using h1
 have hy:RV (own s) w (.yld l pins caps) y:=by
  have:=h2 xs.length (by simp)
  simpa [at_,b9,List.getD_eq_getElem?_getD,hlx,List.getElem?_append_right]using this
 obtain⟨rfl,hcp⟩:=rh hy;have hvx:nP (own s) w xs vx:=⟨hlx,fun j hj=>by
  have:=h2 j (by simp; omega)
  simpa [at_,b9,List.getD_eq_getElem?_getD,List.getElem?_append_left,hj,hlx]using this⟩
 obtain⟨hs,e,he,h⟩:=h hcp;refine⟨l,vx,rfl,rc.fn,_,rc.assign,rc.body,run_yield (hst l _ hs) (by simp[hsz,hlx]),roundIn_of_wpIn trivial ?_⟩;have hfold:∀ (ps:List (Nat×Value)) (ts:Array Value),(ps.foldl (fun t (p,v)=>t.setIfInBounds p v) ts).size=ts.size:=by
  intro ps
  induction ps with
  | nil=>intro ts; rfl
  | cons p ps ih=>intro ts; simp only[List.foldl_cons]; rw[ih]; simp
 have hlist:(rc.params.zip vx.toArray).foldl (fun t (p,v)=>t.setIfInBounds p v) rc.tmps=(rc.params.toList.zip vx).foldl (fun t p=>t.setIfInBounds p.1 p.2) rc.tmps:=by
  rw[← Array.foldl_toList,Array.toList_zip]
 have c0:Conf n s e {tmps:=(rc.params.zip vx.toArray).foldl (fun t (p,v)=>t.setIfInBounds p v) rc.tmps,defers:=[] } w:=
  ⟨by rw[← Array.foldl_toList]; exact(hfold _ _).trans hn,hst,fun t=>by rw[hlist]; exact he _ _ _ hvx t⟩
 refine wpIn_mono (h (some l) _ w c0) ?_;rintro ex a1 w1 ⟨e1,s1,⟨rfl,g2,g3⟩,c1,mv1,d1⟩;obtain⟨p1,p2⟩:=ke c1.st (bB g2) (.loop (busy rc));refine⟨_,run_beginRound (c1.st l _ g2) hready,wpIn_mono (g3 (some l) a1 _ ⟨c1.sz,p1,fun t=>(c1.env t).mv p2⟩) ?_⟩;rintro ex a2 w2 ⟨e2,s2,q,c2,mv2,d2⟩;cases ex with
 | normal=>
  obtain⟨q1,q2⟩:=q;obtain⟨r1,r2⟩:=ke c2.st (bB q1) (.loop (gI rc none));exact⟨_,_,run_endRound none (c2.st l _ q1),⟨.bool true,.bool true,_,rfl,q2,r1,.fz _ _ (.bool _),mv1.trans (p2.trans (mv2.trans r2))⟩⟩
 | ret=>
  obtain⟨q1,q2⟩:=q;obtain⟨r1,r2⟩:=ke c2.st (bB q1) (.loop (gI rc (some .ret)));exact⟨_,_,run_endRound (some .ret) (c2.st l _ q1),⟨.bool false,.bool false,_,rfl,q2,r1,.fz _ _ (.bool _),mv1.trans (p2.trans (mv2.trans r2))⟩⟩
 | exit i=>
  obtain⟨q1,q2⟩:=q;obtain⟨r1,r2⟩:=ke c2.st (bB q1) (.loop (gI rc (some (.exit i))));exact⟨_,_,run_endRound (some (.exit i)) (c2.st l _ q1),⟨.bool false,.bool false,_,rfl,q2,r1,.fz _ _ (.bool _),mv1.trans (p2.trans (mv2.trans r2))⟩⟩
 | goto t=>exact q.elim
 | panic c=>exact q.elim
 | outgrown=>exact q.elim
end Go.Proofs.YtdkaijofmigmbaaGreat.L

set_option linter.unusedVariables false
set_option linter.unusedSectionVars false
set_option linter.unusedSimpArgs false
namespace Go.Proofs.YtdkaijofmigmbaaGreat.D
open Go Go.Proofs.YtdkaijofmigmbaaGreat.L
mutual
def xE:DV→Bool
 | .fn f ds=>!Nat.beq f YB&&pK ds
 | .agg ds=>pK ds
 | .tup ds=>pK ds
 | .elm ds=>pK ds
 | .whn _ d=>xE d
 | _=>true
def pK:List DV→Bool
 | []=>true
 | d::ds=>xE d&&pK ds
end
def pL:DObj→Bool
 | .box ds=>pK ds
 | .raw _=>false
 | _=>true
mutual
theorem qS (y y':YP){π:Pi}:∀ (d:DV) {a:AV},xE d=true→@RelV y π d a→@RelV y' π d a
 | .undef,_,_,_=>by simp only[RelV]
 | .v x,a,_,h=>by simp only[RelV]at h ⊢; exact h
 | .emp,a,_,h=>by simp only[RelV]at h ⊢; exact h
 | .nilp,a,_,h=>by simp only[RelV]at h ⊢; exact h
 | .nilm,a,_,h=>by simp only[RelV]at h ⊢; exact h
 | .agg ds,a,n,h=>by simp only[RelV]at h ⊢; obtain⟨as,e,h⟩:=h; exact⟨as,e,gY y y' ds (by simpa only[xE]using n) h⟩
 | .tup ds,a,n,h=>by simp only[RelV]at h ⊢; obtain⟨as,e,h⟩:=h; exact⟨as,e,gY y y' ds (by simpa only[xE]using n) h⟩
 | .elm ds,a,n,h=>by simp only[RelV]at h ⊢; obtain⟨as,e,h⟩:=h; exact⟨as,e,gY y y' ds (by simpa only[xE]using n) h⟩
 | .ptr b o,a,_,h=>by simp only[RelV]at h ⊢; exact h
 | .rptr b k i j,a,_,h=>by simp only[RelV]at h ⊢; exact h
 | .slc b,a,_,h=>by simp only[RelV]at h ⊢; exact h
 | .slo b k o n,a,_,h=>by simp only[RelV]at h ⊢; exact h
 | .mp b,a,_,h=>by simp only[RelV]at h ⊢; exact h
 | .stk b,a,_,h=>by simp only[RelV]at h ⊢; exact h
 | .slr b,a,_,h=>by simp only[RelV]at h ⊢; exact h
 | .orow b i,a,_,h=>by simp only[RelV]at h ⊢; exact h
 | .irow b i,a,_,h=>by simp only[RelV]at h ⊢; exact h
 | .iptr b k i j o,a,_,h=>by simp only[RelV]at h ⊢; exact h
 | .pel b k o,a,_,h=>by simp only[RelV]at h ⊢; exact h
 | .mpl b,a,_,h=>by simp only[RelV]at h ⊢; exact h
 | .slh b,a,_,h=>by simp only[RelV]at h ⊢; exact h
 | .hrow b i,a,_,h=>by simp only[RelV]at h ⊢; exact h
 | .fn f ds,a,n,h=>by
  simp only[RelV]at h ⊢;simp only[xE,Bool.and_eq_true,Bool.not_eq_true']at n;obtain⟨as,e,h⟩:=h;exact⟨as,by rw[e,@ew y _ _ n.1,@ew y' _ _ n.1],gY y y' ds n.2 h⟩
 | .whn g d,a,n,h=>by simp only[RelV]at h ⊢; obtain⟨a',e,h⟩:=h; exact⟨a',e,fun g=>qS y y' d (by simpa only[xE]using n) (h g)⟩
theorem gY (y y':YP){π:Pi}:∀ (ds:List DV) {as:List AV},pK ds=true→@RelVs y π ds as→@RelVs y' π ds as
 | [],as,_,h=>by simp only[RelVs]at h ⊢; exact h
 | d::ds,as,n,h=>by
  simp only[RelVs]at h ⊢;simp only[pK,Bool.and_eq_true]at n;obtain⟨a,as',e,h1,h2⟩:=h;exact⟨a,as',e,qS y y' d n.1 h1,gY y y' ds n.2 h2⟩
end
theorem FX (y y':YP){π:Pi}{s:Store}{b:Nat}{o:DObj}(n:pL o=true)(h:@ObR y π s b o):@ObR y' π s b o:=by
 cases o with
 | box ds=>obtain⟨b',c,m,as,h1,h2,h3⟩:=h; exact⟨b',c,m,as,h1,h2,gY y y' ds n h3⟩
 | raw k=>simp[pL]at n
 | row T t l=>exact h
 | imap kn ag t es pd=>exact h
 | rows T T' t l=>exact h
 | pool t es=>exact h
 | pmap p=>exact h
 | gone p=>exact h
 | rowh T T' t l i=>exact h
 | hdl p=>exact h
theorem oy (y y':YP){π:Pi}{Fr:Store}{S:DSt}{s:Store}(n:∀ b o,S.get b=some o→pL o=true)(h:@RelS y π Fr S s):@RelS y' π Fr S s:=
 @RelS.mk y' _ _ _ _ (fun b o hb=>FX y y' (n b o hb) (@RelS.obj y _ _ _ _ h b o hb)) (@RelS.inj' y _ _ _ _ h) (@RelS.frm y _ _ _ _ h) (@RelS.out' y _ _ _ _ h) (@RelS.nx y _ _ _ _ h)
section
variable [YP] {π:Pi} {Fr:Store} {S:DSt} {s':Store}
theorem eD (e':Env):RelE π [] e':=fun t d h=>by cases h
theorem bf {t0:Nat}{d0:DV}{e:DEnv}{e':Env}(h:RelV π d0 (e' t0))(k:RelE π e e'):RelE π ((t0,d0)::e) e':=fun t d hd=>by
 simp only[fnd]at hd;cases hb:Nat.beq t0 t with
 | true=>rw[hb]at hd; cases hd; rw[← aj.1 hb]; exact h
 | false=>rw[hb]at hd; exact k t d hd
theorem bR {P:Program}(hm:P.follows .mixedOrders=true){T:List FEnt}(hT:am P T){n:Nat}{cs:List (Nat×RCh)}{c:Code}{H:HT}(hc:(bC P n cs c).isSome=true){e:DEnv}{x:Exit}{e1:DEnv}{S1:DSt}
  (hd:bT T (ann H (cn P n cs c)) (fun x e S=>some (x,e,S)) e S=some (x,e1,S1)) {e':Env} (hE:RelE π e e') (hS:RelS π Fr S s') :
  jt P n c (fun y e1' s1=>y=x∧∃ π1,Ext π π1∧RelE π1 e1 e1'∧RelS π1 Fr S1 s1) e' s':=by
 cases hk:bC P n cs c with
 | none=>rw[hk]at hc; cases hc
 | some c'=>
  have h1:=cZ hm hk;have h2:=b6 hT _ hd hE hS (C:=fun y e1' s1=>y=x∧∃ π1,Ext π π1∧RelE π1 e1 e1'∧RelS π1 Fr S1 s1) (fun y e2 S2 π1 e1' s1 g1 g2 g3 g4=>by
   cases g1; exact⟨rfl,π1,g2,g3,g4⟩)
  rw[nu,dk hk]at h2;exact o8 (mO _) h1 h2
theorem oz {π1:Pi}{s1:Store}{o:OutSh}{r:dens o.ts}{d:DV}{a:AV}(g4:RelS π1 Fr S s1)(hd:RelV π1 d a)
  (hr:(match iI none S o.st o.q [d] (jN o.ids)with | some (l,_)=>ct o.ts l | none=>none)=some r) (hids:∀ k,o.ids.any (Nat.beq k)=true→∃ lc,π k=some lc∧π1 k=some lc):∃ π2,E2 π π2 Fr o r a s1:=by
 split at hr
 ·rename_i l nm hr';refine⟨cu π1 nm,?_⟩;obtain⟨p1,p2,p3,p4,ds2,os2,p5,p6,p7⟩:=dN g4 hr' (aA hd) (Fr1:=Fr) g4.frm (fun k b lc x h1 h2 h3=>by
   obtain⟨o,ho⟩:=(dN g4 hr' (aA hd) (Fr1:=qc) (fun _ _ h=>by cases h) (fun _ _ _ _ _ _ _=>rfl)).2.2.2.1 k b h1;exact g4.out' b o lc x ho h2 h3)
  have hl:ofDens o.ts r=l:=aM hr;cases ds2 with
  | nil=>simp only[RelVs]at p6; cases p6
  | cons d2 ds2=>
   simp only[RelVs]at p6;obtain⟨a',as',e1,p6,p8⟩:=p6;cases e1;cases ds2 with
   | cons d3 ds3=>simp only[RelVs]at p8; obtain⟨_,_,e1,_⟩:=p8; cases e1
   | nil=>
    refine⟨d2,os2,by rw[hl]; exact p5,p3,p6,p7,fun k hk=>?_⟩;have hf:=p1 _ _ (fB hk);simp only[cu,hf,ez];obtain⟨lc,h1,h2⟩:=hids k hk;rw[h1,h2]
 ·cases hr
theorem rZ {Fr':Store}(h:RelS π Fr' S s')(hf:∀ b x,Fr b=some x→Fr' b=some x):RelS π Fr S s':=by
 refine⟨h.obj,h.inj',fun b x hb=>h.frm b x (hf b x hb),fun b o l x hb hl hx=>?_,h.nx⟩;cases hc:Fr x with
 | none=>rfl
 | some y=>have:=hf x y hc; rw[h.out' b o l x hb hl hx]at this; cases this
theorem jr {q:Nat}{x:AObj}(h:RelS π Fr S s')(hq:Fr q=none)(hno:∀ b o l,S.get b=some o→π b=some l→¬ l.has q):RelS π Fr S (upd s' q x):=by
 refine⟨fun b o hb=>(h.obj b o hb).mono (Ext.refl _) fun l y hp hh=>?_,h.inj',fun b y hb=>?_,h.out',h.nx⟩
 ·have:y≠q:=fun e=>hno b o l hb hp (e▸hh);exact ay _ _ this
 ·have:b≠q:=fun e=>by rw[e,hq]at hb; cases hb
  rw[ay _ _ this]; exact h.frm b y hb
end
end Go.Proofs.YtdkaijofmigmbaaGreat.D

set_option linter.unusedVariables false
set_option linter.unusedSimpArgs false
namespace Go.Proofs.YtdkaijofmigmbaaGreat.D
open Go Go.Proofs.YtdkaijofmigmbaaGreat.L
def foldT (t:Ty):List Ty→Ty
 | []=>t
 | u::us=>.pair t (foldT u us)
def Wf:(t:Ty)→t.den→Prop
 | .int k,n=>(Lit.int k n).wf=true
 | .str,s=>s.size≤maxLen
 | .sl t,l=>l.length≤maxLen∧∀ i,i < l.length→Wf t (at0 t l i)
 | .pair a b,x=>Wf a x.1∧Wf b x.2
 | _,_=>True
def eE (P:Program)(rec:TypeId→Option (List Ty)):Nat→List Field→Option (List Ty)
 | _,[]=>some []
 | off,f::fs=>match rec f.type with
  | some ts=>bif Nat.beq f.offset off&&Nat.beq (P.cellsOf f.type) ts.length then(match eE P rec (off+ts.length) fs with
   | some us=>some (ts++us)
   | none=>none)else none
  | none=>none
def tyCells (P:Program):Nat→TypeId→Option (List Ty)
 | 0,_=>none
 | n+1,t=>match P.underlying t with
  | some (.int k)=>some [.int k]
  | some .bool=>some [.bool]
  | some .string=>some [.str]
  | some (.slice e)=>match tyCells P n e with
   | some (u::us)=>bif Nat.beq (P.cellsOf e) (us.length+1)then some [.sl (foldT u us)]else none
   | _=>none
  | some (.struct fs)=>match eE P (tyCells P n) 0 fs.toList with
   | some ts=>bif Nat.beq (P.cellsOf t) ts.length then some ts else none
   | none=>none
  | _=>none
def xF (w:World):List Leaf→List Value→Prop
 | [],cs=>cs=[]
 | l::ls,cs=>∃ a v cs',cs=v::cs'∧CR l.t l.x [a]∧FV (fun _=>False) w a v∧Wf l.t l.x∧xF w ls cs'
theorem sa {w:World}:∀ {l l':List Leaf} {cs cs':List Value},xF w l cs→xF w l' cs'→xF w (l++l') (cs++cs')
 | [],_,_,_,h,h'=>by cases h; exact h'
 | x::l,_,_,_,⟨a,v,c,e,h1,h2,h3,h4⟩,h'=>by subst e; exact⟨a,v,_,rfl,h1,h2,h3,sa h4 h'⟩
theorem xG (a:AV)(as:List AV)(j:Nat):at_ (a::as) (j+1)=at_ as j:=by simp[at_]
theorem Ea {w:World}:∀ {t:Ty} {ts:List Ty} {l:List Leaf} {cs:List Value},l.map (·.t)=t::ts→xF w l cs →
  ∃ (x:(foldT t ts).den) (as:List AV),CR (foldT t ts) x as∧Wf (foldT t ts) x∧as.length=cs.length∧∀ j,j < cs.length→FV (fun _=>False) w (at_ as j) (b9 cs j)
 | t,[],[],_,h,_=>by simp at h
 | t,u::us,[],_,h,_=>by simp at h
 | t,[],⟨t',x⟩::l,cs,h,hc=>by
  simp only[List.map_cons,List.cons.injEq,List.map_eq_nil_iff]at h;obtain⟨h1,rfl⟩:=h;subst h1;obtain⟨a,v,c,rfl,k1,k2,k3,k4⟩:=hc;cases k4;refine⟨x,[a],k1,k3,rfl,fun j hj=>?_⟩;have:j=0:=by simpa using hj
  subst this;exact k2
 | t,u::us,⟨t',x⟩::l,cs,h,hc=>by
  simp only[List.map_cons,List.cons.injEq]at h;obtain⟨h1,h⟩:=h;subst h1;obtain⟨a,v,c,rfl,k1,k2,k3,k4⟩:=hc;obtain⟨y,as,g1,g2,g3,g4⟩:=Ea (t:=u) (ts:=us) (by simpa using h) k4;refine⟨(x,y),a::as,⟨[a],as,rfl,k1,g1⟩,⟨k3,g2⟩,by simp[g3],fun j hj=>?_⟩;cases j with
  | zero=>exact k2
  | succ j=>rw[xG]; exact g4 j (by simpa using hj)
section
variable {H:Type} {enc:TypeId×Value→H} {P:Program} {w:World} {base:Nat} {spare:Nat→Bool} {held:Bool}
theorem gJ {α:Type}(g:Nat→α)(d:α){i n:Nat}(h:i < n):((List.range n).map g).getD i d=g i:=by
 simp[List.getD_eq_getElem?_getD,h]
theorem js {n:Nat}{rec:TypeId→Option (List Ty)}{cs:List Value}(hrec:∀ {t ts},rec t=some ts→∀ {cs x},DataW.trod enc P w base spare held n t cs=some x→∃ l:List Leaf,l.map (·.t)=ts∧xF w l cs):
  ∀ (fs:List Field) (off:Nat) (ts:List Ty),eE P rec off fs=some ts→(∀ f∈fs,∃ x,DataW.trod enc P w base spare held n f.type ((cs.drop f.offset).take (P.cellsOf f.type))=some x) →
   ∃ l:List Leaf,l.map (·.t)=ts∧xF w l ((cs.drop off).take ts.length)
 | [],off,ts,h,_=>by
  simp only[eE,Option.some.injEq]at h; subst h;exact⟨[],rfl,by simp[xF]⟩
 | f::fs,off,ts,h,hf=>by
  simp only[eE]at h;cases hr:rec f.type with
  | none=>rw[hr]at h; cases h
  | some us=>
   rw[hr]at h;cases hb:(Nat.beq f.offset off&&Nat.beq (P.cellsOf f.type) us.length)with
   | false=>simp only[hb,cond_false]at h; cases h
   | true=>
    simp only[hb,cond_true]at h;simp only[Bool.and_eq_true,aj]at hb;obtain⟨e1,e2⟩:=hb;cases hr2:eE P rec (off+us.length) fs with
    | none=>rw[hr2]at h; cases h
    | some vs=>
     rw[hr2]at h;simp only[Option.some.injEq]at h; subst h;obtain⟨x,hx⟩:=hf f (by simp);obtain⟨l,g1,g2⟩:=hrec hr hx;obtain⟨l',g3,g4⟩:=js hrec fs _ _ hr2 (fun f' hf'=>hf f' (by simp[hf']));refine⟨l++l',by simp[g1,g3],?_⟩;rw[e1,e2]at g2;have:(cs.drop off).take (us++vs).length=(cs.drop off).take us.length++(cs.drop (off+us.length)).take vs.length:=by
      rw[List.length_append,List.take_add,List.drop_drop]
     rw[this];exact sa g2 g4
theorem xH {w:World}{a:Addr}{v:Value}(h:w.cell? a=some v):a.block < w.heap.size:=World.block_lt_of_cell? w a h
theorem fV:∀ (n:Nat) {t:TypeId} {ts:List Ty},tyCells P n t=some ts→∀ {fuel:Nat} {cs:List Value} {x:DataW H×List MemPlace},DataW.trod enc P w base spare held fuel t cs=some x→∃ l:List Leaf,l.map (·.t)=ts∧xF w l cs
 | 0,_,_,h,_,_,_,_=>by cases h
 | n+1,t,ts,h,fuel,cs,x,ht=>by
  unfold tyCells at h;split at h
  ·rename_i k hu;cases h;obtain⟨m,rfl,_,hw⟩:=DataW.trod_int hu ht;exact⟨[⟨.int k,m⟩],rfl,_,_,_,rfl,rfl,.int k m,hw,rfl⟩
  ·rename_i hu;cases h;obtain⟨b,rfl,_⟩:=DataW.trod_bool hu ht;exact⟨[⟨.bool,b⟩],rfl,_,_,_,rfl,rfl,.bool b,trivial,rfl⟩
  ·rename_i hu;cases h;obtain⟨s,rfl,_,hs⟩:=DataW.trod_string hu ht;exact⟨[⟨.str,s⟩],rfl,_,_,_,rfl,rfl,.str s,hs,rfl⟩
  ·rename_i e hu;cases hr:tyCells P n e with
   | none=>rw[hr]at h; cases h
   | some us=>
    rw[hr]at h;cases us with
    | nil=>cases h
    | cons u us=>
     cases hb:Nat.beq (P.cellsOf e) (us.length+1)with
     | false=>simp only[hb,cond_false]at h; cases h
     | true=>
      simp only[hb,cond_true,Option.some.injEq]at h;subst h;have hce:=aj.1 hb;rcases DataW.trod_slice hu ht with⟨rfl,_⟩ | ⟨a,len,cap,elems,rest,m,rfl,rfl,_,_,hlc,hcm,hel,hcell,_,_⟩
      ·exact⟨[⟨.sl (foldT u us),[]⟩],rfl,.emp,_,_,rfl,.inl ⟨rfl,rfl⟩,.emp none,⟨by simp,by simp⟩,rfl⟩
      ·have key:∀ i,i < len→∃ (c:List Value) (x:(foldT u us).den) (as:List AV),(c.length=P.cellsOf e∧∀ j,j < P.cellsOf e→w.cell? ((a.add (i*P.cellsOf e)).add j)=c[j]?) ∧
         CR (foldT u us) x as∧Wf (foldT u us) x∧as.length=c.length∧∀ j,j < c.length→FV (fun _=>False) w (at_ as j) (b9 c j):=by
        intro i hi;have h1:=hcell i hi;have h2:∃ y,elems[i]?=some y:=⟨_,List.getElem?_eq_getElem (by omega)⟩
        obtain⟨y,hy⟩:=h2;rw[hy]at h1;cases hc:w.cells? base (a.add (i*P.cellsOf e)) (P.cellsOf e)with
        | none=>rw[hc]at h1; cases h1
        | some c=>
         rw[hc]at h1;obtain⟨_,g1,g2⟩:=World.cells?_some hc;obtain⟨l,g3,g4⟩:=fV n hr (show DataW.trod enc P w base spare held m e c=some y from h1);obtain⟨x,as,k⟩:=Ea g3 g4;exact⟨c,x,as,⟨g1,g2⟩,k⟩
       by_cases h0:len=0
       ·subst h0;exact⟨[⟨.sl (foldT u us),[]⟩],rfl,.lst (foldT u us).w 0 (fun _=>[]),_,_,rfl,.inr ⟨fun _=>[],rfl,fun i hi=>by simp at hi⟩,.lst0 _ _ _ _,⟨by simp,by simp⟩,rfl⟩
       have hsp:a.spot=none:=by
        obtain⟨c,x,as,⟨g1,g2⟩,_⟩:=key 0 (by omega);have g3:=g2 0 (by omega);rw[List.getElem?_eq_getElem (by omega)]at g3
        simpa [Addr.add]using World.cell?_spot g3
       obtain⟨ab,ao,as⟩:=a;have hsp':as=none:=hsp;subst hsp'
       let F:Nat→(List Value×(foldT u us).den)×List AV:=fun i=>if hi:i < len then((Classical.choose (key i hi),Classical.choose (Classical.choose_spec (key i hi))),Classical.choose (Classical.choose_spec (Classical.choose_spec (key i hi))))else(([],Ty.zero _),[])
       have hF:∀ i,i < len→((F i).1.1.length=P.cellsOf e∧∀ j,j < P.cellsOf e→w.cell? (((⟨ab,ao,none⟩:Addr).add (i*P.cellsOf e)).add j)=(F i).1.1[j]?) ∧
         CR (foldT u us) (F i).1.2 (F i).2∧Wf (foldT u us) (F i).1.2∧(F i).2.length=(F i).1.1.length∧∀ j,j < (F i).1.1.length→FV (fun _=>False) w (at_ (F i).2 j) (b9 (F i).1.1 j):=by
        intro i hi;have:=Classical.choose_spec (Classical.choose_spec (Classical.choose_spec (key i hi)));simp only[F,dif_pos hi];exact this
       have hw:(foldT u us).w=P.cellsOf e:=by
        have g:=hF 0 (by omega);rw[← dt g.2.1,g.2.2.2.1,g.1.1]
       have hc:∀ i j,i < len→j < (foldT u us).w→w.cell? ((⟨ab,ao,none⟩:Addr).add (i*(foldT u us).w+j))=some (b9 (F i).1.1 j):=by
        intro i j hi hj;have g:=(hF i hi).1.2 j (by omega);rw[hw];rw[Go.WideShapes.add_plain,Go.WideShapes.add_plain]at g;rw[Go.WideShapes.add_plain,← Nat.add_assoc,g];have hl:=(hF i hi).1.1;rw[List.getElem?_eq_getElem (by omega)]
        simp[b9,List.getD_eq_getElem?_getD,List.getElem?_eq_getElem (show j < (F i).1.1.length by omega)]
       have hlen:((List.range len).map fun i=>(F i).1.2).length=len:=by simp
       refine⟨[⟨.sl (foldT u us),(List.range len).map fun i=>(F i).1.2⟩],rfl,.lst (foldT u us).w len (fun i=>(F i).2),_,_,rfl,.inr ⟨fun i=>(F i).2,by rw[hlen],fun i hi=>?_⟩,?_,⟨by rw[hlen]; omega,fun i hi=>?_⟩,rfl⟩
       ·rw[hlen]at hi;rw[at0,gJ _ _ hi];exact(hF i hi).2.1
       ·refine .lst _ _ _ _ _ (fun i j=>b9 (F i).1.1 j) (by omega) hlc rfl (fun h=>h) ?_ hc (fun i hi=>dt (hF i hi).2.1) (fun i j hi hj=>(hF i hi).2.2.2.2 j (by rw[(hF i hi).1.1]; omega));have:=xH (hc 0 0 (by omega) (by rw[hw,hce]; omega))
        rwa [bV]at this
       ·rw[hlen]at hi;rw[at0,gJ _ _ hi];exact(hF i hi).2.2.1
  ·rename_i fs hu;obtain⟨xs,m,rfl,_,hcl,hxl,hx⟩:=DataW.trod_struct hu ht;cases hr:eE P (tyCells P n) 0 fs.toList with
   | none=>rw[hr]at h; cases h
   | some us=>
    rw[hr]at h;cases hb:Nat.beq (P.cellsOf t) us.length with
    | false=>simp only[hb,cond_false]at h; cases h
    | true=>
     simp only[hb,cond_true,Option.some.injEq]at h;subst h;obtain⟨l,g1,g2⟩:=js (cs:=cs) (n:=m) (fun {t ts} hr {cs x} hx=>fV n hr hx) fs.toList 0 us hr (fun f hf=>by
      obtain⟨i,hi,e⟩:=List.mem_iff_getElem.1 hf;have hi':i < fs.size:=by simpa using hi
      have:=hx i f (by rw[Array.getElem?_eq_getElem hi']; simpa using e);rw[this];exact⟨_,List.getElem?_eq_getElem (by omega)⟩)
     refine⟨l,g1,?_⟩;rw[List.drop_zero,List.take_of_length_le (by rw[hcl,aj.1 hb]; exact Nat.le_refl _)]at g2;exact g2
  ·cases h
end
end Go.Proofs.YtdkaijofmigmbaaGreat.D

set_option linter.unusedVariables false
set_option linter.unusedSimpArgs false
namespace Go.Proofs.YtdkaijofmigmbaaGreat.D
open Go Go.Proofs.YtdkaijofmigmbaaGreat.L
def Jw:Pi:=fun _=>none
def Eb:Option TypeDesc→Bool
 | some (.int _) | some .bool | some .string | some (.slice _)=>true
 | _=>false
section
variable {H:Type} {enc:TypeId×Value→H} {P:Program} {w:World} {base:Nat} {spare:Nat→Bool} {held:Bool}
theorem arg_st {n:Nat}{t:TypeId}{u:Ty}{us:List Ty}{fs:Array Field}{r:Reach}{b0:Nat}{v:Value}{d:DataW H}{ps:List MemPlace}(hu:P.underlying t=some (.struct fs))(hc:tyCells P n t=some (u::us))
  (hval:Value.okWide P w r b0 t v) (h:DataW.Trod enc P w base spare held t v d ps) :
  ∃ (x:(foldT u us).den) (a:AV),Wf (foldT u us) x∧RelV Jw (.agg (ak (foldT u us) x)) a∧RV (fun _=>False) w a v:=by
 obtain⟨cs,rfl,_⟩:=Go.WideShapes.okWide_struct hu hval;obtain⟨fuel,hf⟩:=h;obtain⟨l,g1,g2⟩:=fV n hc hf;obtain⟨x,as,k1,k2,k3,k4⟩:=Ea g1 g2;refine⟨x,.agg as,k2,?_,?_⟩
 ·simp only[RelV]; exact⟨as,rfl,aR k1⟩
 ·have e:(Value.agg cs).cells.toList=cs.toList:=rfl;rw[e]at k3 k4;have h1:=RV.agg (own:=fun _=>False) (w:=w) as cs.toList k3.symm (fun j hj=>.fz _ _ (k4 j (by omega)))
  simpa using h1
theorem arg_v {n:Nat}{t:TypeId}{u:Ty}{r:Reach}{b0:Nat}{v:Value}{d:DataW H}{ps:List MemPlace}(hu:Eb (P.underlying t)=true)(hc:tyCells P n t=some [u])
  (hval:Value.okWide P w r b0 t v) (h:DataW.Trod enc P w base spare held t v d ps) :
  ∃ (x:u.den) (a:AV),Wf u x∧RelV Jw (.v ⟨u,x⟩) a∧RV (fun _=>False) w a v:=by
 obtain⟨fuel,hf⟩:=h;obtain⟨l,g1,g2⟩:=fV n hc hf;have hcell:v.cells.toList=[v]:=by
  cases hx:P.underlying t with
  | none=>rw[hx]at hu; cases hu
  | some y=>
   cases y with
   | int k=>obtain⟨m,rfl⟩:=Go.WideShapes.okWide_int hx hval; rfl
   | bool=>obtain⟨m,rfl⟩:=Go.WideShapes.okWide_bool hx hval; rfl
   | string=>obtain⟨m,rfl⟩:=Go.WideShapes.okWide_string hx hval; rfl
   | slice e=>obtain⟨a,m,c,rfl⟩:=Go.WideShapes.okWide_slice hx hval; rfl
   | _=>rw[hx]at hu; cases hu
 rw[hcell]at g2;cases l with
 | nil=>cases g1
 | cons l ls=>
  obtain⟨t',x⟩:=l;simp only[List.map_cons,List.cons.injEq,List.map_eq_nil_iff]at g1;obtain⟨h1,rfl⟩:=g1;subst h1;obtain⟨a,v',c,e,k1,k2,k3,k4⟩:=g2;cases k4;cases e;exact⟨x,a,k3,by simp only[RelV]; exact k1,.fz _ _ k2⟩
end
theorem RVs_nil (o:Nat→Prop)(w:World):nP o w [] []:=⟨rfl,fun j hj=>by simp at hj⟩
theorem RVs_cons {o:Nat→Prop}{w:World}{a:AV}{v:Value}{as:List AV}{vs:List Value}(h:RV o w a v)(hs:nP o w as vs):nP o w (a::as) (v::vs):=by
 refine⟨by simp[hs.1],fun j hj=>?_⟩;cases j with
 | zero=>exact h
 | succ j=>have:=hs.2 j (by simpa using hj); simpa [at_,b9]using this
def xI:OutSh:=⟨⟨[.v .bool],[]⟩,[.bool],[],0⟩
theorem law_calls {P:Program}{f:FuncId}{ins:StSh}{ts:List Ty}{m:Nat}{bw:Bool}{F:dens ts→Option Bool}(hd:DC P f ⟨ins,ts,m,xI,bw⟩ F){x:dens ts}(hx:F x=some true){ds:List DV}
  (hf:fillSt (fun k=>k) ins (ofDens ts x)=some (ds,[])) {as:List AV} (hr:RelVs Jw ds as) {vs:List Value} {w:World} (hv:nP (fun _=>False) w as vs) (hne:Nat.beq f YB=false:=by rfl) :
  Calls P f vs.toArray w fun e w'=>e = .returned (.bool true)∧Go.RowKit.Below w.heap.size w w':=by
 have hac:=hd.2 x true hx Jw qc as qc ⟨ds,[],hf,hr,⟨fun b o h=>(by cases h),fun b1 b2 o1 o2 b' c1 n1 c2 n2 h=>(by cases h),fun b' x h=>(by cases h),fun b o b' c n h=>(by cases h),fun b h=>rfl⟩⟩;refine(hac.2 vs w (fun b x hb=>by cases hb) (by rw[rO]; exact hv)).1 (fun e=>by rw[e]at hne; exact absurd hne (by decide)) |>.mono ?_;rintro en w' ⟨v,r,s',rfl,⟨π1,d,os,hfill,_,hrel,_,_⟩,_,hrv,hm⟩;have hfill':some ([DV.v ⟨.bool,true⟩],([]:List (Nat×DObj)))=some ([d],os):=hfill;simp only[Option.some.injEq,Prod.mk.injEq,List.cons.injEq,and_true]at hfill';obtain⟨rfl,rfl⟩:=hfill';simp only[RelV,CR]at hrel;cases hrel;refine⟨?_,⟨hm.os,hm.tape,hm.output,hm.size,fun b hb=>hm.block b hb (fun h=>h rfl)⟩⟩;cases hrv with
 | fz _ _ h=>cases h; rfl
end Go.Proofs.YtdkaijofmigmbaaGreat.D

set_option linter.unusedVariables false
set_option linter.unusedSimpArgs false
namespace Go.Proofs.YtdkaijofmigmbaaGreat.D
open Go Go.Proofs.YtdkaijofmigmbaaGreat.L
theorem sc {σ ρ:Type}{step:σ→Option (σ⊕ρ)}(s:Nat→σ)(r:ρ):∀ (n k m:Nat),(∀ i,k≤i→i < k+n→step (s i)=some (.inl (s (i+1))))→step (s (k+n))=some (.inr r)→n < m→um step m (s k)=some r
 | n,k,0,_,_,hm=>by omega
 | 0,k,m+1,_,h2,hm=>by
  have h2':step (s k)=some (.inr r):=h2;simp only[um,h2']
 | n+1,k,m+1,h1,h2,hm=>by
  simp only[um,h1 k (Nat.le_refl _) (by omega)];exact sc s r n (k+1) m (fun i h3 h4=>h1 i (by omega) (by omega)) (by rwa [Nat.add_right_comm,Nat.add_assoc]) (by omega)
theorem fD {σ ρ:Type}{step:σ→Option (σ⊕ρ)}(n:Nat)(s:Nat→σ)(r:ρ)(h1:∀ i,i < n→step (s i)=some (.inl (s (i+1))))(h2:step (s n)=some (.inr r))(hn:n < 18446744073709551616):af step (s 0)=some r:=
 sc s r n 0 _ (fun i _ h=>h1 i (by omega)) (by rwa [Nat.zero_add]) hn
def dT:Nat→(Nat→Bool)→Bool
 | 0,_=>true
 | n+1,f=>dT n f&&f n
theorem bM {f:Nat→Bool}:∀ {n:Nat},dT n f=true↔∀ k,k < n→f k=true
 | 0=>by simp[dT]
 | n+1=>by
  simp only[dT,Bool.and_eq_true,bM];constructor
  ·rintro⟨h1,h2⟩ k hk;by_cases h:k=n
   ·rw[h]; exact h2
   ·exact h1 k (by omega)
  ·intro h; exact⟨fun k hk=>h k (by omega),h n (by omega)⟩
theorem iT {f:Nat→Bool}:∀ {n:Nat},dT n f=false→∃ k,k < n∧f k=false∧∀ i,i < k→f i=true
 | 0,h=>by simp[dT]at h
 | n+1,h=>by
  cases hn:dT n f with
  | false=>obtain⟨k,h1,h2⟩:=iT hn; exact⟨k,by omega,h2⟩
  | true=>simp only[dT,hn,Bool.true_and]at h; exact⟨n,by omega,h,fun i hi=>bM.1 hn i hi⟩
theorem nw {σ ρ:Type}{step:σ→Option (σ⊕ρ)}(n:Nat)(s:Nat→σ)(ok:Nat→Bool)(bad fin:ρ)(h1:∀ k,k < n→step (s k)=some (cond (ok k) (.inl (s (k+1))) (.inr bad)))
  (h2:step (s n)=some (.inr fin)) (hn:n < 18446744073709551616):af step (s 0)=some (cond (dT n ok) fin bad):=by
 cases h:dT n ok with
 | true=>exact fD n s fin (fun i hi=>by rw[h1 i hi,bM.1 h i hi]; rfl) h2 hn
 | false=>
  obtain⟨k,hk,hf,ht⟩:=iT h;exact fD k s bad (fun i hi=>by rw[h1 i (by omega),ht i hi]; rfl) (by rw[h1 k hk,hf]; rfl) (by omega)
theorem aF {k n:Nat}(h:k < n):bv (k:Int) n=true:=by simp[bv]; omega
theorem vQ {n:Int}:au .i64 n=true ↔ -9223372036854775808≤n∧n≤9223372036854775807:=by
 rw[au,decide_eq_true_eq];have e1:(2:Int)^(64-1)=9223372036854775808:=by decide
 have e2:(2:Int)^64=18446744073709551616:=by decide
 simp only[IntKind.wrap,IntKind.bits,IntKind.signed,Bool.true_and,decide_eq_true_eq,e1,e2];constructor
 ·intro h; rw[← h]; split <;> omega
 ·rintro⟨h1,h2⟩; split <;> omega
theorem dU {n:Int}(h:-9223372036854775808≤n)(h':n≤9223372036854775807):au .i64 n=true:=vQ.2 ⟨h,h'⟩
theorem bH {k:Nat}(h:k < 9223372036854775807):au .i64 ((k:Int)+1)=true:=dU (by omega) (by omega)
theorem dH {b n:Nat}(h:b*n≤140737488355328):bI b n=true:=by simp[bI,h]
theorem dl {α:Type}{k:Option α}:aq true k=k:=rfl
theorem aw {α:Type}{b:Bool}{k:Option α}(h:b=true):aq b k=k:=by rw[h]; rfl
theorem Ec {α:Type}[Inhabited α](l:List α)(k:Nat):ix l (k:Int)=l.getD k default:=by simp[ix]
theorem b7 {k n:Nat}(h:k < n):decide ((k:Int) < (n:Int))=true:=by simp[h]
theorem dm (n:Nat):decide ((n:Int) < (n:Int))=false:=by simp
theorem an {α β:Type}(a:α)(f:α→Option β):(some a).bind f=f a:=rfl
def wi (x a b:Int):Bool:=decide (a≤x)&&decide (x≤b)
theorem gK {x a b:Int}:wi x a b=true↔a≤x∧x≤b:=by simp[wi]
theorem sd (x a b:Int):(cond (decide (a≤x)) (some (decide (x≤b))) (some false))=some (wi x a b):=by
 unfold wi; cases decide (a≤x) <;> rfl
end Go.Proofs.YtdkaijofmigmbaaGreat.D

set_option linter.unusedVariables false
set_option linter.unusedSimpArgs false
namespace Go.Proofs.YtdkaijofmigmbaaGreat.D
open Go Go.Proofs.YtdkaijofmigmbaaGreat.L
theorem pM {σ ρ:Type}{step:σ→Option (σ⊕ρ)}(μ:σ→Nat)(I:σ→Prop)(R:ρ→Prop)(h:∀ s,I s→(∃ s',step s=some (.inl s')∧I s'∧μ s' < μ s)∨∃ r,step s=some (.inr r)∧R r):
  ∀ (m:Nat) (x:σ),I x→μ x < m→∃ r,um step m x=some r∧R r
 | 0,x,_,hm=>by omega
 | m+1,x,hx,hm=>by
  rcases h x hx with⟨s',h1,h2,h3⟩ | ⟨r,h1,h2⟩
  ·obtain⟨r,g1,g2⟩:=pM μ I R h m s' h2 (by omega);exact⟨r,by simp only[um,h1]; exact g1,g2⟩
  ·exact⟨r,by simp only[um,h1],h2⟩
theorem eF {σ ρ:Type}{step:σ→Option (σ⊕ρ)}(μ:σ→Nat)(I:σ→Prop)(R:ρ→Prop){x:σ}(h0:I x)(hn:μ x < 18446744073709551616)(h:∀ s,I s→(∃ s',step s=some (.inl s')∧I s'∧μ s' < μ s)∨∃ r,step s=some (.inr r)∧R r):
  ∃ r,af step x=some r∧R r:=pM μ I R h _ x h0 hn
def Cut (Q:Nat→Prop)(a b i:Nat):Prop:=(∀ p,a≤p→p < i→Q p)∧∀ p,i≤p→p < b→¬ Q p
theorem fW {σ ρ:Type}{step:σ→Option (σ⊕ρ)}(n:Nat)(s:Nat→σ)(p:Nat→Bool)(O1:Nat→ρ)(O2:ρ)
  (h1:∀ k,k < n→(∀ j,j < k→p j=false)→step (s k)=some (cond (p k) (.inr (O1 k)) (.inl (s (k+1))))) (h2:(∀ j,j < n→p j=false)→step (s n)=some (.inr O2)) (hn:n < 18446744073709551616) :
  (∃ k,k < n∧p k=true∧(∀ j,j < k→p j=false)∧af step (s 0)=some (O1 k))∨((∀ j,j < n→p j=false)∧af step (s 0)=some O2):=by
 cases h:dT n (fun i=>!p i)with
 | true=>
  have hp:∀ j,j < n→p j=false:=fun j hj=>by simpa using bM.1 h j hj
  exact .inr ⟨hp,fD n s _ (fun i hi=>by rw[h1 i hi fun j hj=>hp j (by omega),hp i hi]; rfl) (h2 hp) hn⟩
 | false=>
  obtain⟨k,hk,hf,ht⟩:=iT h;have hp:∀ j,j < k→p j=false:=fun j hj=>by simpa using ht j hj
  have hf':p k=true:=by simpa using hf
  exact .inl ⟨k,hk,hf',hp,fD k s _ (fun i hi=>by rw[h1 i (by omega) fun j hj=>hp j (by omega),hp i hi]; rfl) (by rw[h1 k hk hp,hf']; rfl) (by omega)⟩
section
variable {α:Type} [Inhabited α]
def gt (l:List α)(i:Nat):α:=l.getD i default
theorem dn (l:List α)(k:Nat):ix l (k:Int)=gt l k:=Ec l k
theorem eT {l:List α}{i:Nat}(h:i < l.length):gt l i=l[i]:=by simp[gt,List.getD_eq_getElem?_getD,h]
theorem mm {l:List α}{i:Nat}(h:i < l.length):gt l i∈l:=by rw[eT h]; exact List.getElem_mem h
theorem kg {l:List α}{x:α}(h:x∈l):∃ i,i < l.length∧gt l i=x:=by
 obtain⟨i,hi,rfl⟩:=List.getElem_of_mem h;exact⟨i,hi,eT hi⟩
theorem qT {l l':List α}(hl:l.length=l'.length)(h:∀ i,i < l.length→gt l i=gt l' i):l=l':=by
 refine List.ext_getElem hl fun i h1 h2=>?_;have:=h i h1
 rwa [eT h1,eT h2]at this
theorem kh (l:List α)(i j:Nat)(x:α)(h:i < l.length):gt (l.set i x) j=if i=j then x else gt l j:=by
 simp only[gt,List.getD_eq_getElem?_getD,List.getElem?_set];split
 ·rename_i e; subst e; simp[h]
 ·rfl
theorem xJ (l:List α)(n i:Nat)(h:i < n):gt (l.take n) i=gt l i:=by simp[gt,List.getD_eq_getElem?_getD,List.getElem?_take,h]
def sw (l:List α)(i j:Nat):List α:=(l.set i (gt l j)).set j (gt l i)
theorem Ed (l:List α)(i j:Nat):(sw l i j).length=l.length:=by simp[sw]
theorem zJ {l:List α}{i j:Nat}(k:Nat)(hi:i < l.length)(hj:j < l.length):gt (sw l i j) k=if k=j then gt l i else if k=i then gt l j else gt l k:=by
 unfold sw;rw[kh _ _ _ _ (by simpa using hj),kh _ _ _ _ hi];by_cases h1:k=j
 ·rw[if_pos h1,if_pos h1.symm]
 ·rw[if_neg h1,if_neg (Ne.symm h1)];by_cases h2:k=i
  ·rw[if_pos h2,if_pos h2.symm]
  ·rw[if_neg h2,if_neg (Ne.symm h2)]
theorem se {l:List α}{i j:Nat}(hi:i < l.length)(hj:j < l.length):(sw l i j).Perm l:=by
 unfold sw;rw[eT hi,eT hj];exact List.set_set_perm hi hj
structure Rg (l l':List α) (a b:Nat):Prop where
 perm:l'.Perm l
 lo:∀ k,k < a→gt l' k=gt l k
 hi:∀ k,b≤k→gt l' k=gt l k
theorem Rg.refl (l:List α)(a b:Nat):Rg l l a b:=⟨.refl _,fun _ _=>rfl,fun _ _=>rfl⟩
theorem Rg.len {l l':List α}{a b:Nat}(h:Rg l l' a b):l'.length=l.length:=h.perm.length_eq
theorem Rg.trans {l l1 l2:List α}{a b:Nat}(h:Rg l l1 a b)(k:Rg l1 l2 a b):Rg l l2 a b:=⟨k.perm.trans h.perm,fun i hi=>(k.lo i hi).trans (h.lo i hi),fun i hi=>(k.hi i hi).trans (h.hi i hi)⟩
theorem Rg.wide {l l':List α}{a b a' b':Nat}(h:Rg l l' a b)(h1:a'≤a)(h2:b≤b'):Rg l l' a' b':=⟨h.perm,fun i hi=>h.lo i (by omega),fun i hi=>h.hi i (by omega)⟩
theorem Rg.sw {l:List α}{i j a b:Nat}(hi:i < l.length)(hj:j < l.length)(h1:a≤i)(h2:i < b)(h3:a≤j)(h4:j < b):Rg l (D.sw l i j) a b:=
 ⟨se hi hj,fun k hk=>by rw[zJ k hi hj,if_neg (by omega),if_neg (by omega)],fun k hk=>by rw[zJ k hi hj,if_neg (by omega),if_neg (by omega)]⟩
def Sd (K:α→Int)(l:List α)(a b:Nat):Prop:=∀ i j,a≤i→i < j→j < b→K (gt l i)≤K (gt l j)
theorem Sd.out {K:α→Int}{l l':List α}{a b c d:Nat}(h:Sd K l c d)(hr:Rg l l' a b)(ho:d≤a∨b≤c):Sd K l' c d:=fun i j h1 h2 h3=>by
 have e:∀ k,c≤k→k < d→gt l' k=gt l k:=fun k q1 q2=>by
  rcases ho with ho | ho
  ·exact hr.lo k (by omega)
  ·exact hr.hi k (by omega)
 rw[e i h1 (by omega),e j (by omega) h3]; exact h i j h1 h2 h3
theorem Sd.sub {K:α→Int}{l:List α}{a b a' b':Nat}(h:Sd K l a b)(h1:a≤a')(h2:b'≤b):Sd K l a' b':=fun i j q1 q2 q3=>h i j (by omega) q2 (by omega)
theorem Sd.one {K:α→Int}{l:List α}{a b:Nat}(h:b≤a+1):Sd K l a b:=fun i j q1 q2 q3=>by omega
theorem Sd.le {K:α→Int}{l:List α}{a b i j:Nat}(h:Sd K l a b)(h1:a≤i)(h2:i≤j)(h3:j < b):K (gt l i)≤K (gt l j):=by
 rcases Nat.lt_or_ge i j with hlt | hge
 ·exact h i j h1 hlt h3
 ·obtain rfl:i=j:=by omega
  exact Int.le_refl _
end
theorem FY {n:Int}(h:0≤n)(h':n < 9223372036854775808):au .u64 n=true:=by
 rw[au,decide_eq_true_eq];have e2:(2:Int)^64=18446744073709551616:=by decide
 simp only[IntKind.wrap,IntKind.bits,IntKind.signed,Bool.false_and,e2,Bool.false_eq_true,if_false];omega
end Go.Proofs.YtdkaijofmigmbaaGreat.D

set_option linter.unusedVariables false
set_option linter.unusedSimpArgs false
set_option linter.unusedSectionVars false
namespace Go.Proofs.YtdkaijofmigmbaaGreat.D
open Go Go.Proofs.YtdkaijofmigmbaaGreat.L
section
variable {β T:Type} [Inhabited β] [Inhabited T] {v:β→T}
end
theorem p1 {k:Nat}(h:1≤k):(k:Int)-1=((k-1:Nat):Int):=by omega
theorem a1 (k:Nat):(k:Int)+1=((k+1:Nat):Int):=by omega
theorem m2 (k:Nat):2*(k:Int)=((2*k:Nat):Int):=by omega
end Go.Proofs.YtdkaijofmigmbaaGreat.D

set_option linter.unusedVariables false
set_option linter.unusedSimpArgs false
set_option linter.unusedSectionVars false
namespace Go.Proofs.YtdkaijofmigmbaaGreat.D
open Go Go.Proofs.YtdkaijofmigmbaaGreat.L
section
variable {α:Type} [Inhabited α]
theorem qU {β:Type}(l:List β)(b:Bool)(h:b=decide (l.length=0)):vn b (some ([]:List β)) (some l)=some l:=by
 subst h;cases hl:decide (l.length=0)
 ·rfl
 ·have:l=[]:=by simpa using hl
  subst this; simp[vn]
end
end Go.Proofs.YtdkaijofmigmbaaGreat.D
