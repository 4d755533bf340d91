/- Cut down from longer texts. -/
import Derived.Test.YtjoncejabdjekaaG4t
import Derived.Test.YtjoncejabdjekaaB3t
import Derived.Sort.LotD4
set_option linter.unusedVariables false
set_option linter.unusedSimpArgs false
set_option linter.unusedSectionVars false
set_option maxRecDepth 100000
namespace Go.Proofs.Ytjoncejabdjekaa.D
open Go Go.Proofs Go.Proofs.Ytjoncejabdjekaa.L
abbrev oL:=Int×Int×Int
abbrev oc:=Int×Int×Int×Int×Int×Int
abbrev bQ:=List oL×List oc
def sI (c:bQ)(k:Nat):oL:=c.1.getD k default
def bV (c:bQ)(k:Nat):oc:=c.2.getD k default
def s6 (s:oL):Bool:=wi s.1 0 99&&(wi s.2.1 0 9&&wi s.2.2 0 6)
def wJ (p:oc):Bool:=wi p.1 0 99&&(wi p.2.1 0 8&&((decide (p.2.2.1≤p.2.2.2.1)&&(wi p.2.2.1 0 9&&wi p.2.2.2.1 0 9))&&(decide (p.2.2.2.2.1≤p.2.2.2.2.2)&&(wi p.2.2.2.2.1 0 99&&wi p.2.2.2.2.2 0 99))))
def noTwin (l:List oc)(n:Nat)(p:oc):Bool:=bZ n fun i=>!decide ((l.getD i default).1=p.1)
def aP (c:bQ):Bool:=decide (c.1.length≤8)&&(decide (c.2.length≤6)&&((bZ c.1.length fun k=>s6 (sI c k))&&(bZ c.2.length fun k=>wJ (bV c k)&&noTwin c.2 k (bV c k))))
theorem od (x a b:Int):P32 (x,a,b)=some (wi x a b):=ve x a b
theorem oe (x a b:Int):P36 (x,a,b)=some (wi x a b):=ve x a b
theorem JR (a b:oc):BT (a,b)=some (decide (a.1=b.1)):=rfl
theorem JS (l:List oc)(p:oc)(hl:l.length < 9223372036854775807):P33 (l,p)=some (!noTwin l l.length p):=by
 have h1:∀ k,k < l.length→rZ l p (l.length:Int) (k:Int)=some (cond (!decide ((l.getD k default).1=p.1)) (.inl (l,p,(l.length:Int),((k+1:Nat):Int))) (.inr (.inl (k:Int)))):=by
  intro k hk;simp only[u4,rZ,vq,au hk,cond_true,aj hk,bg,JR,aa,bp,aq (show k < 9223372036854775807 by omega),aC];cases decide ((l.getD k default).1=p.1) <;> rfl
 have h2:rZ l p (l.length:Int) (l.length:Int)=some (.inr (.inr ())):=by
  simp only[u4,rZ,vq,az,cond_false]
 cases hn:noTwin l l.length p with
 | true=>
  have:vr (l,p,(l.length:Int),0)=some (.inr ()):=aJ l.length (fun k=>(l,p,(l.length:Int),(k:Int))) _ (fun k hk=>by
   have:=bU.1 hn k hk;exact(h1 k hk).trans (by rw[this]; rfl)) h2 (by omega)
  simp only[u2,P33,Q1,PI,E3,QX,PH,this,aa,dQ]; rfl
 | false=>
  obtain⟨k,hk,hf,ht⟩:=gP hn;have:vr (l,p,(l.length:Int),0)=some (.inl (k:Int)):=aJ k (fun k=>(l,p,(l.length:Int),(k:Int))) _ (fun i hi=>by
   have:=ht i hi;exact(h1 i (by omega)).trans (by rw[this]; rfl)) ((h1 k hk).trans (by rw[hf]; rfl)) (by omega)
  simp only[u2,P33,Q1,PI,E3,QX,PH,this,aa,rX]
  simp
theorem sJ (l:List oc)(k:Nat)(p:oc)(hk:k≤l.length):noTwin (tF l 0 (k:Int)) (tF l 0 (k:Int)).length p=noTwin l k p:=by
 have e:tF l 0 (k:Int)=l.take k:=by simp[tF]
 rw[e,List.length_take,Nat.min_eq_left hk];exact nW fun i hi=>by simp[List.getD_eq_getElem?_getD,List.getElem?_take,hi]
theorem Bf (a b x y:Int):P35 ((a,b),x,y)=some (decide (a≤b)&&(wi a x y&&wi b x y)):=by
 simp only[u3,P35,S9,Q5,od,aa];cases decide (a≤b) <;> cases wi a x y <;> rfl
theorem gS (c:bQ):P11 c=some (cond (aP c) 0 70):=by
 by_cases hs:c.1.length≤8
 rotate_left
 ·have:aP c=false:=by simp[aP,hs]
  rw[this];have h:decide ((8:Int) < (c.1.length:Int))=true:=by simp; omega
  simp only[P11,PJ,Lz,h,cond_true]; rfl
 by_cases hp:c.2.length≤6
 rotate_left
 ·have:aP c=false:=by simp[aP,hp]
  rw[this];have h:decide ((6:Int) < (c.2.length:Int))=true:=by simp; omega
  have h':decide ((8:Int) < (c.1.length:Int))=false:=by simp; omega
  simp only[P11,PJ,Lz,h,h',cond_true,cond_false]
 have e0:Aa (c.1,(c.1.length:Int),0,c)=some (cond (bZ c.1.length fun k=>s6 (sI c k)) (.inr c) (.inl (70,c))):=by
  refine ca c.1.length (fun k=>(c.1,(c.1.length:Int),(k:Int),c)) (fun k=>s6 (sI c k)) _ _ (fun k hk=>?_) ?_ (by omega)
  ·simp only[u4,z9,vt,au hk,cond_true,aj hk,bg,od,aa,bp,aq (show k < 9223372036854775807 by omega),aC];show _=some (cond (s6 (c.1.getD k default)) _ _);unfold s6;generalize wi (c.1.getD k default).1 0 99=x1; generalize wi (c.1.getD k default).2.1 0 9=x2; generalize wi (c.1.getD k default).2.2 0 6=x3;cases x1 <;> cases x2 <;> cases x3 <;> rfl
  ·simp only[u4,z9,vt,az,cond_false]
 have e1:Ac (c.2,(c.2.length:Int),0,c)=some (cond (bZ c.2.length fun k=>wJ (bV c k)&&noTwin c.2 k (bV c k)) (.inr c) (.inl (70,c))):=by
  refine ca c.2.length (fun k=>(c.2,(c.2.length:Int),(k:Int),c)) (fun k=>wJ (bV c k)&&noTwin c.2 k (bV c k)) _ _ (fun k hk=>?_) ?_ (by omega)
  ·have t1:decide ((0:Int)≤(0:Int))=true:=rfl;have t2:decide ((0:Int)≤(k:Int))=true:=by simp
   have t3:decide ((k:Int)≤(c.2.length:Int))=true:=by simp; omega
   have t4:(tF c.2 0 (k:Int)).length < 9223372036854775807:=by simp[tF]; omega
   simp only[u4,Ab,vu,au hk,cond_true,aj hk,bg,t1,t2,t3,JS _ _ t4,sJ _ _ _ (Nat.le_of_lt hk),od,Bf,aa,bp,aq (show k < 9223372036854775807 by omega),aC];have t5:∀ q:Int×Int,P35 (q,0,99)=some (decide (q.1≤q.2)&&(wi q.1 0 99&&wi q.2 0 99)):=fun q=>Bf q.1 q.2 0 99;simp only[t5,aa];show _=some (cond (wJ (c.2.getD k default)&&noTwin c.2 k (c.2.getD k default)) _ _);unfold wJ;generalize wi (c.2.getD k default).1 0 99=x1; generalize wi (c.2.getD k default).2.1 0 8=x2;generalize (decide ((c.2.getD k default).2.2.1≤(c.2.getD k default).2.2.2.1)&&(wi (c.2.getD k default).2.2.1 0 9&&wi (c.2.getD k default).2.2.2.1 0 9))=x3;generalize (decide ((c.2.getD k default).2.2.2.2.1≤(c.2.getD k default).2.2.2.2.2)&&(wi (c.2.getD k default).2.2.2.2.1 0 99&&wi (c.2.getD k default).2.2.2.2.2 0 99))=x4;generalize noTwin c.2 k (c.2.getD k default)=x5;cases x1 <;> cases x2 <;> cases x3 <;> cases x4 <;> cases x5 <;> rfl
  ·simp only[u4,Ab,vu,az,cond_false]
 have h:decide ((6:Int) < (c.2.length:Int))=false:=by simp; omega
 have h':decide ((8:Int) < (c.1.length:Int))=false:=by simp; omega
 simp only[P11,PJ,Lz,h,h',cond_false,e0,aa];have d1:decide (c.1.length≤8)=true:=by simp[hs]
 have d2:decide (c.2.length≤6)=true:=by simp[hp]
 simp only[aP,d1,d2,Bool.true_and];cases(bZ c.1.length fun k=>s6 (sI c k))with
 | false=>rfl
 | true=>
  simp only[cond_true,dQ,e1,aa,Bool.true_and];cases(bZ c.2.length fun k=>wJ (bV c k)&&noTwin c.2 k (bV c k)) <;> rfl
theorem jX (c:bQ):P12 c=some (cond (aP c) 0 70):=by
 by_cases hs:c.1.length≤8
 rotate_left
 ·have:aP c=false:=by simp[aP,hs]
  rw[this];have h:decide ((8:Int) < (c.1.length:Int))=true:=by simp; omega
  simp only[P12,PC,Lr,h,cond_true]; rfl
 by_cases hp:c.2.length≤6
 rotate_left
 ·have:aP c=false:=by simp[aP,hp]
  rw[this];have h:decide ((6:Int) < (c.2.length:Int))=true:=by simp; omega
  have h':decide ((8:Int) < (c.1.length:Int))=false:=by simp; omega
  simp only[P12,PC,Lr,h,h',cond_true,cond_false]
 have e0:zU (0,c)=some (cond (bZ c.1.length fun k=>s6 (sI c k)) (.inr c) (.inl (70,c))):=by
  refine ca c.1.length (fun k=>((k:Int),c)) (fun k=>s6 (sI c k)) _ _ (fun k hk=>?_) ?_ (by omega)
  ·simp only[u2,zT,vk,au hk,cond_true,aj hk,bg,oe,aa,bp,aq (show k < 9223372036854775807 by omega),aC];show _=some (cond (s6 (c.1.getD k default)) _ _);unfold s6;generalize wi (c.1.getD k default).1 0 99=x1; generalize wi (c.1.getD k default).2.1 0 9=x2; generalize wi (c.1.getD k default).2.2 0 6=x3;cases x1 <;> cases x2 <;> cases x3 <;> rfl
  ·simp only[u2,zT,vk,az,cond_false]
 have e1:zY (0,c)=some (cond (bZ c.2.length fun k=>wJ (bV c k)&&noTwin c.2 k (bV c k)) (.inr c) (.inl (70,c))):=by
  refine ca c.2.length (fun k=>((k:Int),c)) (fun k=>wJ (bV c k)&&noTwin c.2 k (bV c k)) _ _ (fun k hk=>?_) ?_ (by omega)
  ·have e2:∀ b1 b2 b3:Bool,zW ((k:Int),0,b1,b2,b3,c,bV c k)=some (cond (noTwin c.2 k (bV c k)) (.inr ((k:Int),b1,b2,b3,c,bV c k)) (.inl (70,c,bV c k))):=by
    intro b1 b2 b3;refine ca k (fun i=>((k:Int),(i:Int),b1,b2,b3,c,bV c k)) (fun i=>!decide ((bV c i).1=(bV c k).1)) _ _ (fun i hi=>?_) ?_ (by omega)
    ·simp only[u7,zV,vl,au hi,cond_true,aj (Nat.lt_trans hi hk),bg,bp,aq (show i < 9223372036854775807 by omega),aC];show cond (decide ((bV c i).1=(bV c k).1)) _ _=_;cases decide ((bV c i).1=(bV c k).1) <;> rfl
    ·simp only[u7,zV,vl,az,cond_false]
   simp only[u2,zX,vn,au hk,cond_true,aj hk,bg,oe,aa,bp,aq (show k < 9223372036854775807 by omega),aC];show _=some (cond (wJ (bV c k)&&noTwin c.2 k (bV c k)) _ _);have hh:(c.2.getD k default)=bV c k:=rfl;simp only[hh,e2,aa];have hB:wJ (bV c k)=(wi (bV c k).1 0 99&&(wi (bV c k).2.1 0 8&&(wi (bV c k).2.2.1 0 (bV c k).2.2.2.1&&(!decide ((9:Int) < (bV c k).2.2.2.1)&&(wi (bV c k).2.2.2.2.1 0 (bV c k).2.2.2.2.2&&!decide ((99:Int) < (bV c k).2.2.2.2.2)))))):=by
    rw[Bool.eq_iff_iff];simp only[wJ,Bool.and_eq_true,fA,decide_eq_true_eq,Bool.not_eq_true',decide_eq_false_iff_not];omega
   rw[hB];generalize wi (bV c k).1 0 99=x1; generalize wi (bV c k).2.1 0 8=x2; generalize wi (bV c k).2.2.1 0 (bV c k).2.2.2.1=x3;generalize decide ((9:Int) < (bV c k).2.2.2.1)=x4; generalize wi (bV c k).2.2.2.2.1 0 (bV c k).2.2.2.2.2=x5; generalize decide ((99:Int) < (bV c k).2.2.2.2.2)=x6;generalize noTwin c.2 k (bV c k)=x7;have hfk:=aq (show k < 9223372036854775807 by omega);cases x1 <;> cases x2 <;> cases x3 <;> cases x4 <;> cases x5 <;> cases x6 <;> cases x7 <;> first | rfl | simp only[cond_true,cond_false,Bool.not_true,Bool.not_false,Bool.and_self,dQ,hfk,bg]
  ·simp only[u2,zX,vn,az,cond_false]
 have h:decide ((6:Int) < (c.2.length:Int))=false:=by simp; omega
 have h':decide ((8:Int) < (c.1.length:Int))=false:=by simp; omega
 simp only[P12,PC,Lr,h,h',cond_false,e0,aa];have d1:decide (c.1.length≤8)=true:=by simp[hs]
 have d2:decide (c.2.length≤6)=true:=by simp[hp]
 simp only[aP,d1,d2,Bool.true_and];cases(bZ c.1.length fun k=>s6 (sI c k))with
 | false=>rfl
 | true=>
  simp only[cond_true,dQ,e1,aa,Bool.true_and];cases(bZ c.2.length fun k=>wJ (bV c k)&&noTwin c.2 k (bV c k)) <;> rfl
theorem qX {α:Type}(l:List α)(d:α){k:Nat}(h:k < l.length):l.getD k d=l[k]:=by simp[List.getD_eq_getElem?_getD,h]
theorem iL {α:Type}(l:List α)(d:α){k:Nat}(h:k < l.length):l.take (k+1)=l.take k++[l.getD k d]:=by
 rw[qX l d h,List.take_succ_eq_append_getElem h]
def bB (c:bQ):List Int:=c.2.map fun p=>p.2.1
theorem oj (c:bQ)(h:c.2.length < 1000000):P37 c=some (c.1,c.2,[],bB c):=by
 have e:Ae (c.2,(c.2.length:Int),0,c.1,c.2,[],[])=some (c.1,c.2,[],bB c):=by
  refine aJ c.2.length (fun k=>(c.2,(c.2.length:Int),(k:Int),c.1,c.2,[],(c.2.take k).map fun p=>p.2.1)) _ (fun k hk=>?_) ?_ (by omega)
  ·have hc:cf 8 (List.length ((c.2.take k).map fun p:oc=>p.2.1)+List.length [(c.2.getD k default).2.1])=true:=cK (by simp; omega);simp only[u7,Ad,vw,au hk,cond_true,aj hk,bg,bp,hc,aq (show k < 9223372036854775807 by omega),aC];rw[iL c.2 default hk,List.map_append]; rfl
  ·simp only[u7,Ad,vw,az,cond_false];rw[List.take_of_length_le (Nat.le_refl _)]; rfl
 simp only[P37,Ta,Q8,e,aa]
def fF (p:oc)(s:oL):Bool:=wi s.2.1 p.2.2.1 p.2.2.2.1&&wi s.1 p.2.2.2.2.1 p.2.2.2.2.2
theorem uh (p:oc)(s:oL):P55 (p,s)=some (fF p s):=by
 simp only[u2,P55,Ts,RW,oe,aa,fF];cases wi s.2.1 p.2.2.1 p.2.2.2.1 <;> rfl
theorem Bx (i j:Int)(c:bQ)(d:List (List Int×Int))(w:List Int)(hi:aU i c.2.length=true)(hj:aU j c.1.length=true):
  cN (i,j,c.1,c.2,d,w)=some (fF (ix c.2 i) (ix c.1 j)&&decide (fl (be d [i,j]) 0=0),c.1,c.2,d,w):=by
 simp only[u6,cN,Td,Rh,hi,hj,bg,od,aa,fF];cases wi (ix c.1 j).2.1 (ix c.2 i).2.2.1 (ix c.2 i).2.2.2.1 <;> cases wi (ix c.1 j).1 (ix c.2 i).2.2.2.2.1 (ix c.2 i).2.2.2.2.2 <;> rfl
theorem wR (i j:Int)(c:bQ)(w:List Int)(hi:aU i c.2.length=true)(hj:aU j c.1.length=true):cN (i,j,c.1,c.2,[],w)=some (fF (ix c.2 i) (ix c.1 j),c.1,c.2,[],w):=by
 rw[Bx i j c [] w hi hj];have:decide (fl (be ([]:List (List Int×Int)) [i,j]) 0=0)=true:=by simp[be,fl]
 rw[this,Bool.and_true]
def EB (c:bQ)(i:Nat)(l:List Int)(k:Nat):Bool:=wi (ix l k) 0 ((c.2.length:Int)-1)&&(!(decide ((0:Int) < (k:Int))&&decide (ix l k≤ix l ((k:Int)-1)))&&fF (ix c.2 (ix l k)) (ix c.1 i))
def dX (c:bQ)(i:Nat)(l:List Int):Bool:=bZ l.length (EB c i l)
def row (plan:List (List Int))(i:Nat):List Int:=plan.getD i default
def bK (c:bQ)(plan:List (List Int)):Bool:=decide (plan.length=c.1.length)&&bZ plan.length fun i=>!decide ((ix c.1 i).2.2 < ((row plan i).length:Int))&&dX c i (row plan i)
theorem By (c:bQ)(plan:List (List Int))(i:Nat)(l:List Int)(a3 a4:Int)(w:List Int)(hi:i < c.1.length)(hl:l.length < 1000000)(hc:c.2.length < 1000000):
  Ar ((i:Int),l,plan,a3,a4,l,(l.length:Int),0,c.1,c.2,[],w)=some (cond (dX c i l) (.inr (plan,a3,a4,c.1,c.2,[],w)) (.inl (false,c.1,c.2,[],w))):=by
 refine ca l.length (fun k=>((i:Int),l,plan,a3,a4,l,(l.length:Int),(k:Int),c.1,c.2,[],w)) (EB c i l) _ _ (fun k hk=>?_) ?_ (by omega)
 ·have f1:aw .i64 ((c.2.length:Int)-1)=true:=bz (by omega) (by omega);have f2:aw .i64 ((k:Int)-1)=true:=bz (by omega) (by omega);have f3:=aq (show k < 9223372036854775807 by omega);simp only[BX,Aq,vI,au hk,cond_true,aj hk,bg,od,aa,f1,f2,f3,aC];cases hw:wi (ix l k) 0 ((c.2.length:Int)-1)with
  | false=>simp only[EB,hw,Bool.not_false,cond_true,Bool.false_and,cond_false]
  | true=>
   have hw':=fA.1 hw;have hin:aU (ix l k) c.2.length=true:=jU (by omega) (by omega);simp only[Bool.not_true,cond_false,wR _ _ _ _ hin (aj hi),aa];simp only[EB,hw,Bool.true_and];cases h0:decide ((0:Int) < (k:Int))with
   | false=>
    simp only[cond_false,Bool.false_and,Bool.not_false,Bool.true_and];cases fF (ix c.2 (ix l k)) (ix c.1 i) <;> rfl
   | true=>
    have hk1:aU ((k:Int)-1) l.length=true:=jU (by simp at h0; omega) (by omega);simp only[cond_true,hk1,bg,Bool.true_and];cases decide (ix l k≤ix l ((k:Int)-1)) <;> cases fF (ix c.2 (ix l k)) (ix c.1 i) <;> rfl
 ·simp only[BX,Aq,vI,az,cond_false]
theorem J2 (c:bQ)(plan:List (List Int))(w:List Int)(hp:plan.length < 1000000)(hr:∀ i,i < plan.length→(row plan i).length < 1000000)(hc:c.2.length < 1000000):
  qZ (plan,c.1,c.2,[],w)=some (bK c plan,c.1,c.2,[],w):=by
 have hcast:decide ((plan.length:Int)=(c.1.length:Int))=decide (plan.length=c.1.length):=by rw[decide_eq_decide]; omega
 cases hl:decide (plan.length=c.1.length)with
 | false=>simp only[u5,qZ,RJ,PS,hcast,hl,Bool.not_false,cond_true,bK,Bool.false_and]
 | true=>
  have hl':plan.length=c.1.length:=of_decide_eq_true hl;have e:At (plan,(plan.length:Int),0,c.1,c.2,[],w)=some (cond (bZ plan.length fun i=>!decide ((ix c.1 i).2.2 < ((row plan i).length:Int))&&dX c i (row plan i)) (.inr (c.1,c.2,[],w)) (.inl (false,c.1,c.2,[],w))):=by
   refine ca plan.length (fun k=>(plan,(plan.length:Int),(k:Int),c.1,c.2,[],w)) (fun i=>!decide ((ix c.1 i).2.2 < ((row plan i).length:Int))&&dX c i (row plan i)) _ _ (fun k hk=>?_) ?_ (by omega)
   ·have hrow:ix plan (k:Int)=row plan k:=bp _ _;have f3:=aq (show k < 9223372036854775807 by omega);simp only[u7,As,vJ,au hk,cond_true,aj hk,aj (hl'▸hk),bg,hrow,aC];cases hroom:decide ((ix c.1 k).2.2 < ((row plan k).length:Int))with
    | true=>simp only[cond_true,Bool.not_true,Bool.false_and,cond_false]
    | false=>
     simp only[cond_false,Bool.not_false,Bool.true_and,By c plan k (row plan k) _ _ w (hl'▸hk) (hr k hk) hc,aa];cases dX c k (row plan k)with
     | false=>rfl
     | true=>simp only[cond_true,dQ,f3,bg]
   ·simp only[u7,As,vJ,az,cond_false]
  simp only[u5,qZ,RJ,PS,hcast,hl,Bool.not_true,cond_false,e,aa,bK,Bool.true_and];cases(bZ plan.length fun i=>!decide ((ix c.1 i).2.2 < ((row plan i).length:Int))&&dX c i (row plan i)) <;> rfl
theorem sR (c:bQ)(plan:List (List Int))(i:Nat)(l:List Int)(hi:i < c.1.length)(hl:l.length < 1000000)(hc:c.2.length < 1000000):
  AN (plan,(i:Int),l,0,c)=some (cond (dX c i l) (.inr (plan,(i:Int),c)) (.inl (false,c))):=by
 refine ca l.length (fun k=>(plan,(i:Int),l,(k:Int),c)) (EB c i l) _ _ (fun k hk=>?_) ?_ (by omega)
 ·have f1:aw .i64 ((c.2.length:Int)-1)=true:=bz (by omega) (by omega);have f2:aw .i64 ((k:Int)-1)=true:=bz (by omega) (by omega);have f3:=aq (show k < 9223372036854775807 by omega);simp only[u5,AM,wp,au hk,cond_true,aj hk,aj hi,bg,oe,uh,aa,f1,f2,f3,aC];cases hw:wi (ix l k) 0 ((c.2.length:Int)-1)with
  | false=>simp only[EB,hw,Bool.not_false,cond_true,Bool.false_and,cond_false]
  | true=>
   have hw':=fA.1 hw;have hin:aU (ix l k) c.2.length=true:=jU (by omega) (by omega);simp only[Bool.not_true,cond_false,hin,bg];simp only[EB,hw,Bool.true_and];cases h0:decide ((0:Int) < (k:Int))with
   | false=>
    simp only[cond_false,Bool.false_and,Bool.not_false,Bool.true_and];cases fF (ix c.2 (ix l k)) (ix c.1 i) <;> rfl
   | true=>
    have hk1:aU ((k:Int)-1) l.length=true:=jU (by simp at h0; omega) (by omega);simp only[cond_true,hk1,bg,Bool.true_and];cases decide (ix l k≤ix l ((k:Int)-1)) <;> cases fF (ix c.2 (ix l k)) (ix c.1 i) <;> rfl
 ·simp only[u5,AM,wp,az,cond_false]
theorem Bz (c:bQ)(plan:List (List Int))(hp:plan.length < 1000000)(hr:∀ i,i < plan.length→(row plan i).length < 1000000)(hc:c.2.length < 1000000):nY (c,plan)=some (bK c plan):=by
 have hcast:decide ((plan.length:Int)=(c.1.length:Int))=decide (plan.length=c.1.length):=by rw[decide_eq_decide]; omega
 cases hl:decide (plan.length=c.1.length)with
 | false=>simp only[u2,nY,Nz,KJ,hcast,hl,Bool.not_false,cond_true,bK,Bool.false_and]
 | true=>
  have hl':plan.length=c.1.length:=of_decide_eq_true hl;have e:wq (plan,0,c)=some (cond (bZ plan.length fun i=>!decide ((ix c.1 i).2.2 < ((row plan i).length:Int))&&dX c i (row plan i)) (.inr c) (.inl (false,c))):=by
   refine ca plan.length (fun k=>(plan,(k:Int),c)) (fun i=>!decide ((ix c.1 i).2.2 < ((row plan i).length:Int))&&dX c i (row plan i)) _ _ (fun k hk=>?_) ?_ (by omega)
   ·have hrow:ix plan (k:Int)=row plan k:=bp _ _;have f3:=aq (show k < 9223372036854775807 by omega);simp only[u3,sr,pP,au hk,cond_true,aj hk,aj (hl'▸hk),bg,hrow,aC];cases hroom:decide ((ix c.1 k).2.2 < ((row plan k).length:Int))with
    | true=>simp only[cond_true,Bool.not_true,Bool.false_and,cond_false]
    | false=>
     simp only[cond_false,Bool.not_false,Bool.true_and,sR c plan k (row plan k) (hl'▸hk) (hr k hk) hc,aa];cases dX c k (row plan k)with
     | false=>rfl
     | true=>simp only[cond_true,dQ,f3,bg]
   ·simp only[u3,sr,pP,az,cond_false]
  simp only[u2,nY,Nz,KJ,hcast,hl,Bool.not_true,cond_false,e,aa,bK,Bool.true_and];cases(bZ plan.length fun i=>!decide ((ix c.1 i).2.2 < ((row plan i).length:Int))&&dX c i (row plan i)) <;> rfl
def Bd (cnt:List Int)(m B:Nat):Prop:=cnt.length=m∧∀ j,j < m→0≤cnt.getD j default∧cnt.getD j default≤(B:Int)
def bump (n:Int)(cnt:List Int):List Int:=List.set cnt n.toNat (ix cnt n+1)
theorem Bd.bump {cnt:List Int}{m B:Nat}(h:Bd cnt m B){n:Int}(hn:0≤n)(hm:n < m):Bd (bump n cnt) m (B+1):=by
 refine⟨by simp[D.bump,h.1],fun j hj=>?_⟩;have h1:=h.2 j hj;by_cases e:n.toNat=j
 ·have:(D.bump n cnt).getD j default=ix cnt n+1:=by
   simp only[D.bump,List.getD_eq_getElem?_getD,e];rw[List.getElem?_set_self (by rw[h.1]; exact hj)]; rfl
  have e2:ix cnt n=cnt.getD j default:=by simp only[ix,e]
  rw[this,e2]; omega
 ·have:(D.bump n cnt).getD j default=cnt.getD j default:=by
   simp only[D.bump,List.getD_eq_getElem?_getD];rw[List.getElem?_set_ne e]
  rw[this]; omega
theorem Bd.mono {cnt:List Int}{m B B':Nat}(h:Bd cnt m B)(hb:B≤B'):Bd cnt m B':=⟨h.1,fun j hj=>⟨(h.2 j hj).1,by have:=(h.2 j hj).2; omega⟩⟩
def rowN (l:List Int)(k:Nat)(cnt:List Int):List Int:=mc (fun i cnt=>bump (ix l i) cnt) k cnt
def planN (plan:List (List Int))(k:Nat)(cnt:List Int):List Int:=mc (fun i cnt=>rowN (row plan i) (row plan i).length cnt) k cnt
def gY (l:List Int)(m:Nat):Prop:=∀ k,k < l.length→0≤ix l k∧ix l k < (m:Int)
theorem Bd.rowN {l:List Int}{m B:Nat}{cnt:List Int}(h:Bd cnt m B)(hl:gY l m):∀ k,k≤l.length→Bd (rowN l k cnt) m (B+k)
 | 0,_=>h
 | k+1,hk=>(Bd.rowN h hl k (by omega)).bump (hl k (by omega)).1 (hl k (by omega)).2
theorem Bd.planN {plan:List (List Int)}{m:Nat}{cnt:List Int}(h:Bd cnt m 0)(hl:∀ i,i < plan.length→gY (row plan i) m∧(row plan i).length≤40):∀ k,k≤plan.length→Bd (planN plan k cnt) m (40*k)
 | 0,_=>h
 | k+1,hk=>by
  have h1:=Bd.planN h hl k (by omega);have h2:=h1.rowN (hl k (by omega)).1 (row plan k).length (Nat.le_refl _);exact h2.mono (by have:=(hl k (by omega)).2; omega)
def ui (c:bQ):List Int:=List.replicate c.2.length 0
theorem uj (c:bQ):Bd (ui c) c.2.length 0:=by
 refine⟨by simp[ui],fun j hj=>?_⟩;have:(ui c).getD j default=0:=by simp[ui,hj]
 rw[this]; decide
def dn (c:bQ)(plan:List (List Int)):List Int:=planN plan plan.length (ui c)
def dS (c:bQ)(cnt:List Int)(k:Nat):Int:=mc (fun i n=>n+min (ix cnt i) (bV c i).2.1) k 0
theorem qd (c:bQ)(cnt:List Int){B:Nat}(h:Bd cnt c.2.length B)(hv:∀ k,k < c.2.length→0≤(bV c k).2.1∧(bV c k).2.1≤8):∀ k,k≤c.2.length→0≤dS c cnt k∧dS c cnt k≤8*k
 | 0,_=>by simp[dS,mc]
 | k+1,hk=>by
  have h1:=qd c cnt h hv k (by omega);have h2:=hv k (by omega);have h3:=(h.2 k (by omega)).1;have h4:ix cnt (k:Int)=cnt.getD k default:=bp _ _;have h5:dS c cnt (k+1)=dS c cnt k+min (ix cnt (k:Int)) (bV c k).2.1:=rfl;rw[h5,h4];have h6:0≤min (cnt.getD k default) (bV c k).2.1:=by omega
  have h7:min (cnt.getD k default) (bV c k).2.1≤8:=by omega
  omega
theorem aZ {c:bQ}(h:aP c=true):c.1.length≤8∧c.2.length≤6:=by
 simp only[aP,Bool.and_eq_true,decide_eq_true_eq]at h; exact⟨h.1,h.2.1⟩
theorem yk {c:bQ}(h:aP c=true){k:Nat}(hk:k < c.2.length):wJ (bV c k)=true:=by
 simp only[aP,Bool.and_eq_true,decide_eq_true_eq]at h;have:=bU.1 h.2.2.2 k hk;simp only[Bool.and_eq_true]at this; exact this.1
theorem ja {c:bQ}(h:aP c=true){k:Nat}(hk:k < c.1.length):s6 (sI c k)=true:=by
 simp only[aP,Bool.and_eq_true,decide_eq_true_eq]at h;exact bU.1 h.2.2.1 k hk
theorem cV {c:bQ}(h:aP c=true){k:Nat}(hk:k < c.2.length):0≤(bV c k).2.1∧(bV c k).2.1≤8:=by
 have:=yk h hk;simp only[wJ,Bool.and_eq_true,fA]at this; exact this.2.1
theorem sS {c:bQ}{plan:List (List Int)}(h:bK c plan=true){i:Nat}(hi:i < plan.length):gY (row plan i) c.2.length:=fun k hk=>by
 simp only[bK,Bool.and_eq_true]at h;have h1:=bU.1 h.2 i hi;simp only[Bool.and_eq_true]at h1;have h2:=bU.1 h1.2 k hk;simp only[EB,Bool.and_eq_true,fA]at h2;omega
section
variable {c:bQ} {plan:List (List Int)}
theorem sT {l:List Int}{m B k:Nat}{cnt:List Int}(h:Bd cnt m B)(hl:gY l m)(hk:k < l.length)(hB:B+l.length < 1000000000):
  aU (ix l k) (rowN l k cnt).length=true∧aw .i64 (ix (rowN l k cnt) (ix l k)+1)=true:=by
 have h1:=h.rowN hl k (by omega);have h2:=hl k hk;have e:ix l (k:Int)=((ix l k).toNat:Int):=by omega
 refine⟨jU h2.1 (by rw[h1.1]; exact h2.2),?_⟩;have h3:=h1.2 (ix l k).toNat (by omega)
 have h4:ix (rowN l k cnt) (ix l k)=(rowN l k cnt).getD (ix l k).toNat default:=rfl;rw[h4];exact bz (by omega) (by omega)
theorem BA (x0 a2 a3:Int)(w:List Int){l:List Int}{m B:Nat}{cnt:List Int}(h:Bd cnt m B)(hl:gY l m)(hB:B+l.length < 1000000000):
  Av (x0,plan,a2,a3,l,(l.length:Int),0,cnt,c.1,c.2,[],w)=some (x0,plan,a2,a3,rowN l l.length cnt,c.1,c.2,[],w):=by
 refine aJ l.length (fun k=>(x0,plan,a2,a3,l,(l.length:Int),(k:Int),rowN l k cnt,c.1,c.2,[],w)) _ (fun k hk=>?_) ?_ (by omega)
 ·obtain⟨f1,f2⟩:=sT h hl hk hB;simp only[BX,Au,vK,au hk,cond_true,aj hk,bg,f1,f2,aq (show k < 9223372036854775807 by omega),aC];rfl
 ·simp only[BX,Au,vK,az,cond_false]
theorem BB (i:Nat)(hi:i < plan.length){m B:Nat}{cnt:List Int}(h:Bd cnt m B)(hl:gY (row plan i) m)(hB:B+(row plan i).length < 1000000000):
  AQ (plan,(i:Int),0,c,cnt)=some (plan,(i:Int),c,rowN (row plan i) (row plan i).length cnt):=by
 have hrow:ix plan (i:Int)=row plan i:=bp _ _;refine aJ (row plan i).length (fun k=>(plan,(i:Int),(k:Int),c,rowN (row plan i) k cnt)) _ (fun k hk=>?_) ?_ (by omega)
 ·obtain⟨f1,f2⟩:=sT h hl hk hB;simp only[u5,AP,wr,hrow,au hk,cond_true,aj hk,aj hi,bg,f1,f2,aq (show k < 9223372036854775807 by omega),aC];rfl
 ·simp only[u5,AP,wr,hrow,aj hi,bg,az,cond_false]
theorem BC (x0:Int)(w:List Int){m:Nat}{cnt:List Int}(h:Bd cnt m 0)(hp:plan.length≤40)(hl:∀ i,i < plan.length→gY (row plan i) m∧(row plan i).length≤40):
  Ax (x0,plan,(plan.length:Int),0,cnt,c.1,c.2,[],w)=some (x0,planN plan plan.length cnt,c.1,c.2,[],w):=by
 refine aJ plan.length (fun k=>(x0,plan,(plan.length:Int),(k:Int),planN plan k cnt,c.1,c.2,[],w)) _ (fun k hk=>?_) ?_ (by omega)
 ·have hrow:ix plan (k:Int)=row plan k:=bp _ _;simp only[u9,Aw,vL,au hk,cond_true,aj hk,bg,hrow,BA x0 (plan.length:Int) (k:Int) w (h.planN hl k (by omega)) (hl k hk).1 (by have:=(hl k hk).2; omega),aa,aq (show k < 9223372036854775807 by omega),aC];rfl
 ·simp only[u9,Aw,vL,az,cond_false]
theorem BD {m:Nat}{cnt:List Int}(h:Bd cnt m 0)(hp:plan.length≤40)(hl:∀ i,i < plan.length→gY (row plan i) m∧(row plan i).length≤40):
  AS (plan,0,c,cnt)=some (c,planN plan plan.length cnt):=by
 refine aJ plan.length (fun k=>(plan,(k:Int),c,planN plan k cnt)) _ (fun k hk=>?_) ?_ (by omega)
 ·simp only[u4,AR,ws,au hk,cond_true,BB k hk (h.planN hl k (by omega)) (hl k hk).1 (by have:=(hl k hk).2; omega),aa,bg,aq (show k < 9223372036854775807 by omega),aC];rfl
 ·simp only[u4,AR,ws,az,cond_false]
theorem dy {k:Nat}(hk:k < c.2.length):ix (bB c) (k:Int)=(bV c k).2.1:=by
 rw[bp,bB,bV,List.getD_eq_getElem?_getD,List.getD_eq_getElem?_getD,List.getElem?_map,List.getElem?_eq_getElem hk]; rfl
theorem ol (hv:aP c=true){cnt:List Int}{B:Nat}(h:Bd cnt c.2.length B){k:Nat}(hk:k < c.2.length):aw .i64 (dS c cnt k+min (ix cnt k) (bV c k).2.1)=true:=by
 have h1:=qd c cnt h (fun k hk=>cV hv hk) (k+1) hk;have h2:=aZ hv;have h3:dS c cnt (k+1)=dS c cnt k+min (ix cnt (k:Int)) (bV c k).2.1:=rfl;rw[← h3];exact bz (by omega) (by omega)
theorem BE (hv:aP c=true){cnt:List Int}{B:Nat}(h:Bd cnt c.2.length B):
  Az (0,(cnt.length:Int),0,cnt,c.1,c.2,[],bB c)=some (dS c cnt cnt.length,cnt,c.1,c.2,[],bB c):=by
 have h2:=aZ hv;have hl:=h.1;refine aJ cnt.length (fun k=>(dS c cnt k,(cnt.length:Int),(k:Int),cnt,c.1,c.2,[],bB c)) _ (fun k hk=>?_) ?_ (by omega)
 ·have hk':k < c.2.length:=by omega
  have ht:aU (k:Int) (bB c).length=true:=aj (by rw[bB,List.length_map]; exact hk');simp only[u8,Ay,vM,au hk,cond_true,aj hk,ht,bg,dy hk',ol hv h hk',aq (show k < 9223372036854775807 by omega),aC];rfl
 ·simp only[u8,Ay,vM,az,cond_false]
theorem BF (hv:aP c=true){cnt:List Int}{B:Nat}(h:Bd cnt c.2.length B):AU (0,0,c,cnt)=some (dS c cnt cnt.length,c,cnt):=by
 have h2:=aZ hv;have hl:=h.1;refine aJ cnt.length (fun k=>(dS c cnt k,(k:Int),c,cnt)) _ (fun k hk=>?_) ?_ (by omega)
 ·have hk':k < c.2.length:=by omega
  have hg:ix c.2 (k:Int)=bV c k:=bp _ _;simp only[u4,AT,wt,au hk,cond_true,aj hk,aj hk',hg,bg,ol hv h hk',aq (show k < 9223372036854775807 by omega),aC];rfl
 ·simp only[u4,AT,wt,az,cond_false]
def dU (c:bQ)(plan:List (List Int)):Int×Int×List Int:=cond (aP c) (cond (bK c plan) (dS c (dn c plan) (dn c plan).length,0,dn c plan) (0,71,[])) (0,70,[])
theorem qY (h:bK c plan=true)(hr:∀ i,i < plan.length→(row plan i).length≤40):∀ i,i < plan.length→gY (row plan i) c.2.length∧(row plan i).length≤40:=fun i hi=>⟨sS h hi,hr i hi⟩
theorem uk (h:bK c plan=true)(hr:∀ i,i < plan.length→(row plan i).length≤40):Bd (dn c plan) c.2.length (40*plan.length):=(uj c).planN (qY h hr) plan.length (Nat.le_refl _)
theorem BG (hp:plan.length≤40)(hr:∀ i,i < plan.length→(row plan i).length≤40):P13 (c,plan)=some (dU c plan):=by
 cases hv:aP c with
 | false=>simp only[u2,P13,PT,Mm,gS,hv,dU,aa,cond_false]; rfl
 | true=>
  have h2:=aZ hv;have e38:=J2 c plan (bB c) (by omega) (fun i hi=>by have:=hr i hi; omega) (by omega);have d0:(!decide ((0:Int)=0))=false:=rfl;cases hpl:bK c plan with
  | false=>simp only[u2,P13,PT,Mm,gS,hv,dU,aa,cond_true,d0,cond_false,oj c (by omega),e38,hpl,Bool.not_false]; rfl
  | true=>
   have t1:decide ((0:Int)≤(c.2.length:Int))=true:=by simp
   have t2:decide ((8:Int)*(c.2.length:Int)≤140737488355328)=true:=by simp; omega
   have t3:(cP (Int.toNat (c.2.length:Int)) (0:Int))=ui c:=by simp[cP,ui]
   have e0:=BC (c:=c) 0 (bB c) (uj c) hp (qY hpl hr);have e1:=BE hv (uk hpl hr);simp only[u2,P13,PT,Mm,gS,hv,dU,aa,cond_true,d0,cond_false,oj c (by omega),e38,hpl,Bool.not_true,t1,t2,t3,bg,e0];simp only[show planN plan plan.length (ui c)=dn c plan from rfl,e1,aa]; rfl
theorem J3 (hp:plan.length≤40)(hr:∀ i,i < plan.length→(row plan i).length≤40):P14 (c,plan)=some (dU c plan):=by
 cases hv:aP c with
 | false=>simp only[u2,P14,Qb,NF,jX,hv,dU,aa,cond_false]; rfl
 | true=>
  have h2:=aZ hv;have e30:=Bz c plan (by omega) (fun i hi=>by have:=hr i hi; omega) (by omega);have d0:(!decide ((0:Int)=0))=false:=rfl;cases hpl:bK c plan with
  | false=>simp only[u2,P14,Qb,NF,jX,hv,dU,aa,cond_true,d0,cond_false,e30,hpl,Bool.not_false]; rfl
  | true=>
   have t1:decide ((0:Int)≤(c.2.length:Int))=true:=by simp
   have t2:decide ((8:Int)*(c.2.length:Int)≤140737488355328)=true:=by simp; omega
   have t3:(cP (Int.toNat (c.2.length:Int)) (0:Int))=ui c:=by simp[cP,ui]
   have e0:=BD (c:=c) (uj c) hp (qY hpl hr);have e1:=BF hv (uk hpl hr);simp only[u2,P14,Qb,NF,jX,hv,dU,aa,cond_true,d0,cond_false,e30,hpl,Bool.not_true,Jw,TH,Su,t1,t2,t3,bg,e0];simp only[show planN plan plan.length (ui c)=dn c plan from rfl,e1,aa]; rfl
end
theorem om:P9 ()=some true:=by kernel_rfl
theorem J4 (c:bQ)(h1:c.1.length≤40)(h2:c.2.length≤40):P10 c=some c:=by
 simp only[P10,Tq,RP,cK (show 24*c.1.length≤140737488355328 by omega),cK (show 48*c.2.length≤140737488355328 by omega),bg]
def sumN (n:Nat)(f:Nat→Int):Int:=mc (fun i s=>s+f i) n 0
theorem aE (n:Nat)(f:Nat→Int):sumN (n+1) f=sumN n f+f n:=rfl
theorem dV {f g:Nat→Int}:∀ {n:Nat},(∀ k,k < n→f k≤g k)→sumN n f≤sumN n g
 | 0,_=>Int.le_refl _
 | n+1,h=>by
  rw[aE,aE];have h1:=dV (n:=n) (fun k hk=>h k (by omega)); have h2:=h n (by omega);omega
theorem aF {f g:Nat→Int}:∀ {n:Nat},(∀ k,k < n→f k=g k)→sumN n f=sumN n g
 | 0,_=>rfl
 | n+1,h=>by rw[aE,aE,aF (n:=n) (fun k hk=>h k (by omega)),h n (by omega)]
theorem dd {f:Nat→Int}{a b:Int}:∀ {n:Nat},(∀ k,k < n→a≤f k∧f k≤b)→a*n≤sumN n f∧sumN n f≤b*n
 | 0,_=>by simp[sumN,mc]
 | n+1,h=>by
  rw[aE];have h1:=dd (n:=n) (fun k hk=>h k (by omega)); have h2:=h n (by omega);have e1:a*((n+1:Nat):Int)=a*n+a:=by rw[Int.natCast_add,Int.mul_add]; simp
  have e2:b*((n+1:Nat):Int)=b*n+b:=by rw[Int.natCast_add,Int.mul_add]; simp
  omega
def cr (b:Bool):Int:=cond b 1 0
theorem fZ (b:Bool):0≤cr b∧cr b≤1:=by cases b <;> decide
def cD (x i:Int):Bool:=decide (yF .u64 (eU .u64 x i) 1=1)
theorem ul (x:Int)(i:Nat):P52 (x,(i:Int))=some (cD x i):=by
 have t:decide ((0:Int)≤(i:Int))=true:=by simp
 simp only[u2,P52,Tb,Rc,t,bg,cD]
abbrev aX:=List (List Int×Int)
def jy (c:bQ)(d:aX)(i j:Nat):Bool:=fF (ix c.2 i) (ix c.1 j)&&decide (fl (be d [(i:Int),(j:Int)]) 0=0)
def cC (c:bQ)(d:aX)(x:Int)(k:Nat)(n:Nat):Int:=sumN n fun i=>cr (cD x i&&jy c d i k)
def fH (c:bQ)(d:aX)(w:List Int)(x:Int):Int:=sumN w.length (fun i=>cond (cD x i) 0 (ix w i))+sumN c.1.length fun k=>min (ix c.1 k).2.2 (cC c d x k c.2.length)
structure Good (c:bQ) (w:List Int):Prop where
 s:c.1.length≤8
 p:c.2.length≤6
 wl:w.length≤6
 t:∀ i,i < w.length→0≤ix w (i:Int)∧ix w (i:Int)≤8
 r:∀ k,k < c.1.length→0≤(ix c.1 (k:Int)).2.2∧(ix c.1 (k:Int)).2.2≤6
section
variable {c:bQ} {d:aX} {w:List Int}
theorem wS (g:Good c w)(x:Int){n:Nat}(hn:n≤w.length):0≤sumN n (fun i=>cond (cD x i) 0 (ix w i))∧sumN n (fun i=>cond (cD x i) 0 (ix w i))≤48:=by
 have h:=dd (f:=fun i=>cond (cD x i) 0 (ix w i)) (a:=0) (b:=8) (n:=n) (fun k hk=>by
  have:=g.t k (by omega);show 0≤cond (cD x k) 0 (ix w (k:Int))∧cond (cD x k) 0 (ix w (k:Int))≤8;cases cD x k with
  | true=>simp
  | false=>exact this)
 have:=g.wl;omega
theorem qe (x:Int)(k n:Nat):0≤cC c d x k n∧cC c d x k n≤n:=by
 have:=dd (f:=fun i=>cr (cD x i&&jy c d i k)) (a:=0) (b:=1) (n:=n) (fun i _=>fZ _);unfold cC; omega
theorem wT (g:Good c w)(x:Int){n:Nat}(hn:n≤c.1.length):0≤sumN n (fun k=>min (ix c.1 k).2.2 (cC c d x k c.2.length))∧sumN n (fun k=>min (ix c.1 k).2.2 (cC c d x k c.2.length))≤48:=by
 have h:=dd (f:=fun k=>min (ix c.1 k).2.2 (cC c d x k c.2.length)) (a:=0) (b:=6) (n:=n) (fun k hk=>by
  have h1:=g.r k (by omega);have h2:=qe (c:=c) (d:=d) x k c.2.length;show 0≤min (ix c.1 (k:Int)).2.2 _∧min (ix c.1 (k:Int)).2.2 _≤6;omega)
 have:=g.s;omega
theorem BH (g:Good c w)(x:Int):Ah (x,0,(w.length:Int),0,c.1,c.2,w,d)=some (x,sumN w.length (fun i=>cond (cD x i) 0 (ix w i)),c.1,c.2,w,d):=by
 have:=g.wl;refine aJ w.length (fun k=>(x,sumN k (fun i=>cond (cD x i) 0 (ix w i)),(w.length:Int),(k:Int),c.1,c.2,w,d)) _ (fun k hk=>?_) ?_ (by omega)
 ·have h1:=wS g x (Nat.le_of_lt hk);have h2:=g.t k hk;have f1:aw .i64 (sumN k (fun i=>cond (cD x i) 0 (ix w i))+ix w k)=true:=bz (by omega) (by omega);simp only[u8,Ag,vz,au hk,cond_true,aj hk,bg,ul,aa,f1,aq (show k < 9223372036854775807 by omega),aC,aE];cases cD x k with
  | true=>simp only[Bool.not_true,cond_false,cond_true,Int.add_zero]
  | false=>simp only[Bool.not_false,cond_false,cond_true]
 ·simp only[u8,Ag,vz,az,cond_false]
theorem BI (g:Good c w)(x n0:Int)(k:Nat)(hk:k < c.1.length)(xs:List oL)(a5 a6:Int)(s:oL):
  Aj (x,n0,(k:Int),0,xs,a5,a6,(c.2.length:Int),0,c.1,c.2,s,d,w)=some (x,n0,cC c d x k c.2.length,xs,a5,a6,c.1,c.2,s,d,w):=by
 have:=g.p;refine aJ c.2.length (fun i=>(x,n0,(k:Int),cC c d x k i,xs,a5,a6,(c.2.length:Int),(i:Int),c.1,c.2,s,d,w)) _ (fun i hi=>?_) ?_ (by omega)
 ·have h1:=qe (c:=c) (d:=d) x k i;have f1:aw .i64 (cC c d x k i+1)=true:=bz (by omega) (by omega);have e:cC c d x k (i+1)=cC c d x k i+cr (cD x i&&jy c d i k):=rfl;simp only[Qo,Ai,vA,au hi,cond_true,ul,Bx _ _ c d w (aj hi) (aj hk),aa,bg,f1,aq (show i < 9223372036854775807 by omega),aC,e];have e2:(fF (ix c.2 (i:Int)) (ix c.1 (k:Int))&&decide (fl (be d [(i:Int),(k:Int)]) 0=0))=jy c d i k:=rfl;simp only[e2];cases cD x i with
  | false=>simp only[cond_false,Bool.false_and,cr,Int.add_zero]
  | true=>
   cases jy c d i k with
   | false=>simp only[cond_false,cond_true,Bool.true_and,cr,Int.add_zero]
   | true=>simp only[cond_true,Bool.true_and,cr]
 ·simp only[Qo,Ai,vA,az,cond_false]
theorem BJ (g:Good c w)(x n0:Int)(hn:0≤n0∧n0≤48):
  se (x,n0,c.1,(c.1.length:Int),0,c.1,c.2,d,w)=some (n0+sumN c.1.length (fun k=>min (ix c.1 k).2.2 (cC c d x k c.2.length)),c.1,c.2,d,w):=by
 have:=g.s;rw[show se (x,n0,c.1,(c.1.length:Int),0,c.1,c.2,d,w)=se (x,n0+sumN 0 (fun k=>min (ix c.1 k).2.2 (cC c d x k c.2.length)),c.1,(c.1.length:Int),0,c.1,c.2,d,w)from by rw[show n0+sumN 0 (fun k=>min (ix c.1 k).2.2 (cC c d x k c.2.length))=n0 from Int.add_zero n0]];refine(aJ c.1.length (fun k=>(x,n0+sumN k (fun k=>min (ix c.1 k).2.2 (cC c d x k c.2.length)),c.1,(c.1.length:Int),(k:Int),c.1,c.2,d,w)) _ (fun k hk=>?_) ?_ (by omega))
 ·have h1:=wT (d:=d) g x (n:=k) (by omega);have h2:=wT (d:=d) g x (n:=k+1) (by omega);rw[aE]at h2;have f1:aw .i64 (n0+sumN k (fun k=>min (ix c.1 k).2.2 (cC c d x k c.2.length))+min (ix c.1 (k:Int)).2.2 (cC c d x k c.2.length))=true:=bz (by omega) (by omega);rw[Int.add_assoc]at f1;simp only[u9,Ak,vB,au hk,cond_true,aj hk,bg,BI g x _ k hk,aa,f1,aq (show k < 9223372036854775807 by omega),aC,aE,Int.add_assoc]
 ·simp only[u9,Ak,vB,az,cond_false]
theorem BK (g:Good c w)(x:Int):Al (x,c.1,c.2,d,w)=some (fH c d w x,c.1,c.2,d,w):=by
 simp only[u5,Al,Te,Rj,BH g x,aa,BJ g x _ (wS g x (Nat.le_refl _))]; rfl
def de (c:bQ)(d:aX)(w:List Int)(n:Nat):Int×Int:=mc (fun k st=>cond (decide (fH c d w k < st.2)) ((k:Int),fH c d w k) st) n (0,fH c d w 0)
theorem kS:∀ (n:Nat),(∀ k,k < n→(de c d w n).2≤fH c d w (k:Nat))∧(de c d w n).2≤fH c d w 0∧(∃ k,(de c d w n).1=((k:Nat):Int)∧(k < n∨k=0)∧(de c d w n).2=fH c d w (k:Nat))
 | 0=>⟨by simp,Int.le_refl _,0,rfl,.inr rfl,rfl⟩
 | n+1=>by
  obtain⟨h1,h2,k,h3,h4,h5⟩:=kS n;have e:de c d w (n+1)=cond (decide (fH c d w (n:Nat) < (de c d w n).2)) ((n:Int),fH c d w (n:Nat)) (de c d w n):=rfl;cases hd:decide (fH c d w (n:Nat) < (de c d w n).2)with
  | true=>
   rw[e,hd];have hd':=of_decide_eq_true hd;refine⟨fun j hj=>?_,?_,n,rfl,.inl (by omega),rfl⟩
   ·show fH c d w (n:Nat)≤_;by_cases hjn:j=n
    ·rw[hjn]; exact Int.le_refl _
    ·have:=h1 j (by omega); omega
   ·show fH c d w (n:Nat)≤_; omega
  | false=>
   rw[e,hd];have hd':=of_decide_eq_false hd;refine⟨fun j hj=>?_,h2,k,h3,by omega,h5⟩;show(de c d w n).2≤_;by_cases hjn:j=n
   ·rw[hjn]; omega
   ·exact h1 j (by omega)
def setsN (c:bQ):Nat:=2^c.2.length
theorem yl (c:bQ):0 < setsN c:=Nat.pow_pos (by decide)
theorem BL (h:c.2.length≤6):setsN c≤64:=Nat.le_trans (Nat.pow_le_pow_right (by decide) h) (by decide)
theorem J5 (h:c.2.length≤6):Lg .u64 1 (c.2.length:Int)=(setsN c:Int):=by
 unfold setsN;generalize c.2.length=n at h
 match n,h with
 | 0,_=>decide
 | 1,_=>decide
 | 2,_=>decide
 | 3,_=>decide
 | 4,_=>decide
 | 5,_=>decide
 | 6,_=>decide
 | n+7,h=>omega
theorem sU {n:Int}(h:0≤n)(h':n≤1000000):aw .u64 n=true:=by
 rw[aw,decide_eq_true_eq];have e2:(2:Int)^64=18446744073709551616:=by decide
 simp only[IntKind.wrap,IntKind.bits,IntKind.signed,Bool.false_and,e2]
 simp; omega
theorem BM (g:Good c w):P45 (c.1,c.2,d,w)=some ((de c d w (setsN c)).1,(de c d w (setsN c)).2,c.1,c.2,d,w):=by
 have hs:=BL g.p;have e:An (0,fH c d w 0,(setsN c:Int),0,c.1,c.2,d,w)=some ((de c d w (setsN c)).1,(de c d w (setsN c)).2,c.1,c.2,d,w):=by
  refine aJ (setsN c) (fun k=>((de c d w k).1,(de c d w k).2,(setsN c:Int),(k:Int),c.1,c.2,d,w)) _ (fun k hk=>?_) ?_ (by omega)
  ·have f1:aw .u64 ((k:Int)+1)=true:=sU (by omega) (by omega);have e:de c d w (k+1)=cond (decide (fH c d w (k:Nat) < (de c d w k).2)) ((k:Int),fH c d w (k:Nat)) (de c d w k):=rfl;simp only[u8,Am,vC,au hk,cond_true,BK g,aa,f1,bg,aC,e];cases decide (fH c d w (k:Nat) < (de c d w k).2) <;> rfl
  ·simp only[u8,Am,vC,az,cond_false]
 have t:decide ((0:Int)≤(c.2.length:Int))=true:=by simp
 simp only[u4,P45,Tf,Rl,BK g,aa,t,bg,J5 g.p,e]
def ka (c:bQ)(d:aX)(w:List Int):Int:=(de c d w (setsN c)).2
theorem oq {k:Nat}(hk:k < setsN c):ka c d w≤fH c d w k:=(kS (setsN c)).1 k hk
theorem sV:∃ k:Nat,k < setsN c∧ka c d w=fH c d w k:=by
 obtain⟨_,_,k,_,h4,h5⟩:=kS (c:=c) (d:=d) (w:=w) (setsN c);exact⟨k,by have:=yl c; omega,h5⟩
end
theorem kb {c:bQ}(h:aP c=true):Good c (bB c):=by
 have hl:=aZ h;refine⟨hl.1,hl.2,by rw[bB,List.length_map]; exact hl.2,fun i hi=>?_,fun k hk=>?_⟩
 ·rw[bB,List.length_map]at hi;rw[dy hi]; exact cV h hi
 ·have:=ja h hk;simp only[s6,Bool.and_eq_true,fA]at this;rw[bp]; exact this.2.2
def most (c:bQ):Int:=ka c [] (bB c)
theorem BN (c:bQ):P22 c=some (cond (aP c) (most c,0) (0,70)):=by
 cases hv:aP c with
 | false=>simp only[P22,Rq,PM,gS,hv,cond_false,aa]; rfl
 | true=>
  have hl:=aZ hv;simp only[P22,Rq,PM,gS,hv,cond_true,aa,decide_true,Bool.not_true,cond_false,oj c (by omega),BM (kb hv)]; rfl
def kc (c:bQ):Bool:=aP c&&((bZ c.2.length fun k=>!decide (3 < (bV c k).2.1))&&(decide (c.1.length≤5)&&decide (c.2.length≤4)))
def um (c:bQ):Bool:=!(decide (c.1.length≤40)&&decide (c.2.length≤40))||(aP c&&!((bZ c.2.length fun k=>!decide (3 < (bV c k).2.1))&&(decide (c.1.length≤5)&&decide (c.2.length≤4))))
theorem BO (c:bQ):P16 c=some (um c):=by
 by_cases h1:c.1.length≤40
 rotate_left
 ·have h:decide ((40:Int) < (c.1.length:Int))=true:=by simp; omega
  simp[P16,PF,Lt,h,um,h1]
 by_cases h2:c.2.length≤40
 rotate_left
 ·have h:decide ((40:Int) < (c.1.length:Int))=false:=by simp; omega
  have h':decide ((40:Int) < (c.2.length:Int))=true:=by simp; omega
  simp[P16,PF,Lt,h,h',um,h2]
 have d1:decide ((40:Int) < (c.1.length:Int))=false:=by simp; omega
 have d2:decide ((40:Int) < (c.2.length:Int))=false:=by simp; omega
 have t1:decide (c.1.length≤40)=true:=by simp[h1]
 have t2:decide (c.2.length≤40)=true:=by simp[h2]
 have e0:z0 (0,c)=some (cond (bZ c.2.length fun k=>!decide (3 < (bV c k).2.1)) (.inr c) (.inl (true,c))):=by
  refine ca c.2.length (fun k=>((k:Int),c)) (fun k=>!decide (3 < (bV c k).2.1)) _ _ (fun k hk=>?_) ?_ (by omega)
  ·have hg:ix c.2 (k:Int)=bV c k:=bp _ _;simp only[u2,zZ,vo,au hk,cond_true,aj hk,bg,hg,aq (show k < 9223372036854775807 by omega),aC];cases decide (3 < (bV c k).2.1) <;> rfl
  ·simp only[u2,zZ,vo,az,cond_false]
 have d5:decide ((5:Int) < (c.1.length:Int))=!decide (c.1.length≤5):=by by_cases h:c.1.length≤5 <;> simp[h] <;> omega
 have d4:decide ((4:Int) < (c.2.length:Int))=!decide (c.2.length≤4):=by by_cases h:c.2.length≤4 <;> simp[h] <;> omega
 simp only[P16,PF,Lt,d1,d2,cond_false,jX,aa,e0,um,t1,t2,Bool.and_self,Bool.not_true,Bool.false_or,d5,d4];cases aP c with
 | false=>rfl
 | true=>
  simp only[cond_true,decide_true,Bool.not_true,cond_false,Bool.true_and];cases(bZ c.2.length fun k=>!decide (3 < (bV c k).2.1))with
  | false=>rfl
  | true=>
   simp only[cond_true,dQ,d5,d4,Bool.true_and];cases decide (c.1.length≤5) <;> cases decide (c.2.length≤4) <;> rfl
theorem J6 (c:bQ):wA c=some (kc c):=by
 simp only[wA,TK,SG,BO,aa,jX,um,kc];cases hv:aP c with
 | false=>cases(decide (c.1.length≤40)&&decide (c.2.length≤40)) <;> rfl
 | true=>
  have:=aZ hv;have t1:decide (c.1.length≤40)=true:=by simp; omega
  have t2:decide (c.2.length≤40)=true:=by simp; omega
  simp only[t1,t2];cases((bZ c.2.length fun k=>!decide (3 < (bV c k).2.1))&&(decide (c.1.length≤5)&&decide (c.2.length≤4))) <;> rfl
theorem sW {c:bQ}(h:kc c=true):aP c=true:=by simp only[kc,Bool.and_eq_true]at h; exact h.1
theorem ym {c:bQ}(h:kc c=true):c.1.length≤5∧c.2.length≤4:=by simp only[kc,Bool.and_eq_true,decide_eq_true_eq]at h; exact h.2.2
structure SMore (s s':List oL):Prop where
 len:s.length≤s'.length
 at':∀ k,k < s.length→(s'.getD k default).1=(s.getD k default).1∧(s'.getD k default).2.1=(s.getD k default).2.1∧(s.getD k default).2.2≤(s'.getD k default).2.2
structure PMore (p p':List oc):Prop where
 len:p'.length=p.length
 at':∀ k,k < p.length→(p'.getD k default).2.1=(p.getD k default).2.1∧(p'.getD k default).2.2.1≤(p.getD k default).2.2.1∧(p.getD k default).2.2.2.1≤(p'.getD k default).2.2.2.1 ∧
  (p'.getD k default).2.2.2.2.1≤(p.getD k default).2.2.2.2.1∧(p.getD k default).2.2.2.2.2≤(p'.getD k default).2.2.2.2.2
theorem SMore.refl (s:List oL):SMore s s:=⟨Nat.le_refl _,fun k _=>⟨rfl,rfl,Int.le_refl _⟩⟩
theorem PMore.refl (p:List oc):PMore p p:=⟨rfl,fun k _=>⟨rfl,Int.le_refl _,Int.le_refl _,Int.le_refl _,Int.le_refl _⟩⟩
theorem SMore.trans {a b c:List oL}(h:SMore a b)(k:SMore b c):SMore a c:=⟨Nat.le_trans h.len k.len,fun i hi=>by
 have h1:=h.at' i hi; have h2:=k.at' i (Nat.lt_of_lt_of_le hi h.len);exact⟨h2.1.trans h1.1,h2.2.1.trans h1.2.1,Int.le_trans h1.2.2 h2.2.2⟩⟩
theorem BP {a b:Bool}(h:a=true→b=true):cr a≤cr b:=by
 cases a with
 | false=>exact(fZ b).1
 | true=>rw[h rfl]; exact Int.le_refl _
abbrev SetB:=Nat→Bool
def aD (n:Nat)(A:SetB):Int:=sumN n fun i=>cr (A i)
def ua (n:Nat)(S:SetB)(s:Int×SetB):Int:=min s.1 (aD n fun i=>S i&&s.2 i)
def ctL (n:Nat)(S:SetB):List (Int×SetB)→Int
 | []=>0
 | s::l=>ua n S s+ctL n S l
def n6 (n:Nat)(t:Nat→Int)(S:SetB):Int:=sumN n fun i=>cond (S i) 0 (t i)
def n7 (n:Nat)(l:List (Int×SetB))(t:Nat→Int)(S:SetB):Int:=n6 n t S+ctL n S l
def redB (t:Nat→Int)(A:SetB)(i:Nat):Int:=cond (A i&&decide (0 < t i)) (t i-1) (t i)
def AZ (n:Nat)(s:Int×SetB)(A:SetB):Prop:=(∀ i,i < n→A i=true→s.2 i=true)∧aD n A≤s.1
inductive LeftB (n:Nat):List (Int×SetB)→(Nat→Int)→(Nat→Int)→Prop
 | nil (t:Nat→Int):LeftB n [] t t
 | cons {s:Int×SetB} {l:List (Int×SetB)} {t u:Nat→Int} (A:SetB) (h:AZ n s A) (k:LeftB n l (redB t A) u):LeftB n (s::l) t u
theorem cU (f g:Nat→Int):∀ n,sumN n (fun i=>f i+g i)=sumN n f+sumN n g
 | 0=>rfl
 | n+1=>by simp only[aE]; rw[cU f g n]; omega
theorem lK {f g f' g':Nat→Int}(n:Nat)(h:∀ i,i < n→f i+g i=f' i+g' i):sumN n f+sumN n g=sumN n f'+sumN n g':=by
 rw[← cU,← cU]; exact aF h
theorem wE (n:Nat)(A:SetB):0≤aD n A:=by
 have:=dV (f:=fun _=>0) (g:=fun i=>cr (A i)) (n:=n) fun k _=>(fZ _).1;have e:∀ n,sumN n (fun _=>0)=0:=fun n=>by induction n with
  | zero=>rfl
  | succ n ih=>rw[aE,ih]; rfl
 rw[e]at this;exact this
theorem dR {n:Nat}{A B:SetB}(h:∀ i,i < n→A i=true→B i=true):aD n A≤aD n B:=dV fun k hk=>by
 try dsimp only
 have:=h k hk;cases ha:A k with
 | false=>exact(fZ _).1
 | true=>rw[this ha]; exact Int.le_refl _
theorem pV (n:Nat)(A S T:SetB):aD n (fun i=>(S i||T i)&&A i)+aD n (fun i=>(S i&&T i)&&A i)=aD n (fun i=>S i&&A i)+aD n (fun i=>T i&&A i):=lK n fun i _=>by
 try dsimp only
 cases S i <;> cases T i <;> cases A i <;> rfl
theorem Ek (n:Nat)(S T:SetB)(s:Int×SetB):ua n (fun i=>S i||T i) s+ua n (fun i=>S i&&T i) s≤ua n S s+ua n T s:=by
 have h1:=pV n s.2 S T;have h2:aD n (fun i=>(S i&&T i)&&s.2 i)≤aD n (fun i=>S i&&s.2 i):=dR fun i _ h=>by revert h; cases S i <;> cases T i <;> simp
 have h3:aD n (fun i=>(S i&&T i)&&s.2 i)≤aD n (fun i=>T i&&s.2 i):=dR fun i _ h=>by revert h; cases S i <;> cases T i <;> simp
 unfold ua
 dsimp only
 omega
theorem wF (n:Nat)(S T:SetB):∀ l,ctL n (fun i=>S i||T i) l+ctL n (fun i=>S i&&T i) l≤ctL n S l+ctL n T l
 | []=>Int.le_refl _
 | s::l=>by have:=wF n S T l; have:=Ek n S T s; simp only[ctL]; omega
theorem sy {n:Nat}{S T:SetB}(h:∀ i,i < n→S i=true→T i=true):∀ l,ctL n S l≤ctL n T l
 | []=>Int.le_refl _
 | s::l=>by
  have:=sy h l;have:aD n (fun i=>S i&&s.2 i)≤aD n (fun i=>T i&&s.2 i):=dR fun i hi q=>by
   rw[Bool.and_eq_true]at q ⊢; exact⟨h i hi q.1,q.2⟩
  simp only[ctL,ua]; omega
theorem El (n:Nat)(t:Nat→Int)(S T:SetB):n6 n t (fun i=>S i||T i)+n6 n t (fun i=>S i&&T i)=n6 n t S+n6 n t T:=lK n fun i _=>by
 try dsimp only
 cases S i <;> cases T i <;> simp
theorem Em (n:Nat)(l:List (Int×SetB))(t:Nat→Int)(S T:SetB):n7 n l t (fun i=>S i||T i)+n7 n l t (fun i=>S i&&T i)≤n7 n l t S+n7 n l t T:=by
 have:=El n t S T; have:=wF n S T l; unfold n7; omega
theorem pW {n:Nat}{A:SetB}{a:Nat}(ha:a < n)(h:A a=true)(S:SetB):aD n (fun i=>S i&&(A i&&!decide (i=a)))=aD n (fun i=>S i&&A i)-cr (S a):=by
 have key:∀ m,sumN m (fun i=>cr (S i&&(A i&&!decide (i=a))))=sumN m (fun i=>cr (S i&&A i))-(if a < m then cr (S a)else 0):=by
  intro m
  induction m with
  | zero=>rw[if_neg (by omega)]; rfl
  | succ m ih=>
   rw[aE,aE,ih];by_cases e:m=a
   ·subst e;rw[if_neg (by omega),if_pos (by omega),h];simp only[decide_true,Bool.not_true,Bool.and_false,Bool.and_true];show _-0+0=_; omega
   ·rw[decide_eq_false e,Bool.not_false,Bool.and_true];by_cases c:a < m
    ·rw[if_pos c,if_pos (by omega)]; omega
    ·rw[if_neg c,if_neg (by omega)]; omega
 have:=key n;rw[if_pos ha]at this;exact this
theorem A0 {n:Nat}{h:SetB→Int}(hs:∀ S T:SetB,h (fun i=>S i||T i)+h (fun i=>S i&&T i)≤h S+h T){M r:Int}(hr:0≤r)(hM:∀ S:SetB,M≤h S+r):
  ∀ (k:Nat) (A:SetB),aD n A≤k→(∀ S:SetB,M≤aD n (fun i=>S i&&A i)+h S)→∃ B:SetB,(∀ i,i < n→B i=true→A i=true)∧aD n B≤r∧∀ S:SetB,M≤aD n (fun i=>S i&&B i)+h S
 | 0,A,hk,hA=>⟨A,fun _ _ q=>q,by omega,hA⟩
 | k+1,A,hk,hA=>by
  by_cases c:aD n A≤r
  ·exact⟨A,fun _ _ q=>q,c,hA⟩
  by_cases e:∃ a,a < n∧A a=true∧∀ S:SetB,M≤aD n (fun i=>S i&&(A i&&!decide (i=a)))+h S
  ·obtain⟨a,ha,hAa,q⟩:=e;have hc:=pW ha hAa (fun _=>true);have h1:aD n (fun i=>A i&&!decide (i=a))=aD n A-1:=hc;obtain⟨B,b1,b2,b3⟩:=A0 hs hr hM k (fun i=>A i&&!decide (i=a)) (by omega) q;exact⟨B,fun i hi hb=>by have:=b1 i hi hb; rw[Bool.and_eq_true]at this; exact this.1,b2,b3⟩
  ·exfalso
   have tight:∀ a,a < n→A a=true→∃ S:SetB,S a=true∧aD n (fun i=>S i&&A i)+h S≤M:=fun a ha hAa=>by
    have:∃ S:SetB,¬ M≤aD n (fun i=>S i&&(A i&&!decide (i=a)))+h S:=Classical.byContradiction fun q=>e ⟨a,ha,hAa,fun S=>Classical.byContradiction fun q'=>q ⟨S,q'⟩⟩;obtain⟨S,hS⟩:=this;rw[pW ha hAa S]at hS;have:=hA S;cases hb:S a with
    | false=>rw[hb]at hS; exact absurd this (by have:cr false=0:=rfl; omega)
    | true=>rw[hb]at hS; exact⟨S,hb,by have:cr true=1:=rfl; omega⟩
   have join:∀ m,m≤n→(∀ a,a < m→A a=false)∨∃ T:SetB,(∀ a,a < m→A a=true→T a=true)∧aD n (fun i=>T i&&A i)+h T≤M:=by
    intro m
    induction m with
    | zero=>intro _; left; intro a ha; omega
    | succ m ih=>
     intro hm;cases ham:A m with
     | false=>
      rcases ih (by omega)with q | ⟨T,t1,t2⟩
      ·left; intro a ha;by_cases ea:a=m
       ·rw[ea]; exact ham
       ·exact q a (by omega)
      ·right;refine⟨T,fun a ha hAa=>?_,t2⟩;by_cases ea:a=m
       ·rw[ea,ham]at hAa; cases hAa
       ·exact t1 a (by omega) hAa
     | true=>
      obtain⟨S,s1,s2⟩:=tight m (by omega) ham;right;rcases ih (by omega)with q | ⟨T,t1,t2⟩
      ·refine⟨S,fun a ha hAa=>?_,s2⟩;by_cases ea:a=m
       ·rw[ea]; exact s1
       ·rw[q a (by omega)]at hAa; cases hAa
      ·refine⟨fun i=>S i||T i,fun a ha hAa=>?_,?_⟩
       ·by_cases ea:a=m
        ·show(S a||T a)=true; rw[ea,s1]; rfl
        ·show(S a||T a)=true; rw[t1 a (by omega) hAa,Bool.or_true]
       ·have h1:=hs S T;have h2:=pV n A S T;have h3:M≤aD n (fun i=>(S i&&T i)&&A i)+h (fun i=>S i&&T i):=hA (fun i=>S i&&T i);show aD n (fun i=>(S i||T i)&&A i)+h (fun i=>S i||T i)≤M;omega
   rcases join n (Nat.le_refl _)with q | ⟨T,t1,t2⟩
   ·have:aD n A≤aD n (fun _=>false):=dR fun i hi hA=>by rw[q i hi]at hA; cases hA
    have e0:aD n (fun _=>false)=0:=by
     unfold aD;generalize n=m
     induction m with
     | zero=>rfl
     | succ m ih=>rw[aE,ih]; rfl
    omega
   ·have h1:=hM T;have h2:aD n A≤aD n (fun i=>T i&&A i):=dR fun i hi hA=>by rw[t1 i hi hA,hA]; rfl
    omega
theorem sA {n:Nat}(t:Nat→Int)(A S:SetB)(hp:∀ i,i < n→A i=true→0 < t i):n6 n (redB t A) S=n6 n t S-aD n A+aD n (fun i=>S i&&A i):=by
 have:n6 n (redB t A) S+aD n A=n6 n t S+aD n (fun i=>S i&&A i):=lK n fun i hi=>by
  try dsimp only
  unfold redB;cases ha:A i with
  | false=>cases S i <;> rfl
  | true=>
   rw[decide_eq_true (hp i hi ha)];cases S i
   ·show t i-1+1=t i+0; omega
   ·rfl
 omega
theorem wG {n:Nat}:∀ (l:List (Int×SetB)) (t:Nat→Int) (M:Int),(∀ s∈l,0≤s.1)→(∀ i,i < n→0≤t i)→(∀ S:SetB,M≤n7 n l t S)→∃ u,LeftB n l t u∧M≤sumN n t-sumN n u
 | [],t,M,_,ht,hM=>⟨t,.nil t,by
  have:=hM fun _=>true;have e:n7 n [] t (fun _=>true)=0:=by
   unfold n7 n6 ctL;have:∀ m,sumN m (fun i=>cond true 0 (t i))=0:=fun m=>by induction m with
    | zero=>rfl
    | succ m ih=>rw[aE,ih]; rfl
   rw[this]; rfl
  omega⟩
 | s::l,t,M,hr,ht,hM=>by
  have hs1:=hr s (by simp);obtain⟨A,a1,a2,a3⟩:=A0 (n:=n) (h:=n7 n l t) (Em n l t) (M:=M) (r:=s.1) hs1 (fun S=>by
   have:=hM S;unfold n7 ctL ua at this;unfold n7;omega) (aD n fun i=>s.2 i&&decide (0 < t i)).toNat (fun i=>s.2 i&&decide (0 < t i)) (by have:=wE n fun i=>s.2 i&&decide (0 < t i); omega) (fun S=>by
   have h1:=hM fun i=>S i&&decide (0 < t i);have h2:n6 n t (fun i=>S i&&decide (0 < t i))=n6 n t S:=aF fun i hi=>by
    try dsimp only
    have:=ht i hi;by_cases c:0 < t i
    ·rw[decide_eq_true c,Bool.and_true]
    ·rw[decide_eq_false c,Bool.and_false,show t i=0 by omega]; cases S i <;> rfl
   have h3:ctL n (fun i=>S i&&decide (0 < t i)) l≤ctL n S l:=sy (fun i _ q=>by rw[Bool.and_eq_true]at q; exact q.1) l;have h4:aD n (fun i=>(S i&&decide (0 < t i))&&s.2 i)=aD n (fun i=>S i&&(s.2 i&&decide (0 < t i))):=aF fun i _=>by
    dsimp only
    cases S i <;> cases s.2 i <;> cases decide (0 < t i) <;> rfl
   unfold n7 ctL ua at h1;unfold n7;simp only at h1;omega)
  have hpos:∀ i,i < n→A i=true→0 < t i:=fun i hi q=>by have:=a1 i hi q; rw[Bool.and_eq_true,decide_eq_true_eq]at this; exact this.2
  have hred:∀ S:SetB,n6 n (redB t A) S=n6 n t S-aD n A+aD n (fun i=>S i&&A i):=fun S=>sA t A S hpos;obtain⟨u,u1,u2⟩:=wG l (redB t A) (M-aD n A) (fun x hx=>hr x (List.mem_cons_of_mem _ hx)) (fun i hi=>by
   unfold redB;cases ha:A i with
   | false=>exact ht i hi
   | true=>rw[decide_eq_true (hpos i hi ha)]; have:=hpos i hi ha; show 0≤t i-1; omega) (fun S=>by
   have:=a3 S;have:=hred S;unfold n7 at *;omega)
  refine⟨u,.cons A ⟨fun i hi q=>by have:=a1 i hi q; rw[Bool.and_eq_true]at this; exact this.1,a2⟩ u1,?_⟩;have e:=hred fun _=>false;have e1:n6 n (redB t A) (fun _=>false)=sumN n (redB t A):=rfl;have e2:n6 n t (fun _=>false)=sumN n t:=rfl;have e3:aD n (fun i=>false&&A i)=0:=by
   unfold aD;generalize n=m
   induction m with
   | zero=>rfl
   | succ m ih=>rw[aE,ih]; rfl
  omega
theorem En {n:Nat}{l:List (Int×SetB)}{t u:Nat→Int}(h:LeftB n l t u)(ht:∀ i,i < n→0≤t i)(hr:∀ s∈l,0≤s.1)(S:SetB):(∀ i,i < n→0≤u i)∧sumN n t-sumN n u≤n7 n l t S:=by
 induction h with
 | nil t=>
  refine⟨ht,?_⟩;have:0≤n6 n t S:=by
   have:=dV (f:=fun _=>0) (g:=fun i=>cond (S i) 0 (t i)) (n:=n) fun k hk=>by have:=ht k hk; cases S k <;> simp <;> omega
   have e:∀ n,sumN n (fun _=>0)=0:=fun n=>by induction n with
    | zero=>rfl
    | succ n ih=>rw[aE,ih]; rfl
   rw[e]at this;exact this
  unfold n7 ctL; omega
 | @cons s l t u A hA k ih=>
  have ht':∀ i,i < n→0≤redB t A i:=fun i hi=>by
   have:=ht i hi;unfold redB;by_cases c:0 < t i
   ·rw[decide_eq_true c,Bool.and_true]; cases A i
    ·exact this
    ·show 0≤t i-1; omega
   ·rw[decide_eq_false c,Bool.and_false]; exact this
  obtain⟨i1,i2⟩:=ih ht' fun x hx=>hr x (List.mem_cons_of_mem _ hx);refine⟨i1,?_⟩;have e:redB t A=redB t (fun i=>A i&&decide (0 < t i)):=funext fun i=>by unfold redB; dsimp only; cases A i <;> cases decide (0 < t i) <;> rfl
  have hc:=fun S=>sA (n:=n) t (fun i=>A i&&decide (0 < t i)) S fun i _ q=>by rw[Bool.and_eq_true,decide_eq_true_eq]at q; exact q.2
  have h1:=hc S;have h2:=hc fun _=>false;rw[← e]at h1 h2;have e1:n6 n (redB t A) (fun _=>false)=sumN n (redB t A):=rfl;have e2:n6 n t (fun _=>false)=sumN n t:=rfl;have e3:aD n (fun i=>false&&(A i&&decide (0 < t i)))=0:=by
   unfold aD;generalize n=m
   induction m with
   | zero=>rfl
   | succ m ih=>rw[aE,ih]; rfl
  have h3:aD n (fun i=>S i&&(A i&&decide (0 < t i)))≤aD n (fun i=>S i&&s.2 i):=dR fun i hi q=>by
   simp only[Bool.and_eq_true]at q ⊢;exact⟨q.1,hA.1 i hi q.2.1⟩
  have h4:aD n (fun i=>S i&&(A i&&decide (0 < t i)))≤aD n A:=dR fun i hi q=>by
   simp only[Bool.and_eq_true]at q;exact q.2.1
  have h5:=hA.2;have e4:n7 n (s::l) t S=n6 n t S+(min s.1 (aD n fun i=>S i&&s.2 i)+ctL n S l):=rfl;have e5:n7 n l (redB t A) S=n6 n (redB t A) S+ctL n S l:=rfl;omega
theorem qT (n:Nat)(hn:n≤4)(S:SetB):∃ x:Nat,x < 2^n∧∀ i,i < n→cD (x:Int) (i:Int)=S i:=by
 have key:∀ a b c d:Bool,∃ x:Nat,x < 16∧cD (x:Int) 0=a∧cD (x:Int) 1=b∧cD (x:Int) 2=c∧cD (x:Int) 3=d:=by
  intro a b c d;cases a <;> cases b <;> cases c <;> cases d
  ·exact⟨0,by decide +kernel⟩
  ·exact⟨8,by decide +kernel⟩
  ·exact⟨4,by decide +kernel⟩
  ·exact⟨12,by decide +kernel⟩
  ·exact⟨2,by decide +kernel⟩
  ·exact⟨10,by decide +kernel⟩
  ·exact⟨6,by decide +kernel⟩
  ·exact⟨14,by decide +kernel⟩
  ·exact⟨1,by decide +kernel⟩
  ·exact⟨9,by decide +kernel⟩
  ·exact⟨5,by decide +kernel⟩
  ·exact⟨13,by decide +kernel⟩
  ·exact⟨3,by decide +kernel⟩
  ·exact⟨11,by decide +kernel⟩
  ·exact⟨7,by decide +kernel⟩
  ·exact⟨15,by decide +kernel⟩
 have low:∀ n:Nat,n < 5→∀ x:Nat,x < 16→(∀ i:Nat,i < 4→n≤i→cD (x:Int) (i:Int)=false)→x < 2^n:=by decide +kernel
 obtain⟨x,h0,h1,h2,h3,h4⟩:=key (decide (0 < n)&&S 0) (decide (1 < n)&&S 1) (decide (2 < n)&&S 2) (decide (3 < n)&&S 3);have hx:∀ i:Nat,i < 4→cD (x:Int) (i:Int)=(decide (i < n)&&S i):=fun i hi=>by
  have:i=0∨i=1∨i=2∨i=3:=by omega
  rcases this with rfl | rfl | rfl | rfl
  ·exact h1
  ·exact h2
  ·exact h3
  ·exact h4
 refine⟨x,low n (by omega) x h0 fun i hi hni=>?_,fun i hi=>?_⟩
 ·rw[hx i hi,decide_eq_false (by omega),Bool.false_and]
 ·rw[hx i (by omega),decide_eq_true hi,Bool.true_and]
def jg (n:Nat)(f:Nat→Int×SetB):Nat→Nat→List (Int×SetB)
 | _,0=>[]
 | k,m+1=>f k::jg n f (k+1) m
theorem sB {n:Nat}{S:SetB}{f:Nat→Int×SetB}:∀ m k,sumN k (fun j=>ua n S (f j))+ctL n S (jg n f k m)=sumN (k+m) (fun j=>ua n S (f j))
 | 0,k=>by simp only[jg,ctL,Nat.add_zero]; omega
 | m+1,k=>by
  have:=sB (n:=n) (S:=S) (f:=f) m (k+1);rw[aE]at this;rw[show k+(m+1)=k+1+m by omega,← this];simp only[jg,ctL];omega
def KT (c:bQ)(d:aX)(k:Nat):Int×SetB:=((ix c.1 (k:Int)).2.2,fun i=>jy c d i k)
def KU (c:bQ)(d:aX):List (Int×SetB):=jg c.2.length (KT c d) 0 c.1.length
theorem wH {c:bQ}{d:aX}{w:List Int}(hw:w.length=c.2.length)(x:Int):fH c d w x=n7 c.2.length (KU c d) (fun i=>ix w (i:Nat)) (fun i=>cD x (i:Nat)):=by
 have h:=sB (n:=c.2.length) (S:=fun i=>cD x (i:Nat)) (f:=KT c d) c.1.length 0;rw[show sumN 0 (fun j=>ua c.2.length (fun i=>cD x (i:Nat)) (KT c d j))=0 from rfl,Nat.zero_add,Int.zero_add]at h;unfold fH n7 KU;rw[h,hw];rfl
theorem yd {n:Nat}{t:Nat→Int}{S T:SetB}(h:∀ i,i < n→S i=T i):∀ l,n7 n l t S=n7 n l t T:=fun l=>by
 have e1:n6 n t S=n6 n t T:=aF fun i hi=>by first | rw[h i hi] | (dsimp only; rw[h i hi])
 have e2:ctL n S l=ctL n T l:=by
  induction l with
  | nil=>rfl
  | cons s l ih=>
   have:ua n S s=ua n T s:=by
    have:aD n (fun i=>S i&&s.2 i)=aD n (fun i=>T i&&s.2 i):=aF fun i hi=>by first | rw[h i hi] | (dsimp only; rw[h i hi])
    unfold ua; rw[this]
   simp only[ctL,this,ih]
 unfold n7; rw[e1,e2]
theorem sC {n:Nat}{f:Nat→Int×SetB}{s:Int×SetB}:∀ m k,s∈jg n f k m→∃ j,k≤j∧j < k+m∧s=f j
 | 0,k,h=>by cases h
 | m+1,k,h=>by
  rcases List.mem_cons.1 h with rfl | h
  ·exact⟨k,by omega,by omega,rfl⟩
  ·obtain⟨j,h1,h2,h3⟩:=sC m (k+1) h;exact⟨j,by omega,by omega,h3⟩
theorem ub {c:bQ}{d:aX}{w:List Int}(g:Good c w)(hw:w.length=c.2.length)(hn:c.2.length≤4):
  (∃ u,LeftB c.2.length (KU c d) (fun i=>ix w (i:Nat)) u∧ka c d w≤sumN c.2.length (fun i=>ix w (i:Nat))-sumN c.2.length u)
  ∧ ∀ u,LeftB c.2.length (KU c d) (fun i=>ix w (i:Nat)) u→sumN c.2.length (fun i=>ix w (i:Nat))-sumN c.2.length u≤ka c d w:=by
 have ht:∀ i,i < c.2.length→0≤ix w ((i:Nat):Int):=fun i hi=>(g.t i (by omega)).1;have hr:∀ s∈KU c d,0≤s.1:=fun s hs=>by
  obtain⟨j,_,h2,rfl⟩:=sC _ _ hs;exact(g.r j (by omega)).1
 refine⟨wG (KU c d) _ (ka c d w) hr ht fun S=>?_,fun u hu=>?_⟩
 ·obtain⟨x,h1,h2⟩:=qT c.2.length hn S;have:=oq (c:=c) (d:=d) (w:=w) (k:=x) h1;rw[wH hw]at this;rw[yd (T:=fun i=>cD (x:Int) (i:Nat)) fun i hi=>(h2 i hi).symm];exact this
 ·obtain⟨k,_,h2⟩:=sV (c:=c) (d:=d) (w:=w);rw[h2,wH hw];exact(En hu ht hr _).2
abbrev Mat:=List (List Int)
def Ph (M:Mat)(k i:Nat):Int:=ix (ix M (k:Int)) (i:Int)
theorem uc {α:Type}[Inhabited α](n k:Nat)(x:α)(h:k < n):ix (List.replicate n x) (k:Int)=x:=by
 rw[aQ,gw (by simpa using h),List.getElem_replicate]
theorem JH (c:bQ)(h1:c.1.length≤1000)(h2:c.2.length≤1000):P49 c=some (List.replicate c.1.length (List.replicate c.2.length 0)):=by
 have e:vP (0,c,[])=some (c,List.replicate c.1.length (List.replicate c.2.length 0)):=by
  refine aJ (step:=fun x=>F8 x.1 x.2.1 x.2.2) c.1.length (fun k=>((k:Int),c,List.replicate k (List.replicate c.2.length 0))) _ (fun k hk=>?_) ?_ (by omega)
  ·show pB (k:Int) c (List.replicate k (List.replicate c.2.length 0))=_;unfold pB;rw[au hk,cond_true,ah (decide_eq_true (by omega)),ah (decide_eq_true (by omega)),ah (cK (by simp; omega)),ah (aq (by omega)),← List.replicate_append_replicate];rfl
  ·show pB (c.1.length:Int) c _=_;unfold pB;rw[az,cond_false]
 show PZ vP c=_;unfold PZ;rw[e];rfl
theorem iC {σ ρ:Type}{step:σ→Option (σ⊕ρ)}(n:Nat)(R:Nat→σ→Prop)(Q:ρ→Prop)(x0:σ)(h0:R 0 x0)(h1:∀ k x,k < n→R k x→∃ y,step x=some (.inl y)∧R (k+1) y)
  (h2:∀ x,R n x→∃ r,step x=some (.inr r)∧Q r) (hn:n < 18446744073709551616):∃ r,af step x0=some r∧Q r:=by
 have key:∀ (d k m:Nat) (x:σ),k+d=n→d < m→R k x→∃ r,ee step m x=some r∧Q r:=by
  intro d
  induction d with
  | zero=>
   intro k m x hk hm hx;cases m with
   | zero=>omega
   | succ m=>
    have:k=n:=by omega
    subst this;obtain⟨r,h3,h4⟩:=h2 x hx;exact⟨r,by simp only[ee,h3],h4⟩
  | succ d ih=>
   intro k m x hk hm hx;cases m with
   | zero=>omega
   | succ m=>
    obtain⟨y,h3,h4⟩:=h1 k x (by omega) hx;obtain⟨r,h5,h6⟩:=ih (k+1) m y (by omega) (by omega) h4;exact⟨r,by simp only[ee,h3]; exact h5,h6⟩
 exact key n 0 _ x0 (by omega) hn h0
theorem iZ {α:Type}(k:List Int):be ([]:List (List Int×α)) k=none:=rfl
theorem n8 {α:Type}:∀ (m:List (List Int×α)) (k:List Int) (v:α) (q:List Int),be (di m k v) q=if q=k then some v else be m q
 | [],k,v,q=>by
  by_cases h:q=k
  ·subst h; simp[di,be]
  ·simp[di,be,h,Ne.symm h]
 | (a,u)::m,k,v,q=>by
  have ih:=n8 m k v q;by_cases e:a=k
  ·subst e;by_cases h:q=a
   ·subst h; simp[di,be]
   ·simp[di,be,h,Ne.symm h]
  ·by_cases h:a=q
   ·subst h; simp[di,be,e]
   ·simp only[di,if_neg e,be,List.find?_cons,h,decide_false]at ih ⊢;exact ih
theorem ye (m:List (List Int×Int))(k:List Int)(v:Int)(q:List Int):fl (be (di m k v) q) 0=if q=k then v else fl (be m q) 0:=by
 rw[n8]; split <;> rfl
theorem JI {a b:List Int}(hl:a.length=b.length)(h:∀ i,i < a.length→ix a (i:Nat)=ix b (i:Nat)):a=b:=by
 refine List.ext_getElem hl fun i h1 h2=>?_;have:=h i h1;rw[bp,bp,qX _ _ h1,qX _ _ h2]at this;exact this
def RowP (n:Nat)(F:Nat→Bool)(from':Nat)(room:Int)(x:List Int):Prop:=x.Pairwise (· < ·)∧(∀ y∈x,(from':Int)≤y∧y < n∧F y.toNat=true)∧(x.length:Int)≤max 0 room
theorem n9 (n:Nat)(F:Nat→Bool)(a:Nat)(room:Int):RowP n F a room []:=⟨.nil,fun y h=>(by cases h),by simp; omega⟩
theorem pX {n:Nat}{F:Nat→Bool}{a:Nat}{room:Int}{i:Nat}{r:List Int}(hr:0 < room)(ha:a≤i)(hi:i < n)(hF:F i=true):RowP n F (i+1) (room-1) r↔RowP n F a room ((i:Int)::r):=by
 unfold RowP;rw[List.pairwise_cons,List.length_cons];constructor
 ·rintro⟨h1,h2,h3⟩;refine⟨⟨fun y hy=>by have:=(h2 y hy).1; omega,h1⟩,fun y hy=>?_,by omega⟩;rcases List.mem_cons.1 hy with rfl | hy
  ·exact⟨by omega,by omega,by rw[Int.toNat_natCast]; exact hF⟩
  ·have:=h2 y hy; exact⟨by omega,this.2.1,this.2.2⟩
 ·rintro⟨⟨h0,h1⟩,h2,h3⟩;exact⟨h1,fun y hy=>by have:=h0 y hy; have h4:=h2 y (List.mem_cons_of_mem _ hy); exact⟨by omega,h4.2⟩,by omega⟩
theorem A1 (F:bQ×Int×Int×Int×Int×Mat→Option (Mat×Mat))(k:Nat)(room:Int)(i:Nat)(M:Mat)(c:bQ)(out rest:Mat)(h1:out.length+rest.length≤1000)(h2:∀ r∈rest,r.length≤1000):
  L60v1_1 F ((k:Int),room,(k:Int),(i:Int),0,M,c,out,rest)=some ((k:Int),room,(k:Int),(i:Int),M,c,rest,out++rest.map fun r=>(i:Int)::r):=by
 have key:=aJ (step:=fun x=>vV F x.1 x.2.1 x.2.2.1 x.2.2.2.1 x.2.2.2.2.1 x.2.2.2.2.2.1 x.2.2.2.2.2.2.1 x.2.2.2.2.2.2.2.1 x.2.2.2.2.2.2.2.2) rest.length (fun j=>((k:Int),room,(k:Int),(i:Int),(j:Int),M,c,out++(rest.take j).map (fun r=>(i:Int)::r),rest)) ((k:Int),room,(k:Int),(i:Int),M,c,rest,out++rest.map fun r=>(i:Int)::r)
  (fun j hj=>by
   show iX P55 F (k:Int) room (k:Int) (i:Int) (j:Int) M c (out++(rest.take j).map (fun r=>(i:Int)::r)) rest=_;unfold iX;have hm:ix rest (j:Int)∈rest:=by rw[aQ]; exact bT hj
   have:=h2 _ hm;rw[au hj,cond_true,ah (aj hj),ah (cK (by simp; omega)),ah (cK (by simp; omega)),ah (aq (by omega)),List.take_add_one,List.getElem?_eq_getElem hj,aQ,gw hj];simp only[Option.toList,List.map_append,List.map_cons,List.map_nil,← List.append_assoc];rfl)
  (by
   show iX P55 F (k:Int) room (k:Int) (i:Int) (rest.length:Int) M c _ rest=_;unfold iX;rw[az,cond_false,List.take_length];rfl)
  (by omega)
 have e:out++(rest.take 0).map (fun r=>(i:Int)::r)=out:=by simp
 rw[e]at key;exact key
section
variable {c:bQ} {M:Mat}
def gx (c:bQ)(M:Mat)(k i:Nat):Bool:=fF (bV c i) (sI c k)&&!decide (Ph M k i=1)
theorem A2 (d:Nat):2^(d+1)=2^d+2^d:=by rw[Nat.pow_succ]; omega
theorem wI {d:Nat}(h:d≤6):2^d≤64:=Nat.le_trans (Nat.pow_le_pow_right (by decide) h) (by decide)
theorem JJ {k:Nat}(hk:k < c.1.length)(hn:c.2.length≤6)(hM:(ix M (k:Int)).length=c.2.length):∀ (d a N:Nat) (room:Int),a+d=c.2.length→d < N→room≤100 →
  ∃ rows,R60v1 N (c,(k:Int),(a:Int),room,(k:Int),M)=some (M,rows)∧rows.length≤2^d∧∀ x,x∈rows↔RowP c.2.length (gx c M k) a room x:=by
 intro d
 induction d using Nat.strongRecOn with
 | _ d ih=>
 intro a N room had hdN hroom;obtain⟨N,rfl⟩:∃ N',N=N'+1:=⟨N-1,by omega⟩;have fin:∀ out,(∃ q,kM (R60v1 N) ((k:Int),room,(k:Int),(a:Int),M,c,[[]])=some q∧q=(M,c,out))→R60v1 (N+1) (c,(k:Int),(a:Int),room,(k:Int),M)=some (M,out):=fun out ⟨q,h1,h2⟩=>by
  subst h2;show vX P55 (R60v1 N) (kM (R60v1 N)) c (k:Int) (a:Int) room (k:Int) M=_;unfold vX;rw[show kM (R60v1 N) ((k:Int),room,(↑(Int.toNat (k:Int)):Int),(a:Int),M,c,[[]])=some (M,c,out)from h1];rfl
 by_cases hr0:room≤0
 ·refine⟨[[]],fin _ ⟨_,?_,rfl⟩,Nat.pow_pos (by decide),fun x=>?_⟩
  ·refine aJ (step:=fun x=>qM (R60v1 N) x.1 x.2.1 x.2.2.1 x.2.2.2.1 x.2.2.2.2.1 x.2.2.2.2.2.1 x.2.2.2.2.2.2) 0 (fun _=>((k:Int),room,(k:Int),(a:Int),M,c,[[]])) _ (fun i hi=>by omega) ?_ (by omega);show q60v1_0 P55 (R60v1 N) (L60v1_1 (R60v1 N)) (k:Int) room (k:Int) (a:Int) M c [[]]=_;unfold q60v1_0;cases decide ((a:Int) < (↑(List.length c.2):Int))with
   | false=>rfl
   | true=>rw[cond_true,decide_eq_false (by omega)]; rfl
  ·rw[List.mem_singleton];constructor
   ·rintro rfl; exact n9 _ _ _ _
   ·intro h;have:=h.2.2;exact List.eq_nil_of_length_eq_zero (by omega)
 ·obtain⟨q,e,out,he,hl,hmem⟩:=iC (step:=fun x=>qM (R60v1 N) x.1 x.2.1 x.2.2.1 x.2.2.2.1 x.2.2.2.2.1 x.2.2.2.2.2.1 x.2.2.2.2.2.2) d
   (fun j x=>∃ out,x=((k:Int),room,(k:Int),((a+j:Nat):Int),M,c,out)∧out.length+2^(d-j)≤2^d+1∧∀ x,x∈out↔RowP c.2.length (gx c M k) a room x∧∀ y,x.head?=some y→y < ((a+j:Nat):Int))
   (fun r=>∃ out,r=(M,c,out)∧out.length≤2^d∧∀ x,x∈out↔RowP c.2.length (gx c M k) a room x)
   ((k:Int),room,(k:Int),(a:Int),M,c,[[]]) ⟨[[]],rfl,by simp; omega,fun x=>by
    rw[List.mem_singleton];constructor
    ·rintro rfl; exact⟨n9 _ _ _ _,fun y h=>(by cases h)⟩
    ·rintro⟨h1,h2⟩;cases x with
     | nil=>rfl
     | cons y x=>
      have:=h2 y rfl;have:=(h1.2.1 y (by simp)).1;omega⟩
   (fun j x hj ⟨out,hx,hl,hmem⟩=>by
    subst hx;have hp:ix c.2 ((a+j:Nat):Int)=bV c (a+j):=bp _ _;have hsw:ix c.1 (k:Int)=sI c k:=bp _ _;have haj:a+j < c.2.length:=by omega
    have hd1:d-j=(d-(j+1))+1:=by omega
    have h2:=A2 (d-(j+1));have h64:=wI (d:=d) (by omega);rw[hd1,h2]at hl;have hpos:0 < 2^(d-(j+1)):=Nat.pow_pos (by decide);have no_fit:gx c M k (a+j)=false→∃ out',((k:Int),room,(k:Int),((a+j:Nat):Int)+1,M,c,out)=((k:Int),room,(k:Int),((a+(j+1):Nat):Int),M,c,out')∧out'.length+2^(d-(j+1))≤2^d+1∧∀ x,x∈out'↔RowP c.2.length (gx c M k) a room x∧∀ y,x.head?=some y→y < ((a+(j+1):Nat):Int):=fun hf=>by
     refine⟨out,rfl,by omega,fun x=>?_⟩;rw[hmem x];constructor
     ·rintro⟨g1,g2⟩; exact⟨g1,fun y hy=>by have:=g2 y hy; omega⟩
     ·rintro⟨g1,g2⟩;refine⟨g1,fun y hy=>?_⟩;have:=g2 y hy;have hyx:y∈x:=by cases x with
       | nil=>cases hy
       | cons z x=>cases hy; simp
      have h5:=(g1.2.1 y hyx).2.2;by_cases q:y=((a+j:Nat):Int)
      ·rw[q,Int.toNat_natCast,hf]at h5; cases h5
      ·omega
    show ∃ y,q60v1_0 P55 (R60v1 N) (L60v1_1 (R60v1 N)) (k:Int) room (k:Int) ((a+j:Nat):Int) M c out=_∧_;unfold q60v1_0;rw[au haj,cond_true,decide_eq_true (show(0:Int) < room by omega),cond_true,ah (aj haj),ah (aj hk),hp,hsw,uh,aa];cases hf:fF (bV c (a+j)) (sI c k)with
    | false=>
     rw[Bool.not_false,cond_true,ah (aq (by omega))];exact⟨_,rfl,no_fit (by unfold gx; rw[hf]; rfl)⟩
    | true=>
     rw[Bool.not_true,cond_false,ah (aj (by rw[hM]; exact haj))];by_cases hb:ix (ix M (k:Int)) ((a+j:Nat):Int)=1
     ·rw[decide_eq_true hb,cond_true,ah (aq (by omega))];exact⟨_,rfl,no_fit (by unfold gx Ph; rw[decide_eq_true hb,Bool.not_true,Bool.and_false])⟩
     ·have hF:gx c M k (a+j)=true:=by unfold gx Ph; rw[hf,decide_eq_false hb]; rfl
      obtain⟨rest,r1,r2,r3⟩:=ih (d-(j+1)) (by omega) (a+j+1) N (room-1) (by omega) (by omega) (by omega);rw[decide_eq_false hb,cond_false,ah (aq (by omega)),ah (bz (by omega) (by omega)),show R60v1 N (c,(k:Int),((a+j:Nat):Int)+1,room-1,(↑(Int.toNat (k:Int)):Int),M)=_ from r1,aa]
      dsimp only
      rw[show L60v1_1 (R60v1 N) ((k:Int),room,(↑(Int.toNat (k:Int)):Int),((a+j:Nat):Int),0,M,c,out,rest)=_ from A1 (R60v1 N) k room (a+j) M c out rest (by omega) (fun r hr=>by
       have:=((r3 r).1 hr).2.2; omega),aa]
      dsimp only
      rw[ah (aq (by omega))];refine⟨_,rfl,out++rest.map (fun r=>((a+j:Nat):Int)::r),rfl,by rw[List.length_append,List.length_map]; omega,fun x=>?_⟩;rw[List.mem_append,List.mem_map,hmem x];constructor
      ·rintro(⟨g1,g2⟩ | ⟨r,g1,rfl⟩)
       ·exact⟨g1,fun y hy=>by have:=g2 y hy; omega⟩
       ·exact⟨(pX (by omega) (by omega) haj hF).1 ((r3 r).1 g1),fun y hy=>by
         have:((a+j:Nat):Int)=y:=Option.some.inj hy;omega⟩
      ·rintro⟨g1,g2⟩;cases x with
       | nil=>left; exact⟨g1,fun y h=>(by cases h)⟩
       | cons y x=>
        have g3:=g2 y rfl;by_cases q:y=((a+j:Nat):Int)
        ·right;subst q;exact⟨x,(r3 x).2 ((pX (by omega) (by omega) haj hF).2 g1),rfl⟩
        ·left;exact⟨g1,fun z hz=>by have:y=z:=Option.some.inj hz; omega⟩)
   (fun x ⟨out,hx,hl,hmem⟩=>by
    subst hx;show ∃ r,q60v1_0 P55 (R60v1 N) (L60v1_1 (R60v1 N)) (k:Int) room (k:Int) ((a+d:Nat):Int) M c out=_∧_;unfold q60v1_0;rw[had,az,cond_false];refine⟨_,rfl,out,rfl,by rw[Nat.sub_self]at hl; omega,fun x=>?_⟩;rw[hmem x];constructor
    ·exact fun h=>h.1
    ·intro h;refine⟨h,fun y hy=>?_⟩;have hyx:y∈x:=by cases x with
      | nil=>cases hy
      | cons z x=>cases hy; simp
     have:=(h.2.1 y hyx).2.1;omega) (by have:=wI (d:=d) (by omega); omega)
  exact⟨out,fin out ⟨q,e,he⟩,hl,hmem⟩
theorem JK {k:Nat}(hk:k < c.1.length)(hn:c.2.length≤6)(hM:(ix M (k:Int)).length=c.2.length)(room:Int)(hr:room≤100):
  ∃ rows,P60v1 (c,(k:Int),0,room,(k:Int),M)=some (M,rows)∧rows.length≤2^c.2.length∧∀ x,x∈rows↔RowP c.2.length (gx c M k) 0 room x:=
 JJ hk hn hM c.2.length 0 18446744073709551616 room (by omega) (by omega) hr
end
def KV (w:List Int)(o:List Int)(y:Int):List Int:=List.set o y.toNat (min (ix w y) (ix o y+1))
def appl (w x o:List Int):List Int:=x.foldl (KV w) o
def uOf (w o:List Int)(i:Nat):Int:=ix w (i:Int)-ix o (i:Int)
structure OkO (n:Nat) (w o:List Int):Prop where
 len:o.length=n
 bd:∀ i:Nat,i < n→0≤ix o (i:Int)∧ix o (i:Int)≤ix w (i:Int)
theorem A3 {l:List Int}{i:Nat}(h:l.length≤i):ix l (i:Int)=0:=by rw[aQ,Lj h]; rfl
theorem A4 {n:Nat}{w o:List Int}(h:OkO n w o){j:Nat}(hj:j < n)(i:Nat):ix (KV w o (j:Int)) (i:Int)=if i=j then min (ix w (i:Int)) (ix o (i:Int)+1)else ix o (i:Int):=by
 unfold KV;rw[Int.toNat_natCast,aQ,eO _ _ _ _ (by rw[h.len]; exact hj)];by_cases e:i=j
 ·rw[if_pos e.symm,if_pos e,e]
 ·rw[if_neg (fun q=>e q.symm),if_neg e,aQ]
theorem JL {n:Nat}{w o:List Int}(h:OkO n w o){j:Nat}(hj:j < n):OkO n w (KV w o (j:Int)):=by
 refine⟨by unfold KV; rw[List.length_set,h.len],fun i hi=>?_⟩;rw[A4 h hj];have:=h.bd i hi;split <;> omega
theorem i5 {n:Nat}{w:List Int}:∀ {x o:List Int},OkO n w o→x.Pairwise (· < ·)→(∀ y∈x,(0:Int)≤y∧y < n) →
  OkO n w (appl w x o)∧∀ i:Nat,i < n→ix (appl w x o) (i:Int)=if(i:Int)∈x then min (ix w (i:Int)) (ix o (i:Int)+1)else ix o (i:Int)
 | [],o,h,_,_=>⟨h,fun i _=>by rw[if_neg (by simp)]; rfl⟩
 | y::x,o,h,hp,hx=>by
  rw[List.pairwise_cons]at hp;obtain⟨j,rfl⟩:∃ j:Nat,y=(j:Int):=⟨y.toNat,by have:=hx y (by simp); omega⟩;have hj:j < n:=by have:=hx (j:Int) (by simp); omega
  obtain⟨h1,h2⟩:=i5 (JL h hj) hp.2 fun z hz=>hx z (List.mem_cons_of_mem _ hz);refine⟨h1,fun i hi=>?_⟩;show ix (appl w x (KV w o (j:Int))) (i:Int)=_;rw[h2 i hi,A4 h hj];by_cases e:i=j
  ·subst e;have:(i:Int)∉x:=fun hm=>by have:=hp.1 _ hm; omega
   rw[if_neg this,if_pos rfl,if_pos (by simp)]
  ·rw[if_neg e];by_cases q:(i:Int)∈x
   ·rw[if_pos q,if_pos (List.mem_cons_of_mem _ q)]
   ·rw[if_neg q,if_neg (fun hm=>by
     rcases List.mem_cons.1 hm with h3 | h3
     ·omega
     ·exact q h3)]
theorem qU {n:Nat}{w o:List Int}(hw:w.length=n)(h:OkO n w o){i:Nat}(hi:n≤i):uOf w o i=0:=by
 unfold uOf;rw[A3 (by omega),A3 (by rw[h.len]; exact hi)];rfl
theorem oa {t:Nat→Int}{A:SetB}{i:Nat}(h:t i=0):redB t A i=0:=by
 unfold redB;rw[h,decide_eq_false (by omega),Bool.and_false];rfl
theorem sD {n:Nat}{w x o:List Int}(hw:w.length=n)(h:OkO n w o)(hp:x.Pairwise (· < ·))(hx:∀ y∈x,(0:Int)≤y∧y < n):uOf w (appl w x o)=redB (uOf w o) (fun i=>decide ((i:Int)∈x)):=by
 obtain⟨h1,h2⟩:=i5 h hp hx
 funext i
 by_cases hi:i < n
 ·have hb:=h.bd i hi;have h3:=h2 i hi;unfold redB uOf
  dsimp only
  rw[h3];by_cases q:(i:Int)∈x
  ·rw[if_pos q,decide_eq_true q,Bool.true_and];by_cases c:0 < ix w (i:Int)-ix o (i:Int)
   ·rw[decide_eq_true c,cond_true]; omega
   ·rw[decide_eq_false c,cond_false]; omega
  ·rw[if_neg q,decide_eq_false q,Bool.false_and,cond_false]
 ·rw[qU hw h1 (by omega),oa (qU hw h (by omega))]
theorem ue {n:Nat}{s:Int×SetB}{A:SetB}{l:List (Int×SetB)}{t u:Nat→Int}(h:LeftB n l t u)(hA:AZ n s A):LeftB n (l++[s]) t (redB u A):=by
 induction h with
 | nil t=>exact .cons A hA (.nil _)
 | cons B hB k ih=>exact .cons B hB ih
theorem pY {n:Nat}{s:Int×SetB}:∀ {l:List (Int×SetB)} {t v:Nat→Int},LeftB n (l++[s]) t v→∃ u A,LeftB n l t u∧AZ n s A∧v=redB u A
 | [],t,v,h=>by
  cases h with
  | cons A hA k=>
   cases k;exact⟨t,A,.nil t,hA,rfl⟩
 | a::l,t,v,h=>by
  cases h with
  | cons A hA k=>
   obtain⟨u,B,h1,h2,h3⟩:=pY k;exact⟨u,B,.cons A hA h1,h2,h3⟩
theorem pZ {n:Nat}{f:Nat→Int×SetB}:∀ m k,jg n f k (m+1)=jg n f k m++[f (k+m)]
 | 0,k=>rfl
 | m+1,k=>by
  show f k::jg n f (k+1) (m+1)=f k::(jg n f (k+1) m++[f (k+(m+1))]);rw[pZ m (k+1),show k+1+m=k+(m+1)by omega]
theorem iD {n:Nat}{f g:Nat→Int×SetB}:∀ {m k:Nat} {t u:Nat→Int},(∀ j,k≤j→j < k+m→(f j).1=(g j).1∧∀ i,i < n→(f j).2 i=(g j).2 i)→LeftB n (jg n f k m) t u→LeftB n (jg n g k m) t u
 | 0,k,t,u,_,h=>h
 | m+1,k,t,u,hc,h=>by
  cases h with
  | cons A hA q=>
   have h0:=hc k (Nat.le_refl _) (by omega);exact .cons A ⟨fun i hi hAi=>by rw[← h0.2 i hi]; exact hA.1 i hi hAi,by rw[← h0.1]; exact hA.2⟩ (iD (fun j h1 h2=>hc j (by omega) (by omega)) q)
def jw (A:SetB):Nat→List Int
 | 0=>[]
 | m+1=>cond (A m) (jw A m++[(m:Int)]) (jw A m)
theorem i6 {A:SetB}{y:Int}:∀ m,y∈jw A m↔∃ i:Nat,i < m∧A i=true∧y=(i:Int)
 | 0=>by
  constructor
  ·intro h; cases h
  ·rintro⟨i,h,_⟩; omega
 | m+1=>by
  have ih:=i6 (A:=A) (y:=y) m;rw[jw];cases ha:A m with
  | false=>
   rw[cond_false,ih];constructor
   ·rintro⟨i,h1,h2⟩; exact⟨i,by omega,h2⟩
   ·rintro⟨i,h1,h2,h3⟩;by_cases e:i=m
    ·rw[e,ha]at h2; cases h2
    ·exact⟨i,by omega,h2,h3⟩
  | true=>
   rw[cond_true,List.mem_append,ih,List.mem_singleton];constructor
   ·rintro(⟨i,h1,h2⟩ | rfl)
    ·exact⟨i,by omega,h2⟩
    ·exact⟨m,by omega,ha,rfl⟩
   ·rintro⟨i,h1,h2,h3⟩;by_cases e:i=m
    ·right; rw[h3,e]
    ·left; exact⟨i,by omega,h2,h3⟩
theorem lL {A:SetB}:∀ m,(jw A m).Pairwise (· < ·)
 | 0=>.nil
 | m+1=>by
  rw[jw];cases A m with
  | false=>exact lL m
  | true=>
   rw[cond_true,List.pairwise_append];refine⟨lL m,by simp,fun a ha b hb=>?_⟩;obtain⟨i,h1,_,rfl⟩:=(i6 m).1 ha;rw[List.mem_singleton.1 hb];omega
theorem qc {A:SetB}:∀ m,((jw A m).length:Int)=aD m A
 | 0=>rfl
 | m+1=>by
  have:=qc (A:=A) m;unfold aD at *;rw[jw,aE];cases A m with
  | false=>rw[cond_false,this]; show _=_+0; omega
  | true=>rw[cond_true,List.length_append]; show((_+1:Nat):Int)=_+1; omega
theorem A5 (y:Int):∀ n,sumN n (fun i=>cr (decide ((i:Int)=y)))≤1∧((n:Int)≤y→sumN n (fun i=>cr (decide ((i:Int)=y)))=0)
 | 0=>⟨by show(0:Int)≤1; decide,fun _=>rfl⟩
 | n+1=>by
  have ih:=A5 y n;rw[aE];by_cases e:(n:Int)=y
  ·rw[decide_eq_true e];have:=ih.2 (by omega);have:cr true=1:=rfl;exact⟨by omega,fun h=>by omega⟩
  ·rw[decide_eq_false e];have:cr false=0:=rfl;exact⟨by omega,fun h=>by have:=ih.2 (by omega); omega⟩
theorem sE (n:Nat):∀ x:List Int,aD n (fun i=>decide ((i:Int)∈x))≤x.length
 | []=>by
  have:aD n (fun i=>decide ((i:Int)∈([]:List Int)))=0:=by
   unfold aD
   induction n with
   | zero=>rfl
   | succ n ih=>rw[aE,ih]; rfl
  rw[this]; exact Int.le_refl _
 | y::x=>by
  have ih:=sE n x;have h1:=(A5 y n).1;have h2:aD n (fun i=>decide ((i:Int)∈y::x))≤sumN n (fun i=>cr (decide ((i:Int)=y))+cr (decide ((i:Int)∈x))):=dV fun i _=>by
   dsimp only
   by_cases e:(i:Int)=y
   ·have:=fZ (decide ((i:Int)∈x));have:=fZ (decide ((i:Int)∈y::x));rw[decide_eq_true e];have:cr true=1:=rfl;omega
   ·have:decide ((i:Int)∈y::x)=decide ((i:Int)∈x):=by simp[e]
    rw[this];have:=fZ (decide ((i:Int)=y));omega
  rw[cU]at h2;have h3:sumN n (fun i=>cr (decide ((i:Int)∈x)))=aD n (fun i=>decide ((i:Int)∈x)):=rfl;rw[List.length_cons];omega
theorem A6 {l:Mat}{o:List Int}{i:Nat}(hi:i < l.length)(hl:(ix l (i:Int)).length=o.length)(ho:o.length≤1000):sg ((i:Int),true,0,l,o)=some ((i:Int),decide (ix l (i:Int)=o),l,o):=by
 have key:=aJ (step:=fun x=>Gh x.1 x.2.1 x.2.2.1 x.2.2.2.1 x.2.2.2.2) o.length (fun k=>((i:Int),bZ k (fun j=>decide (ix (ix l (i:Int)) (j:Int)=ix o (j:Int))),(k:Int),l,o)) ((i:Int),bZ o.length (fun j=>decide (ix (ix l (i:Int)) (j:Int)=ix o (j:Int))),l,o)
  (fun k hk=>by
   show pC (i:Int) (bZ k (fun j=>decide (ix (ix l (i:Int)) (j:Int)=ix o (j:Int)))) (k:Int) l o=_;unfold pC;rw[au hk,cond_true];simp only[bZ];cases bZ k (fun j=>decide (ix (ix l (i:Int)) (j:Int)=ix o (j:Int)))with
   | true=>rw[cond_true,ah (aj hi),ah (aj (by omega)),ah (aj hk),ah (aq (by omega)),Bool.true_and]; rfl
   | false=>rw[cond_false,ah (aq (by omega)),Bool.false_and]; rfl)
  (by
   show pC (i:Int) _ (o.length:Int) l o=_;unfold pC;rw[az,cond_false])
  (by omega)
 have e:bZ o.length (fun j=>decide (ix (ix l (i:Int)) (j:Int)=ix o (j:Int)))=decide (ix l (i:Int)=o):=by
  rw[Bool.eq_iff_iff,bU,decide_eq_true_eq];constructor
  ·intro h; exact JI hl fun j hj=>of_decide_eq_true (h j (by omega))
  ·intro h j _; rw[h]; exact decide_eq_true rfl
 rw[e]at key;exact key
theorem JM {n:Nat}{l:Mat}{o:List Int}(hl:∀ x∈l,x.length=n)(ho:o.length=n)(hn:n≤1000)(hs:l.length≤100000000):∃ l',P61 (l,o)=some l'∧(∀ x,x∈l'↔x∈l∨x=o)∧l'.length≤l.length+1:=by
 have hrow:∀ i:Nat,i < l.length→(ix l (i:Int)).length=o.length:=fun i hi=>by rw[aQ,hl _ (bT hi),ho]
 rcases jV (step:=fun x=>Gj x.1 x.2.1 x.2.2) l.length (fun k=>((k:Int),l,o)) (fun k=>decide (ix l (k:Int)=o)) (fun _=>Sum.inl (l,o)) (Sum.inr (l,o))
  (fun k hk _=>by
   show pD sg (k:Int) l o=_;unfold pD;rw[au hk,cond_true,A6 hk (hrow k hk) (by omega),aa]
   dsimp only
   cases decide (ix l (k:Int)=o)with
   | true=>rfl
   | false=>rw[cond_false,ah (aq (by omega))]; rfl)
  (fun _=>by
   show pD sg (l.length:Int) l o=_;unfold pD;rw[az,cond_false]) (by omega)with⟨k,h1,h2,h3,h4⟩ | ⟨h3,h4⟩
 ·refine⟨l,?_,fun x=>⟨.inl,fun h=>?_⟩,by omega⟩
  ·show Kz pE l o=_;unfold Kz;rw[show pE (0,l,o)=_ from h4];rfl
  ·rcases h with h | rfl
   ·exact h
   ·rw[← of_decide_eq_true h2,aQ]; exact bT h1
 ·refine⟨l++[o],?_,fun x=>by rw[List.mem_append,List.mem_singleton],by simp⟩;show Kz pE l o=_;unfold Kz;rw[show pE (0,l,o)=_ from h4];show aA (cf 24 (l.length+[o].length)) _=_;rw[ah (cK (by simp; omega))]
section
variable {c:bQ} {M:Mat} {w:List Int} {n:Nat}
theorem A7 (day s:Int)(i k:Nat)(now rows next:Mat){o:List Int}(hw:w.length=n)(hwb:∀ i:Nat,i < n→ix w (i:Int)≤100)(ho:OkO n w o)(hk:k < rows.length)(hp:(ix rows (k:Int)).Pairwise (· < ·))(hx:∀ y∈ix rows (k:Int),(0:Int)≤y∧y < n)(hl:(ix rows (k:Int)).length≤1000):
  L47_4 (day,s,(i:Int),(k:Int),0,w,M,c,now,rows,next,o)=some (day,s,(i:Int),(k:Int),w,M,c,now,rows,next,appl w (ix rows (k:Int)) o):=by
 have key:=aJ (step:=fun x=>GA x.1 x.2.1 x.2.2.1 x.2.2.2.1 x.2.2.2.2.1 x.2.2.2.2.2.1 x.2.2.2.2.2.2.1 x.2.2.2.2.2.2.2.1 x.2.2.2.2.2.2.2.2.1 x.2.2.2.2.2.2.2.2.2.1 x.2.2.2.2.2.2.2.2.2.2.1 x.2.2.2.2.2.2.2.2.2.2.2) (ix rows (k:Int)).length
  (fun j=>(day,s,(i:Int),(k:Int),(j:Int),w,M,c,now,rows,next,appl w ((ix rows (k:Int)).take j) o)) (day,s,(i:Int),(k:Int),w,M,c,now,rows,next,appl w (ix rows (k:Int)) o)
  (fun j hj=>by
   show pF P60v1 P61 day s (i:Int) (k:Int) (j:Int) w M c now rows next (appl w ((ix rows (k:Int)).take j) o)=_
   unfold pF;have hsub:((ix rows (k:Int)).take j).Sublist (ix rows (k:Int)):=List.take_sublist _ _;have hok:=(i5 ho (hp.sublist hsub) fun y hy=>hx y (hsub.subset hy)).1;have hm:ix (ix rows (k:Int)) (j:Int)∈ix rows (k:Int):=by rw[aQ]; exact bT hj
   obtain⟨y,hy⟩:∃ y:Nat,ix (ix rows (k:Int)) (j:Int)=(y:Int):=⟨(ix (ix rows (k:Int)) (j:Int)).toNat,by have:=hx _ hm; omega⟩;have hyn:y < n:=by have:=hx _ hm; omega
   have hb:=hok.bd y hyn;have hwy:=hwb y hyn;have hlo:=hok.len;rw[ah (aj hk),au hj,cond_true,ah (aj hk),ah (aj hj),ah (aj hk),ah (aj hj),hy,ah (aj (by omega)),ah (aj hk),ah (aj hj),ah (aj (by omega)),ah (bz (by omega) (by omega)),ah (aj (by omega)),ah (aq (by omega)),
    List.take_add_one,List.getElem?_eq_getElem hj]
   have e:(ix rows (k:Int))[j]=(y:Int):=by rw[← hy,aQ (ix rows (k:Int)),gw hj]
   rw[e];unfold appl;rw[Option.toList,List.foldl_append];rfl)
  (by
   show pF P60v1 P61 day s (i:Int) (k:Int) ((ix rows (k:Int)).length:Int) w M c now rows next _=_
   unfold pF;rw[ah (aj hk),az,cond_false,List.take_length])
  (by omega)
 exact key
structure RowsI (n:Nat) (rows:Mat):Prop where
 len:rows.length≤16
 row:∀ r∈rows,r.Pairwise (· < ·)∧(∀ y∈r,(0:Int)≤y∧y < n)∧r.length≤1000
theorem A8 (day s:Int)(i:Nat){now rows next:Mat}(hw:w.length=n)(hn:n≤4)(hwb:∀ i:Nat,i < n→ix w (i:Int)≤100)(hi:i < now.length)(ho:OkO n w (ix now (i:Int)))(hr:RowsI n rows)(hx:∀ x∈next,x.length=n)(hl:next.length≤20000000):
  ∃ next',L47_3 (day,s,(i:Int),0,w,M,c,now,rows,next)=some (day,s,(i:Int),w,M,c,now,rows,next')∧next'.length≤next.length+16∧(∀ x,x∈next'↔x∈next∨∃ r∈rows,x=appl w r (ix now (i:Int))):=by
 have okr:∀ r∈rows,OkO n w (appl w r (ix now (i:Int))):=fun r hm=>(i5 ho (hr.row r hm).1 (hr.row r hm).2.1).1;obtain⟨q,e,next',he,h1,h2⟩:=iC (step:=fun x=>GC x.1 x.2.1 x.2.2.1 x.2.2.2.1 x.2.2.2.2.1 x.2.2.2.2.2.1 x.2.2.2.2.2.2.1 x.2.2.2.2.2.2.2.1 x.2.2.2.2.2.2.2.2.1 x.2.2.2.2.2.2.2.2.2) rows.length
  (fun k x=>∃ nx,x=(day,s,(i:Int),(k:Int),w,M,c,now,rows,nx)∧nx.length≤next.length+k∧(∀ x∈nx,x.length=n)∧(∀ x,x∈nx↔x∈next∨∃ j:Nat,j < k∧x=appl w (ix rows (j:Int)) (ix now (i:Int))))
  (fun r=>∃ nx,r=(day,s,(i:Int),w,M,c,now,rows,nx)∧nx.length≤next.length+16∧(∀ x,x∈nx↔x∈next∨∃ r∈rows,x=appl w r (ix now (i:Int))))
  (day,s,(i:Int),0,w,M,c,now,rows,next) ⟨next,rfl,by omega,hx,fun x=>⟨.inl,fun h=>by
   rcases h with h | ⟨j,h,_⟩
   ·exact h
   ·omega⟩⟩
  (fun k x hk ⟨nx,hxe,g1,g2,g3⟩=>by
   subst hxe;have hm:ix rows (k:Int)∈rows:=by rw[aQ]; exact bT hk
   obtain⟨r1,r2,r3⟩:=hr.row _ hm;have hrl:=hr.len;obtain⟨nx',a1,a2,a3⟩:=JM (n:=n) (l:=nx) (o:=appl w (ix rows (k:Int)) (ix now (i:Int))) g2 (okr _ hm).len (by omega) (by omega);show ∃ y,q47_3 P60v1 P61 L47_4 day s (i:Int) (k:Int) w M c now rows nx=_∧_;unfold q47_3;rw[au hk,cond_true,ah (aj hi),ah (cK (by rw[ho.len]; simp; omega)),List.nil_append,A7 day s i k now rows nx hw hwb ho hk r1 r2 r3,aa]
   dsimp only
   rw[a1,aa,ah (aq (by omega))];refine⟨_,rfl,nx',rfl,by omega,fun x hx'=>?_,fun x=>?_⟩
   ·rcases(a2 x).1 hx' with h | rfl
    ·exact g2 x h
    ·exact(okr _ hm).len
   ·rw[a2 x,g3 x];constructor
    ·rintro((h | ⟨j,h,h'⟩) | h)
     ·exact .inl h
     ·exact .inr ⟨j,by omega,h'⟩
     ·exact .inr ⟨k,by omega,h⟩
    ·rintro(h | ⟨j,h,h'⟩)
     ·exact .inl (.inl h)
     ·by_cases q:j=k
      ·right; rw[h',q]
      ·exact .inl (.inr ⟨j,by omega,h'⟩))
  (fun x ⟨nx,hxe,g1,g2,g3⟩=>by
   subst hxe;show ∃ r,q47_3 P60v1 P61 L47_4 day s (i:Int) (rows.length:Int) w M c now rows nx=_∧_;unfold q47_3;rw[az,cond_false];have hrl:=hr.len;refine⟨_,rfl,nx,rfl,by omega,fun x=>?_⟩;rw[g3 x];constructor
   ·rintro(h | ⟨j,h,h'⟩)
    ·exact .inl h
    ·exact .inr ⟨ix rows (j:Int),by rw[aQ]; exact bT h,h'⟩
   ·rintro(h | ⟨r,h,h'⟩)
    ·exact .inl h
    ·obtain⟨j,hj,rfl⟩:=fC h;exact .inr ⟨j,hj,by rw[aQ]; exact h'⟩) (by have:=hr.len; omega)
 subst he;exact⟨next',e,h1,h2⟩
theorem A9 (day s:Int){now rows:Mat}(hw:w.length=n)(hn:n≤4)(hwb:∀ i:Nat,i < n→ix w (i:Int)≤100)(ho:∀ o∈now,OkO n w o)(hnl:now.length≤1048576)(hr:RowsI n rows):
  ∃ next,L47_2 (day,s,0,w,M,c,now,rows,[])=some (day,s,w,M,c,now,rows,next)∧next.length≤16*now.length∧(∀ x,x∈next↔∃ o∈now,∃ r∈rows,x=appl w r o):=by
 have okr:∀ o∈now,∀ r∈rows,OkO n w (appl w r o):=fun o hmo r hm=>(i5 (ho o hmo) (hr.row r hm).1 (hr.row r hm).2.1).1;obtain⟨q,e,next',he,h1,h2⟩:=iC (step:=fun x=>GE x.1 x.2.1 x.2.2.1 x.2.2.2.1 x.2.2.2.2.1 x.2.2.2.2.2.1 x.2.2.2.2.2.2.1 x.2.2.2.2.2.2.2.1 x.2.2.2.2.2.2.2.2) now.length
  (fun k x=>∃ nx,x=(day,s,(k:Int),w,M,c,now,rows,nx)∧nx.length≤16*k∧(∀ x,x∈nx↔∃ j:Nat,j < k∧∃ r∈rows,x=appl w r (ix now (j:Int))))
  (fun r=>∃ nx,r=(day,s,w,M,c,now,rows,nx)∧nx.length≤16*now.length∧(∀ x,x∈nx↔∃ o∈now,∃ r∈rows,x=appl w r o))
  (day,s,0,w,M,c,now,rows,[]) ⟨[],rfl,by simp,fun x=>⟨fun h=>(by cases h),fun⟨j,h,_⟩=>by omega⟩⟩
  (fun k x hk ⟨nx,hxe,g1,g3⟩=>by
   subst hxe;have hm:ix now (k:Int)∈now:=by rw[aQ]; exact bT hk
   obtain⟨nx',a1,a2,a3⟩:=A8 (M:=M) (c:=c) day s k (now:=now) (rows:=rows) (next:=nx) hw hn hwb hk (ho _ hm) hr (fun x hx=>by
    obtain⟨j,h,r,h',rfl⟩:=(g3 x).1 hx;exact(okr _ (by rw[aQ]; exact bT (by omega)) r h').len) (by omega)
   show ∃ y,q47_2 P60v1 P61 L47_3 day s (k:Int) w M c now rows nx=_∧_;unfold q47_2;rw[au hk,cond_true,a1,aa]
   dsimp only
   rw[ah (aq (by omega))];refine⟨_,rfl,nx',rfl,by omega,fun x=>?_⟩;rw[a3 x,g3 x];constructor
   ·rintro(⟨j,h,h'⟩ | ⟨r,h,h'⟩)
    ·exact⟨j,by omega,h'⟩
    ·exact⟨k,by omega,r,h,h'⟩
   ·rintro⟨j,h,r,h',h2⟩;by_cases q:j=k
    ·right; rw[q]at h2; exact⟨r,h',h2⟩
    ·left; exact⟨j,by omega,r,h',h2⟩)
  (fun x ⟨nx,hxe,g1,g3⟩=>by
   subst hxe;show ∃ r,q47_2 P60v1 P61 L47_3 day s (now.length:Int) w M c now rows nx=_∧_;unfold q47_2;rw[az,cond_false];refine⟨_,rfl,nx,rfl,g1,fun x=>?_⟩;rw[g3 x];constructor
   ·rintro⟨j,h,h'⟩; exact⟨ix now (j:Int),by rw[aQ]; exact bT h,h'⟩
   ·rintro⟨o,h,h'⟩;obtain⟨j,hj,rfl⟩:=fC h;exact⟨j,hj,by rw[aQ]; exact h'⟩) (by omega)
 subst he;exact⟨next',e,h1,h2⟩
end
def jx (c:bQ)(day:Int)(k:Nat):Int:=if(sI c k).1 < day then 0 else(sI c k).2.2
def fB (c:bQ)(M:Mat)(day:Int)(k:Nat):Int×SetB:=(jx c day k,gx c M k)
theorem H3 {k:Nat}(h:k≤5):16^k≤1048576:=Nat.le_trans (Nat.pow_le_pow_right (by decide) h) (by decide)
structure NowI (n:Nat) (w:List Int) (l:List (Int×SetB)) (now:Mat):Prop where
 ok:∀ o∈now,OkO n w o∧LeftB n l (fun i=>ix w (i:Nat)) (uOf w o)
 all:∀ u,LeftB n l (fun i=>ix w (i:Nat)) u→∃ o∈now,u=uOf w o
 ne:∃ o,o∈now
theorem H4 {n:Nat}(w o:List Int):sumN n (uOf w o)=sumN n (fun i=>ix w (i:Nat))-sumN n (fun i=>ix o (i:Nat)):=by
 have:=cU (uOf w o) (fun i=>ix o (i:Nat)) n;have e:sumN n (fun i=>uOf w o i+ix o (i:Nat))=sumN n (fun i=>ix w (i:Nat)):=aF fun i _=>by
  show ix w (i:Nat)-ix o (i:Nat)+ix o (i:Nat)=_; omega
 omega
section
variable {c:bQ} {M:Mat} {w:List Int} {n:Nat}
theorem NowI.next {now rows next:Mat}{s:Int×SetB}{l:List (Int×SetB)}(hw:w.length=n)(h:NowI n w l now)(hs:0≤s.1)(hr:∀ x,x∈rows↔RowP n s.2 0 s.1 x)(hx:∀ x,x∈next↔∃ o∈now,∃ r∈rows,x=appl w r o):NowI n w (l++[s]) next:=by
 have hrow:∀ r∈rows,r.Pairwise (· < ·)∧(∀ y∈r,(0:Int)≤y∧y < n):=fun r hm=>by
  have:=(hr r).1 hm;exact⟨this.1,fun y hy=>by have:=this.2.1 y hy; omega⟩
 refine⟨fun x hm=>?_,fun u hu=>?_,?_⟩
 ·obtain⟨o,ho,r,hrm,rfl⟩:=(hx x).1 hm;obtain⟨h1,h2⟩:=h.ok o ho;obtain⟨r1,r2⟩:=hrow r hrm;refine⟨(i5 h1 r1 r2).1,?_⟩;rw[sD hw h1 r1 r2];refine ue h2 ⟨fun i hi hA=>?_,?_⟩
  ·have:=(((hr r).1 hrm).2.1 (i:Int) (of_decide_eq_true hA)).2.2
   rwa [Int.toNat_natCast]at this
  ·have h3:=sE n r;have h4:=((hr r).1 hrm).2.2;omega
 ·obtain⟨u',A,h1,h2,h3⟩:=pY hu;obtain⟨o,ho,rfl⟩:=h.all u' h1;have hrm:jw A n∈rows:=(hr _).2 ⟨lL n,fun y hy=>by
   obtain⟨i,hi,hA,rfl⟩:=(i6 n).1 hy;exact⟨by omega,by omega,by rw[Int.toNat_natCast]; exact h2.1 i hi hA⟩,by rw[qc]; have:=h2.2; omega⟩
  obtain⟨r1,r2⟩:=hrow _ hrm;have hok:=(h.ok o ho).1;refine⟨_,(hx _).2 ⟨o,ho,_,hrm,rfl⟩,?_⟩;rw[h3,sD hw hok r1 r2]
  funext i
  by_cases hi:i < n
  ·have:decide ((i:Int)∈jw A n)=A i:=by
    rw[Bool.eq_iff_iff,decide_eq_true_eq,i6];constructor
    ·rintro⟨j,hj,hA,e⟩;have:i=j:=by omega
     rw[this]; exact hA
    ·intro hA; exact⟨i,hi,hA,rfl⟩
   unfold redB
   dsimp only
   rw[this]
  ·rw[oa (qU hw hok (by omega)),oa (qU hw hok (by omega))]
 ·obtain⟨o,ho⟩:=h.ne;exact⟨_,(hx _).2 ⟨o,ho,[],(hr _).2 (n9 _ _ _ _),rfl⟩⟩
theorem Ba (most:Int){now:Mat}{i:Nat}(hi:i < now.length)(hn:n≤4)(hb:∀ j:Nat,j < n→0≤ix (ix now (i:Int)) (j:Int)∧ix (ix now (i:Int)) (j:Int)≤100)(hl:(ix now (i:Int)).length=n):
  L47_6 (most,(i:Int),0,0,now)=some (most,(i:Int),sumN n (fun j=>ix (ix now (i:Int)) (j:Nat)),now):=by
 refine aJ (step:=fun x=>GI x.1 x.2.1 x.2.2.1 x.2.2.2.1 x.2.2.2.2) n (fun k=>(most,(i:Int),sumN k (fun j=>ix (ix now (i:Int)) (j:Nat)),(k:Int),now)) _ (fun k hk=>?_) ?_ (by omega)
 ·show pG P60v1 P61 most (i:Int) (sumN k (fun j=>ix (ix now (i:Int)) (j:Nat))) (k:Int) now=_;unfold pG;have hs:=dd (f:=fun j=>ix (ix now (i:Int)) (j:Nat)) (a:=0) (b:=100) (n:=k) fun j hj=>hb j (by omega);have hk':=hb k hk;rw[ah (aj hi),au (by omega),cond_true,ah (aj hi),ah (aj (by omega)),ah (bz (by omega) (by omega)),ah (aq (by omega))];rfl
 ·show pG P60v1 P61 most (i:Int) (sumN n (fun j=>ix (ix now (i:Int)) (j:Nat))) (n:Int) now=_;unfold pG;rw[ah (aj hi),decide_eq_false (by omega),cond_false]
theorem Bb {now:Mat}(hn:n≤4)(hb:∀ o∈now,o.length=n∧∀ j:Nat,j < n→0≤ix o (j:Int)∧ix o (j:Int)≤100)(hnl:now.length≤100000000)(ne:∃ o,o∈now):
  ∃ most,v5 (0,0,now)=some (most,now)∧(∀ o∈now,sumN n (fun j=>ix o (j:Nat))≤most)∧∃ o∈now,most=sumN n (fun j=>ix o (j:Nat)):=by
 obtain⟨q,e,most,he,h1,h2⟩:=iC (step:=fun x=>GK x.1 x.2.1 x.2.2) now.length
  (fun k x=>∃ most,x=(most,(k:Int),now)∧(0≤most∧most≤400)∧(∀ j:Nat,j < k→sumN n (fun i=>ix (ix now (j:Int)) (i:Nat))≤most)∧(most=0∨∃ j:Nat,j < k∧most=sumN n (fun i=>ix (ix now (j:Int)) (i:Nat))))
  (fun r=>∃ most,r=(most,now)∧(∀ o∈now,sumN n (fun j=>ix o (j:Nat))≤most)∧∃ o∈now,most=sumN n (fun j=>ix o (j:Nat)))
  (0,0,now) ⟨0,rfl,by omega,fun j h=>by omega,.inl rfl⟩
  (fun k x hk ⟨most,hx,g1,g2,g3⟩=>by
   subst hx;have hm:ix now (k:Int)∈now:=by rw[aQ]; exact bT hk
   obtain⟨b1,b2⟩:=hb _ hm;have hs:=dd (f:=fun j=>ix (ix now (k:Int)) (j:Nat)) (a:=0) (b:=100) (n:=n) fun j hj=>b2 j hj;show ∃ y,q47_5 P60v1 P61 L47_6 most (k:Int) now=_∧_;unfold q47_5;rw[au hk,cond_true,Ba most hk hn b2 b1,aa]
   dsimp only
   rw[ah (aq (by omega))];refine⟨_,rfl,_,rfl,by omega,fun j hj=>?_,?_⟩
   ·by_cases q:j=k
    ·rw[q]; omega
    ·have:=g2 j (by omega); omega
   ·rcases g3 with g3 | ⟨j,h,h'⟩
    ·by_cases q:sumN n (fun i=>ix (ix now (k:Int)) (i:Nat))=0
     ·left; omega
     ·right; exact⟨k,by omega,by omega⟩
    ·by_cases q:most≤sumN n (fun i=>ix (ix now (k:Int)) (i:Nat))
     ·right; exact⟨k,by omega,by omega⟩
     ·right; exact⟨j,by omega,by omega⟩)
  (fun x ⟨most,hx,g1,g2,g3⟩=>by
   subst hx;show ∃ r,q47_5 P60v1 P61 L47_6 most (now.length:Int) now=_∧_;unfold q47_5;rw[az,cond_false];have up:∀ o∈now,sumN n (fun j=>ix o (j:Nat))≤most:=fun o ho=>by
    obtain⟨j,hj,rfl⟩:=fC ho;rw[← aQ];exact g2 j hj
   refine⟨_,rfl,most,rfl,up,?_⟩;rcases g3 with g3 | ⟨j,h,h'⟩
   ·obtain⟨o,ho⟩:=ne;have hs:=dd (f:=fun j=>ix o (j:Nat)) (a:=0) (b:=100) (n:=n) fun j hj=>(hb o ho).2 j hj;have:=up o ho;exact⟨o,ho,by omega⟩
   ·exact⟨ix now (j:Int),by rw[aQ]; exact bT h,h'⟩) (by omega)
 subst he;exact⟨most,e,h1,h2⟩
theorem JN (hv:aP c=true)(h5:c.1.length≤5)(h4:c.2.length≤4)(hw:w.length=c.2.length)(hwb:∀ i:Nat,i < c.2.length→0≤ix w (i:Int)∧ix w (i:Int)≤100)(hM:M.length=c.1.length)(hr:∀ k:Nat,k < c.1.length→(ix M (k:Int)).length=c.2.length)(day:Int):
  ∃ most,P47 (c,day,w,M)=some (most,w,M)∧(∀ u,LeftB c.2.length (jg c.2.length (fB c M day) 0 c.1.length) (fun i=>ix w (i:Nat)) u→sumN c.2.length (fun i=>ix w (i:Nat))-sumN c.2.length u≤most)
   ∧ ∃ u,LeftB c.2.length (jg c.2.length (fB c M day) 0 c.1.length) (fun i=>ix w (i:Nat)) u∧most=sumN c.2.length (fun i=>ix w (i:Nat))-sumN c.2.length u:=by
 have hroom:∀ k,k < c.1.length→0≤jx c day k∧jx c day k≤6:=fun k hk=>by
  have:=ja hv hk;unfold s6 at this;simp only[Bool.and_eq_true,fA]at this;unfold jx;split <;> omega
 have hwb':∀ i:Nat,i < c.2.length→ix w (i:Int)≤100:=fun i hi=>(hwb i hi).2;have zat:∀ i:Nat,ix (List.replicate c.2.length (0:Int)) (i:Int)=0:=fun i=>by
  by_cases hi:i < c.2.length
  ·rw[uc _ _ _ hi]
  ·rw[A3 (by simp; omega)]
 have zu:uOf w (List.replicate c.2.length 0)=fun i=>ix w ((i:Nat):Int):=funext fun i=>by unfold uOf; rw[zat]; omega
 have zok:OkO c.2.length w (List.replicate c.2.length 0):=⟨by simp,fun i hi=>by rw[zat]; exact⟨Int.le_refl _,(hwb i hi).1⟩⟩
 obtain⟨q,e,now,he,hl,hI⟩:=iC (step:=fun x=>GG x.1 x.2.1 x.2.2.1 x.2.2.2.1 x.2.2.2.2.1 x.2.2.2.2.2) c.1.length
  (fun k x=>∃ now,x=(day,(k:Int),w,M,c,now)∧now.length≤16^k∧NowI c.2.length w (jg c.2.length (fB c M day) 0 k) now)
  (fun r=>∃ now,r=(w,M,c,now)∧now.length≤16^c.1.length∧NowI c.2.length w (jg c.2.length (fB c M day) 0 c.1.length) now)
  (day,0,w,M,c,[List.replicate c.2.length 0]) ⟨_,rfl,by simp,fun o ho=>by
   rw[List.mem_singleton.1 ho,zu];exact⟨zok,.nil _⟩,fun u hu=>by
   cases hu;exact⟨_,List.mem_singleton.2 rfl,zu.symm⟩,_,List.mem_singleton.2 rfl⟩
  (fun k x hk ⟨now,hx,hl,hI⟩=>by
   subst hx;have hsw:ix c.1 (k:Int)=sI c k:=bp _ _;have hrk:=hroom k hk;have h16:=H3 (k:=k) (by omega);obtain⟨rows,r1,r2,r3⟩:=JK (c:=c) (M:=M) hk (by omega) (hr k hk) (jx c day k) (by omega);have h24:2^c.2.length≤16:=Nat.le_trans (Nat.pow_le_pow_right (by decide) h4) (by decide);have hRI:RowsI c.2.length rows:=⟨by omega,fun r hm=>by
    have:=(r3 r).1 hm;exact⟨this.1,fun y hy=>by have:=this.2.1 y hy; omega,by have:=this.2.2; omega⟩⟩
   obtain⟨next,n1,n2,n3⟩:=A9 (M:=M) (c:=c) day (k:Int) (now:=now) (rows:=rows) hw h4 hwb' (fun o ho=>(hI.ok o ho).1) (by omega) hRI;have e1:L47_1 (day,(k:Int),(ix c.1 (k:Int)).2.2,w,M,c,now)=some (day,(k:Int),jx c day k,w,M,c,now):=by
    show vY P60v1 P61 day (k:Int) (ix c.1 (k:Int)).2.2 w M c now=_;unfold vY jx;rw[ah (aj hk),hsw];by_cases d:(sI c k).1 < day
    ·rw[decide_eq_true d,if_pos d]; rfl
    ·rw[decide_eq_false d,if_neg d]; rfl
   show ∃ y,q47_0 P60v1 P61 L47_1 L47_2 day (k:Int) w M c now=_∧_;unfold q47_0;rw[au hk,cond_true,ah (aj hk),e1,aa]
   dsimp only
   rw[ah (aj (by omega)),show P60v1 (c,(k:Int),0,jx c day k,(↑(Int.toNat (k:Int)):Int),M)=_ from r1,aa]
   dsimp only
   rw[n1,aa]
   dsimp only
   rw[ah (aq (by omega))];refine⟨_,rfl,next,rfl,by rw[Nat.pow_succ]; omega,?_⟩;rw[pZ,Nat.zero_add];exact hI.next hw hrk.1 r3 n3)
  (fun x ⟨now,hx,hl,hI⟩=>by
   subst hx;show ∃ r,q47_0 P60v1 P61 L47_1 L47_2 day (c.1.length:Int) w M c now=_∧_;unfold q47_0;rw[az,cond_false];exact⟨_,rfl,now,rfl,hl,hI⟩) (by omega)
 subst he;have h16:=H3 (k:=c.1.length) (by omega);obtain⟨most,m1,m2,o,m3,m4⟩:=Bb (n:=c.2.length) (now:=now) h4 (fun o ho=>⟨(hI.ok o ho).1.len,fun j hj=>by
  have:=(hI.ok o ho).1.bd j hj;have:=hwb j hj;omega⟩) (by omega) hI.ne
 refine⟨most,?_,fun u hu=>?_,uOf w o,(hI.ok o m3).2,?_⟩
 ·show P0 P60v1 P61 vZ v5 c day w M=_;unfold P0;rw[ah (decide_eq_true (by omega)),ah (decide_eq_true (by omega)),show vZ (day,0,w,M,c,[cP (Int.toNat (↑(List.length c.2):Int)) (0:Int)])=_ from e,aa]
  dsimp only
  rw[m1];rfl
 ·obtain⟨o',ho',rfl⟩:=hI.all u hu;have:=m2 o' ho';rw[H4];omega
 ·rw[H4,m4];omega
end
theorem JO (l:List Int)(v:Int)(hl:l.length < 1000000):∃ z,P65 (l,v)=some z∧(0≤z↔v∈l):=by
 have key:=jV (step:=fun x=>GN x.1 x.2.1 x.2.2.1 x.2.2.2) l.length (fun k=>(l,v,(l.length:Int),(k:Int))) (fun k=>decide (v=gt l k)) (fun k=>(.inl (k:Int):Int⊕Unit)) (.inr ())
  (fun k hk _=>by
   show pH l v (l.length:Int) (k:Int)=_;unfold pH;rw[au hk,cond_true,ah (aj hk),aQ];by_cases e:v=gt l k
   ·simp[e]
   ·simp only[decide_eq_false e,cond_false,ah (aq (k:=k) (by omega))]; rfl)
  (fun _=>by
   show pH l v (l.length:Int) (l.length:Int)=_;unfold pH;rw[az,cond_false]) (by omega)
 rcases key with⟨k,hk,hp,_,e⟩ | ⟨hn,e⟩
 ·refine⟨(k:Int),?_,?_⟩
  ·show KC pI l v=_;unfold KC;rw[show pI (l,v,(↑l.length:Int),0)=some (.inl (k:Int))from e]; rfl
  ·have:v=gt l k:=by simpa using hp
   exact⟨fun _=>this▸bT hk,fun _=>by omega⟩
 ·refine⟨-1,?_,?_⟩
  ·show KC pI l v=_;unfold KC;rw[show pI (l,v,(↑l.length:Int),0)=some (.inr ())from e]; rfl
  ·refine⟨fun h=>by omega,fun h=>?_⟩;obtain⟨i,hi,rfl⟩:=fC h;have:=hn i hi
   simp at this
theorem iE (l:List Int)(v:Int)(hl:l.length < 1000000):ga (l,v)=some (decide (v∈l)):=by
 obtain⟨z,h1,h2⟩:=JO l v hl;show P2 P65 l v=_;unfold P2;rw[h1,aa];congr 1;exact decide_eq_decide.2 h2
section
variable {c:bQ} {M:Mat}
def ft (c:bQ)(i k:Nat):Bool:=fF (ix c.2 (i:Int)) (ix c.1 (k:Int))
def rm (c:bQ)(k:Nat):Int:=(ix c.1 (k:Int)).2.2
def dw (M:Mat)(k i:Nat):Bool:=decide ((i:Int)∈gt M k)
def cnt (c:bQ)(M:Mat)(i:Nat):Int:=sumN c.1.length fun k=>cr (dw M k i)
structure PO (c:bQ) (M:Mat):Prop where
 len:M.length=c.1.length
 row:∀ k,k < c.1.length→∀ q∈gt M k,∃ i:Nat,i < c.2.length∧q=(i:Int)∧ft c i k=true
 nd:∀ k,k < c.1.length→(gt M k).Nodup
 cap:∀ k,k < c.1.length→((gt M k).length:Int)≤rm c k
theorem dx:∀ n,sumN n (fun _=>0)=0
 | 0=>rfl
 | n+1=>by rw[aE,dx n]; rfl
theorem lM (f:Nat→Nat→Int):∀ n m,sumN n (fun i=>sumN m fun k=>f i k)=sumN m fun k=>sumN n fun i=>f i k
 | 0,m=>by show(0:Int)=_; exact(dx m).symm
 | n+1,m=>by
  rw[aE,lM f n m,← cU];exact aF fun k _=>by rw[aE]
theorem gy {n:Nat}{f:Nat→Int}{a:Nat}(ha:a < n)(h:∀ k,k < n→k≠a→f k=0):sumN n f=f a:=by
 induction n with
 | zero=>omega
 | succ n ih=>
  rw[aE];by_cases e:a=n
  ·subst e;rw[aF (g:=fun _=>0) fun k hk=>h k (by omega) (by omega),dx]; omega
  ·rw[ih (by omega) fun k hk=>h k (by omega),h n (by omega) (Ne.symm e)]; omega
theorem eC {f g:Nat→Int}:∀ {n:Nat},(∀ k,k < n→f k≤g k)→sumN n g≤sumN n f→∀ k,k < n→f k=g k
 | 0,_,_,k,hk=>by omega
 | n+1,h,hs,k,hk=>by
  rw[aE,aE]at hs;have h1:=dV (n:=n) fun k hk=>h k (by omega);have h2:=h n (by omega);by_cases e:k=n
  ·subst e; omega
  ·exact eC (n:=n) (fun k hk=>h k (by omega)) (by omega) k (by omega)
theorem i7 {n:Nat}:∀ {l:List Int},l.Nodup→(∀ q∈l,∃ i:Nat,i < n∧q=(i:Int))→aD n (fun i=>decide ((i:Int)∈l))=l.length
 | [],_,_=>by
  show sumN n _=0;rw[aF (g:=fun _=>0) fun k _=>by simp[cr],dx]
 | q::l,hd,hl=>by
  obtain⟨i,hi,rfl⟩:=hl q (by simp);have ih:=i7 (n:=n) (List.nodup_cons.1 hd).2 fun q hq=>hl q (by simp[hq]);have e:aD n (fun j=>decide ((j:Int)∈(i:Int)::l))=sumN n (fun j=>cr (decide (j=i))+cr (decide ((j:Int)∈l))):=by
   show sumN n _=_;refine aF fun j _=>?_;have hni:=(List.nodup_cons.1 hd).1;by_cases e:j=i
   ·subst e; simp[cr,hni]
   ·have:((j:Int)∈(i:Int)::l)=((j:Int)∈l):=by simp[List.mem_cons]; intro h; omega
    simp[this,e,cr]
  rw[e,cU,show sumN n (fun j=>cr (decide ((j:Int)∈l)))=l.length from ih,gy (a:=i) hi fun k _ hk=>by simp[hk,cr]]
  simp[cr]; omega
def cS (c:bQ)(M:Mat)(S:SetB)(k:Nat):Int:=aD c.2.length fun i=>S i&&dw M k i
def bS (c:bQ)(S:SetB)(k:Nat):Int:=min (rm c k) (aD c.2.length fun i=>S i&&ft c i k)
theorem Bc (h:PO c M)(S:SetB){k:Nat}(hk:k < c.1.length):cS c M S k≤bS c S k:=by
 have h1:cS c M S k≤aD c.2.length (fun i=>dw M k i):=dR fun i _ hi=>by simp only[Bool.and_eq_true]at hi; exact hi.2
 have h2:aD c.2.length (fun i=>dw M k i)=(gt M k).length:=i7 (h.nd k hk) fun q hq=>by obtain⟨i,h1,h2,_⟩:=h.row k hk q hq; exact⟨i,h1,h2⟩
 have h3:cS c M S k≤aD c.2.length (fun i=>S i&&ft c i k):=dR fun i _ hi=>by
  simp only[Bool.and_eq_true,dw,decide_eq_true_eq]at hi ⊢;obtain⟨j,_,e,hf⟩:=h.row k hk _ hi.2;have:i=j:=by omega
  subst this;exact⟨hi.1,hf⟩
 have h4:=h.cap k hk;unfold bS;omega
theorem mS (M:Mat)(S:SetB):sumN c.2.length (fun i=>cond (S i) (cnt c M i) 0)=sumN c.1.length (fun k=>cS c M S k):=by
 have:sumN c.2.length (fun i=>cond (S i) (cnt c M i) 0)=sumN c.2.length (fun i=>sumN c.1.length fun k=>cr (S i&&dw M k i)):=aF fun i _=>by
  cases h:S i with
  | true=>simp only[cond_true,Bool.true_and]; rfl
  | false=>simp only[cond_false,Bool.false_and]; exact(dx _).symm
 rw[this,lM]; rfl
theorem JP (M:Mat)(i:Nat):0≤cnt c M i:=by
 have:=dd (f:=fun k=>cr (dw M k i)) (a:=0) (b:=1) (n:=c.1.length) fun k _=>fZ _;unfold cnt; omega
def Closed (c:bQ)(M:Mat)(S:SetB):Prop:=∀ k,k < c.1.length→∀ q,q < c.2.length→S q=true→ft c q k=true→dw M k q=false→((gt M k).length:Int)=rm c k∧∀ i,i < c.2.length→dw M k i=true→S i=true
theorem kP (h:PO c M){S:SetB}(hc:Closed c M S){k:Nat}(hk:k < c.1.length):cS c M S k=bS c S k:=by
 refine Int.le_antisymm (Bc h S hk) ?_;by_cases e:∃ q,q < c.2.length∧S q=true∧ft c q k=true∧dw M k q=false
 ·obtain⟨q,h1,h2,h3,h4⟩:=e;obtain⟨g1,g2⟩:=hc k hk q h1 h2 h3 h4;have e2:aD c.2.length (fun i=>dw M k i)=(gt M k).length:=i7 (h.nd k hk) fun q hq=>by obtain⟨i,h1,h2,_⟩:=h.row k hk q hq; exact⟨i,h1,h2⟩
  have e3:aD c.2.length (fun i=>dw M k i)≤cS c M S k:=dR fun i hi h=>by simp only[Bool.and_eq_true]; exact⟨g2 i hi h,h⟩
  unfold bS; omega
 ·have e3:aD c.2.length (fun i=>S i&&ft c i k)≤cS c M S k:=dR fun i hi h=>by
   simp only[Bool.and_eq_true]at h ⊢;refine⟨h.1,?_⟩;cases hn:dw M k i with
   | true=>rfl
   | false=>exact absurd ⟨i,hi,h.1,h.2,hn⟩ e
  unfold bS; omega
theorem qV (h:PO c M){S:SetB}(ht:∀ k,k < c.1.length→cS c M S k=bS c S k):Closed c M S:=by
 intro k hk q hq hS hf hn;have e2:aD c.2.length (fun i=>dw M k i)=(gt M k).length:=i7 (h.nd k hk) fun q hq=>by obtain⟨i,h1,h2,_⟩:=h.row k hk q hq; exact⟨i,h1,h2⟩
 have h4:=h.cap k hk;have hlt:cS c M S k < aD c.2.length (fun i=>S i&&ft c i k):=by
  have le:∀ i,i < c.2.length→cr (S i&&dw M k i)≤cr (S i&&ft c i k):=fun i _=>BP fun hi=>by
   simp only[Bool.and_eq_true,dw,decide_eq_true_eq]at hi ⊢;obtain⟨j,_,e,hf⟩:=h.row k hk _ hi.2;have:i=j:=by omega
   subst this;exact⟨hi.1,hf⟩
  rcases Int.lt_or_le (cS c M S k) (aD c.2.length (fun i=>S i&&ft c i k))with g | g
  ·exact g
  ·have:=eC le g q hq;rw[hS,hn,hf]at this
   simp[cr]at this
 have hb:=ht k hk;have hroom:cS c M S k=rm c k:=by unfold bS at hb; omega
 have le2:∀ i,i < c.2.length→cr (S i&&dw M k i)≤cr (dw M k i):=fun i _=>BP fun hi=>by simp only[Bool.and_eq_true]at hi; exact hi.2
 have hs:=dV (n:=c.2.length) le2;have hs':cS c M S k≤aD c.2.length fun i=>dw M k i:=hs;refine⟨by omega,fun i hi hin=>?_⟩;have hge:sumN c.2.length (fun i=>cr (dw M k i))≤sumN c.2.length (fun i=>cr (S i&&dw M k i)):=by
  show aD c.2.length (fun i=>dw M k i)≤cS c M S k;omega
 have:=eC le2 hge i hi;rw[hin]at this;cases hSi:S i with
 | true=>rfl
 | false=>rw[hSi]at this; simp[cr]at this
theorem sF {M':Mat}(h:PO c M)(h':PO c M'){S:SetB}(hc:Closed c M S)(hm:∀ i,i < c.2.length→cnt c M i≤cnt c M' i):Closed c M' S:=by
 refine qV h' fun k hk=>?_;have h1:sumN c.1.length (fun k=>bS c S k)≤sumN c.1.length (fun k=>cS c M' S k):=by
  rw[← aF (fun k hk=>kP h hc hk),← mS,← mS];exact dV fun i hi=>by cases S i with | true=>exact hm i hi | false=>exact Int.le_refl _
 exact eC (fun k hk=>Bc h' S hk) h1 k hk
theorem yf {S T:SetB}(h1:Closed c M S)(h2:Closed c M T):Closed c M fun i=>S i||T i:=by
 intro k hk q hq hS hf hn;simp only[Bool.or_eq_true]at hS;rcases hS with hS | hS
 ·obtain⟨g1,g2⟩:=h1 k hk q hq hS hf hn;exact⟨g1,fun i hi hin=>by simp only[g2 i hi hin,Bool.true_or]⟩
 ·obtain⟨g1,g2⟩:=h2 k hk q hq hS hf hn;exact⟨g1,fun i hi hin=>by simp only[g2 i hi hin,Bool.or_true]⟩
theorem sG:Closed c M fun _=>false:=fun k hk q hq h=>by cases h
end
def sn (s:aX)(k:Nat):Bool:=decide (0 < fl (be s [(k:Int)]) 0)
def iF (s:aX):Prop:=∀ k:Nat,0≤fl (be s [(k:Int)]) 0∧fl (be s [(k:Int)]) 0≤1
def un (f:Nat→Bool):Nat→Nat
 | 0=>0
 | K+1=>un f K+(if f K then 0 else 1)
theorem H5 (f:Nat→Bool):∀ K,un f K≤K
 | 0=>Nat.le_refl _
 | K+1=>by have:=H5 f K; simp only[un]; split <;> omega
theorem mT {f g:Nat→Bool}:∀ {K:Nat},(∀ k,k < K→f k=true→g k=true)→un g K≤un f K
 | 0,_=>Nat.le_refl _
 | K+1,h=>by
  have h1:=mT (K:=K) fun k hk=>h k (by omega);have h2:=h K (by omega);simp only[un];cases hf:f K with
  | true=>rw[h2 hf]; simpa using h1
  | false=>cases hg:g K <;> simp <;> omega
theorem H6 {f g:Nat→Bool}{a:Nat}:∀ {K:Nat},(∀ k,k < K→f k=true→g k=true)→a < K→f a=false→g a=true→un g K < un f K
 | 0,_,ha,_,_=>by omega
 | K+1,h,ha,hf,hg=>by
  simp only[un];by_cases e:a=K
  ·subst e;have h1:=mT (K:=a) fun k hk=>h k (by omega);rw[hf,hg]; simp; omega
  ·have h1:=H6 (K:=K) (fun k hk=>h k (by omega)) (by omega) hf hg;have h2:=h K (by omega);cases hf':f K with
   | true=>rw[h2 hf']; simpa using h1
   | false=>cases hg':g K <;> simp <;> omega
def kQ (s:aX)(k:Nat):aX:=di s [(k:Int)] (fl (be s [(k:Int)]) 0+1)
theorem Eo {s:aX}(h:iF s){k:Nat}(hk:sn s k=false):iF (kQ s k)∧sn (kQ s k) k=true∧(∀ j,sn s j=true→sn (kQ s k) j=true)∧∀ j,sn (kQ s k) j=true→j=k∨sn s j=true:=by
 have h0:fl (be s [(k:Int)]) 0=0:=by have:=(h k).1; simp[sn]at hk; omega
 have e:∀ j:Nat,fl (be (kQ s k) [(j:Int)]) 0=if j=k then 1 else fl (be s [(j:Int)]) 0:=fun j=>by
  rw[kQ,ye,h0];by_cases hj:j=k
  ·subst hj; simp
  ·have:¬ ([(j:Int)]=[(k:Int)]):=by simp; omega
   rw[if_neg this,if_neg hj]
 refine⟨fun j=>?_,?_,fun j hj=>?_,fun j hj=>?_⟩
 ·rw[e]; split
  ·omega
  ·exact h j
 ·simp only[sn,e]; simp
 ·simp only[sn,e]at hj ⊢;split
  ·simp
  ·exact hj
 ·simp only[sn,e]at hj ⊢;by_cases q:j=k
  ·exact .inl q
  ·rw[if_neg q]at hj; exact .inr hj
section
variable {c:bQ} {M:Mat} {w:List Int}
def Vs (c:bQ)(M:Mat)(s:aX)(q:Nat):Prop:=∀ k,k < c.1.length→ft c q k=true→dw M k q=false→sn s k=true
theorem Vs.mono {s s':aX}{q:Nat}(h:Vs c M s q)(hs:∀ k,sn s k=true→sn s' k=true):Vs c M s' q:=fun k h1 h2 h3=>hs k (h k h1 h2 h3)
def FullOf (c:bQ)(M:Mat)(s:aX)(k:Nat):Prop:=((gt M k).length:Int)=rm c k∧∀ i,i < c.2.length→dw M k i=true→Vs c M s i
theorem FullOf.mono {s s':aX}{k:Nat}(h:FullOf c M s k)(hs:∀ k,sn s k=true→sn s' k=true):FullOf c M s' k:=⟨h.1,fun i hi hin=>(h.2 i hi hin).mono hs⟩
structure Vain (c:bQ) (M:Mat) (s s':aX):Prop where
 gr:∀ k,sn s k=true→sn s' k=true
 ok:iF s'
 cl:∀ k,k < c.1.length→sn s' k=true→sn s k=true∨FullOf c M s' k
theorem Vain.refl {s:aX}(h:iF s):Vain c M s s:=⟨fun _ h=>h,h,fun _ _ h=>.inl h⟩
theorem Vain.trans {s s1 s2:aX}(h:Vain c M s s1)(g:Vain c M s1 s2):Vain c M s s2:=⟨fun k hk=>g.gr k (h.gr k hk),g.ok,fun k hk h2=>by
 rcases g.cl k hk h2 with h1 | h1
 ·rcases h.cl k hk h1 with h0 | h0
  ·exact .inl h0
  ·exact .inr (h0.mono g.gr)
 ·exact .inr h1⟩
structure More1 (c:bQ) (M:Mat) (p:Nat) (s:aX) (M':Mat):Prop where
 po:PO c M'
 cnt:∀ q,q < c.2.length→cnt c M' q=D.cnt c M q+cr (decide (q=p))
 same:∀ k,k < c.1.length→sn s k=true→gt M' k=gt M k
abbrev Pj:=Int×List oL×Int×Int×List oL×List oc×aX×aX×List Int×Mat
def mg (c:bQ)(w:List Int)(M:Mat)(p:Nat)(k:Nat)(s:aX):Pj:=((p:Int),c.1,(c.1.length:Int),(k:Int),c.1,c.2,s,[],w,M)
abbrev SO:=Int×Int×List oL×Int×Int×Bool×Int×Int×Int×List oL×List oc×aX×Mat×aX×List Int
def s5 (c:bQ)(w:List Int)(M:Mat)(p:Nat)(k:Nat)(j:Nat)(s:aX):SO:=((p:Int),(k:Int),c.1,(c.1.length:Int),(k:Int),false,(k:Int),((gt M k).length:Int),(j:Int),c.1,c.2,s,M,[],w)
def BY (c:bQ)(w:List Int)(M:Mat)(p:Nat)(s:aX):Int×List oL×List oc×aX×aX×List Int×Mat:=((p:Int),c.1,c.2,s,[],w,M)
def ou (c:bQ)(w:List Int)(b:Bool)(M:Mat)(s:aX):Bool×List oL×List oc×aX×aX×List Int×Mat:=(b,c.1,c.2,s,[],w,M)
noncomputable def fP (N:Nat)(x:Pj):=GT (iY N) x.1 x.2.1 x.2.2.1 x.2.2.2.1 x.2.2.2.2.1 x.2.2.2.2.2.1 x.2.2.2.2.2.2.1 x.2.2.2.2.2.2.2.1 x.2.2.2.2.2.2.2.2.1 x.2.2.2.2.2.2.2.2.2
noncomputable def fR (N:Nat)(x:SO):=GR (iY N) x.1 x.2.1 x.2.2.1 x.2.2.2.1 x.2.2.2.2.1 x.2.2.2.2.2.1 x.2.2.2.2.2.2.1 x.2.2.2.2.2.2.2.1 x.2.2.2.2.2.2.2.2.1 x.2.2.2.2.2.2.2.2.2.1 x.2.2.2.2.2.2.2.2.2.2.1 x.2.2.2.2.2.2.2.2.2.2.2.1 x.2.2.2.2.2.2.2.2.2.2.2.2.1 x.2.2.2.2.2.2.2.2.2.2.2.2.2.1 x.2.2.2.2.2.2.2.2.2.2.2.2.2.2
noncomputable def tP (N:Nat)(x:Pj):=wh (cq N) x.1 x.2.1 x.2.2.1 x.2.2.2.1 x.2.2.2.2.1 x.2.2.2.2.2.1 x.2.2.2.2.2.2.1 x.2.2.2.2.2.2.2.1 x.2.2.2.2.2.2.2.2.1 x.2.2.2.2.2.2.2.2.2
noncomputable def tR (N:Nat)(x:SO):=we (cq N) x.1 x.2.1 x.2.2.1 x.2.2.2.1 x.2.2.2.2.1 x.2.2.2.2.2.1 x.2.2.2.2.2.2.1 x.2.2.2.2.2.2.2.1 x.2.2.2.2.2.2.2.2.1 x.2.2.2.2.2.2.2.2.2.1 x.2.2.2.2.2.2.2.2.2.2.1 x.2.2.2.2.2.2.2.2.2.2.2.1 x.2.2.2.2.2.2.2.2.2.2.2.2.1 x.2.2.2.2.2.2.2.2.2.2.2.2.2.1 x.2.2.2.2.2.2.2.2.2.2.2.2.2.2
abbrev SP:=List oL×List oc×aX×aX×List Int×Mat
def uf (c:bQ)(w:List Int)(M:Mat)(s:aX):SP:=(c.1,c.2,s,[],w,M)
def oK (c:bQ)(w:List Int)(M:Mat)(p k:Nat)(s:aX):Int×List oL×Int×Int×Bool×List oL×List oc×aX×Mat×aX×List Int:=((p:Int),c.1,(c.1.length:Int),(k:Int),false,c.1,c.2,s,M,[],w)
def qW (c:bQ)(w:List Int)(M:Mat)(u:Nat):Prop:=∀ p s,p < c.2.length→iF s→un (sn s) c.1.length≤u →
 (∃ s',(∀ N,u < N→iY N (BY c w M p s)=some (ou c w false M s'))∧Vain c M s s'∧Vs c M s' p) ∨
 ((∀ N,u < N→iY N (BY c w M p s)=none)∧∃ s' M',(∀ N,u < N→cq N (BY c w M p s)=some (ou c w true M' s'))∧More1 c M p s M')
theorem kR {l:List Int}:l.Nodup↔∀ i j,i < j→j < l.length→gt l i≠gt l j:=by
 rw[List.Nodup,List.pairwise_iff_getElem];constructor
 ·intro h i j h1 h2; rw[gw (by omega),gw h2]; exact h i j (by omega) h2 h1
 ·intro h i j h1 h2 h3; have:=h i j h3 h2; rwa [gw h1,gw h2]at this
theorem yg {M1:Mat}{p q k j:Nat}{s:aX}(h:PO c M)(h1:More1 c M q s M1)(hk:k < c.1.length)(hs:sn s k=true)(hp:p < c.2.length)(hf:ft c p k=true)(hn:dw M k p=false)(hj:j < (gt M k).length)(hq:q < c.2.length)(hjq:gt (gt M k) j=(q:Int)){s0:aX}(h0:∀ k',sn s0 k'=true→sn s k'=true∧k'≠k):
  More1 c M p s0 (M1.set k ((gt M1 k).set j (p:Int))):=by
 have e1:gt M1 k=gt M k:=h1.same k hk hs;rw[e1];have hkl:k < M1.length:=by rw[h1.po.len]; exact hk
 have hr:∀ k',gt (M1.set k ((gt M k).set j (p:Int))) k'=if k=k' then(gt M k).set j (p:Int)else gt M1 k':=fun k'=>eO _ _ _ _ hkl;have hmem:∀ x,x∈(gt M k).set j (p:Int)→x=(p:Int)∨x∈gt M k:=fun x hx=>by
  rcases List.mem_or_eq_of_mem_set hx with h | h
  ·exact .inr h
  ·exact .inl h
 have hpn:(p:Int)∉gt M k:=by simpa [dw]using hn
 have hnd:=h.nd k hk;have hmem2:∀ x,x∈(gt M k).set j (p:Int)↔x=(p:Int)∨(x∈gt M k∧x≠(q:Int)):=fun x=>by
  constructor
  ·intro hx;obtain⟨i,hi,e⟩:=fC hx;rw[List.length_set]at hi;rw[eO _ _ _ _ hj]at e;split at e
   ·exact .inl e.symm
   ·rename_i hne;refine .inr ⟨e▸bT hi,fun h2=>hne ?_⟩;rw[h2,← hjq]at e;rcases Nat.lt_trichotomy i j with g | g | g
    ·exact absurd e (kR.1 hnd i j g hj)
    ·exact g.symm
    ·exact absurd e.symm (kR.1 hnd j i g hi)
  ·rintro(rfl | ⟨hx,hne⟩)
   ·exact List.mem_set hj _
   ·obtain⟨i,hi,e⟩:=fC hx;have:j≠i:=fun h2=>by subst h2; exact hne (e.symm.trans hjq)
    have h3:gt ((gt M k).set j (p:Int)) i=x:=by rw[eO _ _ _ _ hj,if_neg this]; exact e
    rw[← h3]; exact bT (by rw[List.length_set]; exact hi)
 have hqin:(q:Int)∈gt M k:=hjq▸bT hj;have hpq:p≠q:=fun e=>by subst e; exact hpn hqin
 refine⟨⟨by rw[List.length_set]; exact h1.po.len,fun k' hk' x hx=>?_,fun k' hk'=>?_,fun k' hk'=>?_⟩,fun r hr'=>?_,fun k' hk' hs'=>?_⟩
 ·rw[hr]at hx;split at hx
  ·rename_i e; subst e;rcases hmem x hx with rfl | hx
   ·exact⟨p,hp,rfl,hf⟩
   ·exact h.row k hk x hx
  ·exact h1.po.row k' hk' x hx
 ·rw[hr];split
  ·refine kR.2 fun i i' h2 h3=>?_;rw[List.length_set]at h3;rw[eO _ _ _ _ hj,eO _ _ _ _ hj];by_cases e2:j=i
   ·rw[if_pos e2,if_neg (by omega)];intro e3;exact hpn (e3▸bT h3)
   ·rw[if_neg e2];by_cases e4:j=i'
    ·rw[if_pos e4];intro e3;exact hpn (e3▸bT (by omega))
    ·rw[if_neg e4]; exact kR.1 hnd i i' h2 h3
  ·exact h1.po.nd k' hk'
 ·rw[hr];split
  ·rename_i e; subst e; rw[List.length_set]; exact h.cap k hk
  ·exact h1.po.cap k' hk'
 ·have hc:cnt c (M1.set k ((gt M k).set j (p:Int))) r=cnt c M1 r+(cr (decide (r=p))-cr (decide (r=q))):=by
   have:∀ k',k' < c.1.length→cr (dw (M1.set k ((gt M k).set j (p:Int))) k' r)=cr (dw M1 k' r)+(if k'=k then cr (decide (r=p))-cr (decide (r=q))else 0):=fun k' hk'=>by
    by_cases e:k=k'
    ·subst e;rw[if_pos rfl];simp only[dw,hr,if_pos,e1];have hm:=hmem2 (r:Int);by_cases a1:r=p
     ·subst a1;have hne:¬ r=q:=hpq;simp only[hm,decide_true,true_or,hpn,decide_eq_false hne,decide_false,cr,cond_true,cond_false]; omega
     ·by_cases a2:r=q
      ·subst a2;have:¬ ((r:Int)=(p:Int)):=by omega
       simp[hm,hqin,a1,this,cr]
      ·have n1:¬ ((r:Int)=(p:Int)):=by omega
       have n2:(r:Int)≠(q:Int):=by omega
       simp[hm,n1,n2,a1,a2,cr]
    ·rw[if_neg (Ne.symm e)];simp only[dw,hr,if_neg e]; omega
   unfold cnt;rw[aF this,cU,gy (f:=fun k'=>if k'=k then cr (decide (r=p))-cr (decide (r=q))else 0) (a:=k) hk fun k' _ hne=>if_neg hne,if_pos rfl]
  rw[hc,h1.cnt r hr']; omega
 ·rw[hr];split
  ·rename_i e; exact absurd e.symm (h0 k' hs').2
  ·exact h1.same k' hk' (h0 k' hs').1
end
section
variable {c:bQ} {M:Mat} {w:List Int}
theorem iG {p k:Nat}(hp:p < c.2.length)(hk:k < c.1.length):cN ((p:Int),(k:Int),c.1,c.2,[],w)=some (ft c p k,c.1,c.2,[],w):=wR _ _ c w (aj hp) (aj hk)
theorem Be {p k:Nat}(h:PO c M)(hk:k < c.1.length)(hp:p < c.2.length)(hf:ft c p k=true)(hn:dw M k p=false)(hr:((gt M k).length:Int) < rm c k){s0:aX}(h0:∀ k',sn s0 k'=true→k'≠k):
  More1 c M p s0 ((M.set k []).set k (gt M k++[(p:Int)])):=by
 rw[List.set_set];have hkl:k < M.length:=by rw[h.len]; exact hk
 have hr2:∀ k',gt (M.set k (gt M k++[(p:Int)])) k'=if k=k' then gt M k++[(p:Int)]else gt M k':=fun k'=>eO _ _ _ _ hkl;have hpn:(p:Int)∉gt M k:=by simpa [dw]using hn
 refine⟨⟨by rw[List.length_set]; exact h.len,fun k' hk' x hx=>?_,fun k' hk'=>?_,fun k' hk'=>?_⟩,fun r hr'=>?_,fun k' hk' hs'=>?_⟩
 ·rw[hr2]at hx;split at hx
  ·rename_i e; subst e;rcases List.mem_append.1 hx with hx | hx
   ·exact h.row k hk x hx
   ·have:x=(p:Int):=by simpa using hx
    subst this; exact⟨p,hp,rfl,hf⟩
  ·exact h.row k' hk' x hx
 ·rw[hr2];split
  ·refine List.nodup_append.2 ⟨h.nd k hk,List.pairwise_singleton _ _,fun a ha b hb=>?_⟩;have:b=(p:Int):=by simpa using hb
   subst this; intro e; subst e; exact hpn ha
  ·exact h.nd k' hk'
 ·rw[hr2];split
  ·rename_i e; subst e; simp; omega
  ·exact h.cap k' hk'
 ·have:∀ k',k' < c.1.length→cr (dw (M.set k (gt M k++[(p:Int)])) k' r)=cr (dw M k' r)+(if k'=k then cr (decide (r=p))else 0):=fun k' hk'=>by
   by_cases e:k=k'
   ·subst e;rw[if_pos rfl];simp only[dw,hr2,if_pos];by_cases a1:r=p
    ·subst a1; simp[hpn,cr]
    ·have n1:¬ ((r:Int)=(p:Int)):=by omega
     simp[n1,a1,cr]
   ·rw[if_neg (Ne.symm e)];simp only[dw,hr2,if_neg e]; omega
  unfold cnt;rw[aF this,cU,gy (f:=fun k'=>if k'=k then cr (decide (r=p))else 0) (a:=k) hk fun k' _ hne=>if_neg hne,if_pos rfl]
 ·rw[hr2];split
  ·rename_i e; exact absurd e.symm (h0 k' hs')
  ·rfl
section
variable {p k j q N:Nat} {s s1:aX}
theorem Ep:fR N (s5 c w M p k (gt M k).length s)=some (.inr (oK c w M p k s)):=by
 show md cN ga (iY N) (p:Int) (k:Int) c.1 (c.1.length:Int) (k:Int) false (k:Int) ((gt M k).length:Int) ((gt M k).length:Int) c.1 c.2 s M [] w=_;unfold md;rw[az,cond_false]; rfl
theorem Er:tR N (s5 c w M p k (gt M k).length s)=some (.inr (.inl (oK c w M p k s))):=by
 show fU cN ga P50 (cq N) (p:Int) (k:Int) c.1 (c.1.length:Int) (k:Int) false (k:Int) ((gt M k).length:Int) ((gt M k).length:Int) c.1 c.2 s M [] w=_;unfold fU;rw[az,cond_false]; rfl
theorem H7 (hj:j < (gt M k).length)(hl:(gt M k).length < 1000000)(hq:gt (gt M k) j=(q:Int))(e:iY N (BY c w M q s)=some (ou c w false M s1)):fR N (s5 c w M p k j s)=some (.inl (s5 c w M p k (j+1) s1)):=by
 show md cN ga (iY N) (p:Int) (k:Int) c.1 (c.1.length:Int) (k:Int) false (k:Int) ((gt M k).length:Int) (j:Int) c.1 c.2 s M [] w=_;unfold md;rw[au hj,cond_true,aQ M k,ah (aj hj),aQ (gt M k) j,hq,show iY N ((q:Int),c.1,c.2,s,[],w,M)=some (ou c w false M s1)from e,aa];simp only[ou,cond_false,ah (aq (k:=j) (by omega))];rfl
theorem Pk (hj:j < (gt M k).length)(hq:gt (gt M k) j=(q:Int))(e:iY N (BY c w M q s)=none):fR N (s5 c w M p k j s)=none:=by
 show md cN ga (iY N) (p:Int) (k:Int) c.1 (c.1.length:Int) (k:Int) false (k:Int) ((gt M k).length:Int) (j:Int) c.1 c.2 s M [] w=_;unfold md;rw[au hj,cond_true,aQ M k,ah (aj hj),aQ (gt M k) j,hq,show iY N ((q:Int),c.1,c.2,s,[],w,M)=none from e];rfl
theorem H8 (hj:j < (gt M k).length)(hl:(gt M k).length < 1000000)(hq:gt (gt M k) j=(q:Int))(e:P50 (BY c w M q s)=some (ou c w false M s1)):tR N (s5 c w M p k j s)=some (.inl (s5 c w M p k (j+1) s1)):=by
 show fU cN ga P50 (cq N) (p:Int) (k:Int) c.1 (c.1.length:Int) (k:Int) false (k:Int) ((gt M k).length:Int) (j:Int) c.1 c.2 s M [] w=_;unfold fU;rw[au hj,cond_true,aQ M k,ah (aj hj),aQ (gt M k) j,hq,show P50 ((q:Int),c.1,c.2,s,[],w,M)=some (ou c w false M s1)from e];simp only[Je,ou,cond_false,ah (aq (k:=j) (by omega))];rfl
theorem JQ {M1:Mat}(hj:j < (gt M k).length)(hq:gt (gt M k) j=(q:Int))(e:P50 (BY c w M q s)=none)(e2:cq N (BY c w M q s)=some (ou c w true M1 s1))(hk:k < M1.length)(hr:gt M1 k=gt M k):
  tR N (s5 c w M p k j s)=some (.inr (.inr (ou c w true (M1.set k ((gt M1 k).set j (p:Int))) s1))):=by
 show fU cN ga P50 (cq N) (p:Int) (k:Int) c.1 (c.1.length:Int) (k:Int) false (k:Int) ((gt M k).length:Int) (j:Int) c.1 c.2 s M [] w=_;unfold fU;rw[au hj,cond_true,aQ M k,ah (aj hj),aQ (gt M k) j,hq,show P50 ((q:Int),c.1,c.2,s,[],w,M)=none from e,show cq N ((q:Int),c.1,c.2,s,[],w,M)=some (ou c w true M1 s1)from e2];simp only[Je,aa,ou,cond_true,ah (aj hk),aQ,hr,ah (aj hj),Int.toNat_natCast]
end
theorem sH {u p k:Nat}(hu:u < 1000)(ih:qW c w M u)(h:PO c M)(hk:k < c.1.length)(hp:p < c.2.length)(hf:ft c p k=true)(hn:dw M k p=false)(hl:(gt M k).length < 1000000):∀ m j s,j+m=(gt M k).length→iF s→sn s k=true→un (sn s) c.1.length≤u →
  (∃ s',(∀ N n,u < N→m < n→ee (fR N) n (s5 c w M p k j s)=some (oK c w M p k s'))∧(∀ N n,u < N→m < n→ee (tR N) n (s5 c w M p k j s)=some (.inl (oK c w M p k s')))∧Vain c M s s'∧∀ i q:Nat,j≤i→i < (gt M k).length→gt (gt M k) i=(q:Int)→Vs c M s' q) ∨
  ((∀ N n,u < N→m < n→ee (fR N) n (s5 c w M p k j s)=none)∧∃ s' M',(∀ N n,u < N→m < n→ee (tR N) n (s5 c w M p k j s)=some (.inr (ou c w true M' s')))∧∀ s0,(∀ k',sn s0 k'=true→sn s k'=true∧k'≠k)→More1 c M p s0 M')
 | 0,j,s,hj,hs,hsk,hun=>by
  have e:j=(gt M k).length:=by omega
  subst e;refine .inl ⟨s,fun N n _ hn=>?_,fun N n _ hn=>?_,Vain.refl hs,fun i q h1 h2=>by omega⟩
  ·obtain⟨n,rfl⟩:∃ n',n=n'+1:=⟨n-1,by omega⟩;simp only[ee,Ep]
  ·obtain⟨n,rfl⟩:∃ n',n=n'+1:=⟨n-1,by omega⟩;simp only[ee,Er]
 | m+1,j,s,hj,hs,hsk,hun=>by
  have hj':j < (gt M k).length:=by omega
  obtain⟨q,hq,eq,hfq⟩:=h.row k hk _ (bT hj');rcases ih q s hq hs hun with⟨s1,g1,g2,g3⟩ | ⟨g1,s1,M1,g2,g3⟩
  ·have hun1:un (sn s1) c.1.length≤u:=Nat.le_trans (mT fun k _ h=>g2.gr k h) hun;have e50:P50 (BY c w M q s)=some (ou c w false M s1):=g1 _ (by omega);rcases sH hu ih h hk hp hf hn hl m (j+1) s1 (by omega) g2.ok (g2.gr k hsk) hun1 with⟨s2,k1,k2,k3,k4⟩ | ⟨k1,s2,M2,k2,k3⟩
   ·refine .inl ⟨s2,fun N n hN hn=>?_,fun N n hN hn=>?_,g2.trans k3,fun i q' h1 h2 h3=>?_⟩
    ·obtain⟨n,rfl⟩:∃ n',n=n'+1:=⟨n-1,by omega⟩;simp only[ee,H7 hj' hl eq (g1 N hN)];exact k1 N n hN (by omega)
    ·obtain⟨n,rfl⟩:∃ n',n=n'+1:=⟨n-1,by omega⟩;simp only[ee,H8 (N:=N) hj' hl eq e50];exact k2 N n hN (by omega)
    ·by_cases e:i=j
     ·subst e;have:q'=q:=by rw[eq]at h3; omega
      subst this;exact g3.mono k3.gr
     ·exact k4 i q' (by omega) h2 h3
   ·refine .inr ⟨fun N n hN hn=>?_,s2,M2,fun N n hN hn=>?_,fun s0 h0=>k3 s0 fun k' hk'=>⟨g2.gr k' (h0 k' hk').1,(h0 k' hk').2⟩⟩
    ·obtain⟨n,rfl⟩:∃ n',n=n'+1:=⟨n-1,by omega⟩;simp only[ee,H7 hj' hl eq (g1 N hN)];exact k1 N n hN (by omega)
    ·obtain⟨n,rfl⟩:∃ n',n=n'+1:=⟨n-1,by omega⟩;simp only[ee,H8 (N:=N) hj' hl eq e50];exact k2 N n hN (by omega)
  ·have e50:P50 (BY c w M q s)=none:=g1 _ (by omega);have hr:gt M1 k=gt M k:=g3.same k hk hsk;refine .inr ⟨fun N n hN hn=>?_,s1,M1.set k ((gt M1 k).set j (p:Int)),fun N n hN hn=>?_,fun s0 h0=>yg h g3 hk hsk hp hf hn hj' hq eq h0⟩
   ·obtain⟨n,rfl⟩:∃ n',n=n'+1:=⟨n-1,by omega⟩;simp only[ee,Pk hj' eq (g1 N hN)]
   ·obtain⟨n,rfl⟩:∃ n',n=n'+1:=⟨n-1,by omega⟩;simp only[ee,JQ hj' eq e50 (g2 N hN) (by rw[g3.po.len]; exact hk) hr]
end
section
variable {c:bQ} {M:Mat} {w:List Int} {p k N:Nat} {s s1:aX}
theorem Es:fP N (mg c w M p c.1.length s)=some (.inr (uf c w M s)):=by
 show gX cN ga (iY N) (kN (iY N)) (p:Int) c.1 (c.1.length:Int) (c.1.length:Int) c.1 c.2 s [] w M=_;unfold gX;rw[az,cond_false]; rfl
theorem Et:tP N (mg c w M p c.1.length s)=some (.inr (.inr (uf c w M s))):=by
 show dq cN ga P50 (cq N) (eX (cq N)) (p:Int) c.1 (c.1.length:Int) (c.1.length:Int) c.1 c.2 s [] w M=_;unfold dq;rw[az,cond_false]; rfl
variable (hk:k < c.1.length) (hp:p < c.2.length) (hK:c.1.length < 1000000) (hM:M.length=c.1.length) (hl:(gt M k).length < 1000000) (hs:iF s)
include hk hp hK hM hl hs
theorem iH:decide ((0:Int) < fl (be s [(k:Int)]) 0)=sn s k:=rfl
theorem fP_skip (h:ft c p k=false∨sn s k=true∨dw M k p=true):fP N (mg c w M p k s)=some (.inl (mg c w M p (k+1) s)):=by
 show gX cN ga (iY N) (kN (iY N)) (p:Int) c.1 (c.1.length:Int) (k:Int) c.1 c.2 s [] w M=_;unfold gX;rw[au hk,cond_true,ah (aj hk),iG hp hk,aa,iH hk hp hK hM hl hs,ah (aj (by rw[hM]; exact hk)),aQ M k,iE _ _ hl,aa,show decide ((p:Int)∈gt M k)=dw M k p from rfl];have hf:=ah (k:=(some (Sum.inl ((p:Int),c.1,(c.1.length:Int),(k:Int)+1,c.1,c.2,s,([]:aX),w,M)):Option (Pj⊕SP))) (aq (k:=k) (by omega));cases h1:ft c p k with
 | false=>exact hf
 | true=>
  cases h2:sn s k with
  | true=>exact hf
  | false=>
   have h3:dw M k p=true:=by rw[h1,h2]at h; simpa using h
   rw[h3]; exact hf
theorem tP_skip (h:ft c p k=false∨sn s k=true∨dw M k p=true):tP N (mg c w M p k s)=some (.inl (mg c w M p (k+1) s)):=by
 show dq cN ga P50 (cq N) (eX (cq N)) (p:Int) c.1 (c.1.length:Int) (k:Int) c.1 c.2 s [] w M=_;unfold dq;rw[au hk,cond_true,ah (aj hk),iG hp hk,aa,iH hk hp hK hM hl hs,ah (aj (by rw[hM]; exact hk)),aQ M k,iE _ _ hl,aa,show decide ((p:Int)∈gt M k)=dw M k p from rfl];have hf:=ah (k:=(some (Sum.inl ((p:Int),c.1,(c.1.length:Int),(k:Int)+1,c.1,c.2,s,([]:aX),w,M)):Option (Pj⊕((Bool×List oL×List oc×aX×aX×List Int×Mat)⊕SP)))) (aq (k:=k) (by omega));cases h1:ft c p k with
 | false=>exact hf
 | true=>
  cases h2:sn s k with
  | true=>exact hf
  | false=>
   have h3:dw M k p=true:=by rw[h1,h2]at h; simpa using h
   rw[h3]; exact hf
variable (h1:ft c p k=true) (h2:sn s k=false) (h3:dw M k p=false)
include h1 h2 h3
theorem i8:aw .i64 (fl (be s [(k:Int)]) 0+1)=true:=by have:=hs k; exact bz (by omega) (by omega)
theorem Eu (hr:((gt M k).length:Int) < rm c k):fP N (mg c w M p k s)=none:=by
 show gX cN ga (iY N) (kN (iY N)) (p:Int) c.1 (c.1.length:Int) (k:Int) c.1 c.2 s [] w M=_;unfold gX;have hm:aU (k:Int) M.length=true:=aj (by rw[hM]; exact hk);have hm2:aU (k:Int) (M.set k []).length=true:=aj (by rw[List.length_set,hM]; exact hk);have hc:cf 8 ((gt M k).length+([(p:Int)]:List Int).length)=true:=cK (by simp; omega);rw[au hk,cond_true,ah (aj hk),iG hp hk,aa,iH hk hp hK hM hl hs,ah hm,aQ M k,iE _ _ hl,aa,show decide ((p:Int)∈gt M k)=dw M k p from rfl,h1,h2,h3];simp only[Bool.not_true,cond_false,ah hm,ah (i8 hk hp hK hM hl hs h1 h2 h3),decide_eq_true hr,show(ix c.1 (k:Int)).2.2=rm c k from rfl,cond_true,ah hc,Int.toNat_natCast,ah hm2,Ke,decide_true,bg]
 try rfl
theorem Ev (hr:((gt M k).length:Int) < rm c k):tP N (mg c w M p k s)=some (.inr (.inl (ou c w true ((M.set k []).set k (gt M k++[(p:Int)])) (kQ s k)))):=by
 show dq cN ga P50 (cq N) (eX (cq N)) (p:Int) c.1 (c.1.length:Int) (k:Int) c.1 c.2 s [] w M=_;unfold dq;have hm:aU (k:Int) M.length=true:=aj (by rw[hM]; exact hk);have hm2:aU (k:Int) (M.set k []).length=true:=aj (by rw[List.length_set,hM]; exact hk);have hc:cf 8 ((gt M k).length+([(p:Int)]:List Int).length)=true:=cK (by simp; omega);rw[au hk,cond_true,ah (aj hk),iG hp hk,aa,iH hk hp hK hM hl hs,ah hm,aQ M k,iE _ _ hl,aa,show decide ((p:Int)∈gt M k)=dw M k p from rfl,h1,h2,h3];simp only[Bool.not_true,cond_false,ah hm,ah (i8 hk hp hK hM hl hs h1 h2 h3),decide_eq_true hr,show(ix c.1 (k:Int)).2.2=rm c k from rfl,cond_true,ah hc,Int.toNat_natCast,ah hm2,Ke,decide_true,bg];rfl
variable (hr:¬ ((gt M k).length:Int) < rm c k)
include hr
theorem fP_row (e:ee (fR N) 18446744073709551616 (s5 c w M p k 0 (kQ s k))=some (oK c w M p k s1)):fP N (mg c w M p k s)=some (.inl (mg c w M p (k+1) s1)):=by
 show gX cN ga (iY N) (kN (iY N)) (p:Int) c.1 (c.1.length:Int) (k:Int) c.1 c.2 s [] w M=_;unfold gX;have hm:aU (k:Int) M.length=true:=aj (by rw[hM]; exact hk);rw[au hk,cond_true,ah (aj hk),iG hp hk,aa,iH hk hp hK hM hl hs,ah hm,aQ M k,iE _ _ hl,aa,show decide ((p:Int)∈gt M k)=dw M k p from rfl,h1,h2,h3];simp only[Bool.not_true,cond_false,ah hm,ah (i8 hk hp hK hM hl hs h1 h2 h3),decide_eq_false hr,show(ix c.1 (k:Int)).2.2=rm c k from rfl,Int.toNat_natCast];rw[show kN (iY N) ((p:Int),(k:Int),c.1,(c.1.length:Int),(k:Int),false,(k:Int),((gt M k).length:Int),0,c.1,c.2,di s [(k:Int)] (fl (be s [(k:Int)]) 0+1),M,[],w)=some (oK c w M p k s1)from e,aa];simp only[oK,ah (aq (k:=k) (by omega))];rfl
theorem Bg (e:ee (fR N) 18446744073709551616 (s5 c w M p k 0 (kQ s k))=none):fP N (mg c w M p k s)=none:=by
 show gX cN ga (iY N) (kN (iY N)) (p:Int) c.1 (c.1.length:Int) (k:Int) c.1 c.2 s [] w M=_;unfold gX;have hm:aU (k:Int) M.length=true:=aj (by rw[hM]; exact hk);rw[au hk,cond_true,ah (aj hk),iG hp hk,aa,iH hk hp hK hM hl hs,ah hm,aQ M k,iE _ _ hl,aa,show decide ((p:Int)∈gt M k)=dw M k p from rfl,h1,h2,h3];simp only[Bool.not_true,cond_false,ah hm,ah (i8 hk hp hK hM hl hs h1 h2 h3),decide_eq_false hr,show(ix c.1 (k:Int)).2.2=rm c k from rfl,Int.toNat_natCast];rw[show kN (iY N) ((p:Int),(k:Int),c.1,(c.1.length:Int),(k:Int),false,(k:Int),((gt M k).length:Int),0,c.1,c.2,di s [(k:Int)] (fl (be s [(k:Int)]) 0+1),M,[],w)=none from e];rfl
theorem tP_row (e:ee (tR N) 18446744073709551616 (s5 c w M p k 0 (kQ s k))=some (.inl (oK c w M p k s1))):tP N (mg c w M p k s)=some (.inl (mg c w M p (k+1) s1)):=by
 show dq cN ga P50 (cq N) (eX (cq N)) (p:Int) c.1 (c.1.length:Int) (k:Int) c.1 c.2 s [] w M=_;unfold dq;have hm:aU (k:Int) M.length=true:=aj (by rw[hM]; exact hk);rw[au hk,cond_true,ah (aj hk),iG hp hk,aa,iH hk hp hK hM hl hs,ah hm,aQ M k,iE _ _ hl,aa,show decide ((p:Int)∈gt M k)=dw M k p from rfl,h1,h2,h3];simp only[Bool.not_true,cond_false,ah hm,ah (i8 hk hp hK hM hl hs h1 h2 h3),decide_eq_false hr,show(ix c.1 (k:Int)).2.2=rm c k from rfl,Int.toNat_natCast];rw[show eX (cq N) ((p:Int),(k:Int),c.1,(c.1.length:Int),(k:Int),false,(k:Int),((gt M k).length:Int),0,c.1,c.2,di s [(k:Int)] (fl (be s [(k:Int)]) 0+1),M,[],w)=some (.inl (oK c w M p k s1))from e,aa];simp only[oK,rX,ah (aq (k:=k) (by omega))];rfl
theorem yh {M':Mat}(e:ee (tR N) 18446744073709551616 (s5 c w M p k 0 (kQ s k))=some (.inr (ou c w true M' s1))):tP N (mg c w M p k s)=some (.inr (.inl (ou c w true M' s1))):=by
 show dq cN ga P50 (cq N) (eX (cq N)) (p:Int) c.1 (c.1.length:Int) (k:Int) c.1 c.2 s [] w M=_;unfold dq;have hm:aU (k:Int) M.length=true:=aj (by rw[hM]; exact hk);rw[au hk,cond_true,ah (aj hk),iG hp hk,aa,iH hk hp hK hM hl hs,ah hm,aQ M k,iE _ _ hl,aa,show decide ((p:Int)∈gt M k)=dw M k p from rfl,h1,h2,h3];simp only[Bool.not_true,cond_false,ah hm,ah (i8 hk hp hK hM hl hs h1 h2 h3),decide_eq_false hr,show(ix c.1 (k:Int)).2.2=rm c k from rfl,Int.toNat_natCast];rw[show eX (cq N) ((p:Int),(k:Int),c.1,(c.1.length:Int),(k:Int),false,(k:Int),((gt M k).length:Int),0,c.1,c.2,di s [(k:Int)] (fl (be s [(k:Int)]) 0+1),M,[],w)=some (.inr (ou c w true M' s1))from e,aa];simp only[ou,dQ]
 try rfl
end
section
variable {c:bQ} {M:Mat} {w:List Int}
theorem wK {u p:Nat}(hu:u < 1000)(ih:∀ u',u' < u→qW c w M u')(h:PO c M)(hp:p < c.2.length)(hK:c.1.length < 1000000)(hl:∀ k,k < c.1.length→(gt M k).length < 1000000):∀ m k s,k+m=c.1.length→iF s→un (sn s) c.1.length≤u →
  (∃ s',(∀ N n,u≤N→m < n→ee (fP N) n (mg c w M p k s)=some (uf c w M s'))∧(∀ N n,u≤N→m < n→ee (tP N) n (mg c w M p k s)=some (.inr (uf c w M s')))∧Vain c M s s'∧∀ k',k≤k'→k' < c.1.length→ft c p k'=true→dw M k' p=false→sn s' k'=true) ∨
  ((∀ N n,u≤N→m < n→ee (fP N) n (mg c w M p k s)=none)∧∃ s' M',(∀ N n,u≤N→m < n→ee (tP N) n (mg c w M p k s)=some (.inl (ou c w true M' s')))∧More1 c M p s M')
 | 0,k,s,hk,hs,hun=>by
  have e:k=c.1.length:=by omega
  subst e;refine .inl ⟨s,fun N n _ hn=>?_,fun N n _ hn=>?_,Vain.refl hs,fun k' h1 h2=>by omega⟩
  ·obtain⟨n,rfl⟩:∃ n',n=n'+1:=⟨n-1,by omega⟩;simp only[ee,Es]
  ·obtain⟨n,rfl⟩:∃ n',n=n'+1:=⟨n-1,by omega⟩;simp only[ee,Et]
 | m+1,k,s,hk,hs,hun=>by
  have hk':k < c.1.length:=by omega
  have hlk:=hl k hk';have next:∀ s1,(∀ N,u≤N→fP N (mg c w M p k s)=some (.inl (mg c w M p (k+1) s1)))→(∀ N,u≤N→tP N (mg c w M p k s)=some (.inl (mg c w M p (k+1) s1)))→Vain c M s s1→(ft c p k=true→dw M k p=false→sn s1 k=true) →
    (∃ s',(∀ N n,u≤N→m+1 < n→ee (fP N) n (mg c w M p k s)=some (uf c w M s'))∧(∀ N n,u≤N→m+1 < n→ee (tP N) n (mg c w M p k s)=some (.inr (uf c w M s')))∧Vain c M s s'∧∀ k',k≤k'→k' < c.1.length→ft c p k'=true→dw M k' p=false→sn s' k'=true) ∨
    ((∀ N n,u≤N→m+1 < n→ee (fP N) n (mg c w M p k s)=none)∧∃ s' M',(∀ N n,u≤N→m+1 < n→ee (tP N) n (mg c w M p k s)=some (.inl (ou c w true M' s')))∧More1 c M p s M'):=by
   intro s1 f1 f2 v1 v2;rcases wK hu ih h hp hK hl m (k+1) s1 (by omega) v1.ok (Nat.le_trans (mT fun k _ h=>v1.gr k h) hun)with⟨s2,k1,k2,k3,k4⟩ | ⟨k1,s2,M2,k2,k3⟩
   ·refine .inl ⟨s2,fun N n hN hn=>?_,fun N n hN hn=>?_,v1.trans k3,fun k' g1 g2 g3 g4=>?_⟩
    ·obtain⟨n,rfl⟩:∃ n',n=n'+1:=⟨n-1,by omega⟩;simp only[ee,f1 N hN]; exact k1 N n hN (by omega)
    ·obtain⟨n,rfl⟩:∃ n',n=n'+1:=⟨n-1,by omega⟩;simp only[ee,f2 N hN]; exact k2 N n hN (by omega)
    ·by_cases e:k'=k
     ·subst e; exact k3.gr _ (v2 g3 g4)
     ·exact k4 k' (by omega) g2 g3 g4
   ·refine .inr ⟨fun N n hN hn=>?_,s2,M2,fun N n hN hn=>?_,⟨k3.po,k3.cnt,fun k' g1 g2=>k3.same k' g1 (v1.gr k' g2)⟩⟩
    ·obtain⟨n,rfl⟩:∃ n',n=n'+1:=⟨n-1,by omega⟩;simp only[ee,f1 N hN]; exact k1 N n hN (by omega)
    ·obtain⟨n,rfl⟩:∃ n',n=n'+1:=⟨n-1,by omega⟩;simp only[ee,f2 N hN]; exact k2 N n hN (by omega)
  by_cases hskip:ft c p k=false∨sn s k=true∨dw M k p=true
  ·refine next s (fun N _=>fP_skip hk' hp hK h.len hlk hs hskip) (fun N _=>tP_skip hk' hp hK h.len hlk hs hskip) (Vain.refl hs) fun h1 h2=>?_
   rcases hskip with g | g | g
   ·rw[h1]at g; cases g
   ·exact g
   ·rw[h2]at g; cases g
  ·have h1:ft c p k=true:=by cases e:ft c p k with | true=>rfl | false=>exact absurd (.inl e) hskip
   have h2:sn s k=false:=by cases e:sn s k with | false=>rfl | true=>exact absurd (.inr (.inl e)) hskip
   have h3:dw M k p=false:=by cases e:dw M k p with | false=>rfl | true=>exact absurd (.inr (.inr e)) hskip
   obtain⟨m1,m2,m3,m4⟩:=Eo hs h2;by_cases hr:((gt M k).length:Int) < rm c k
   ·refine .inr ⟨fun N n hN hn=>?_,kQ s k,_,fun N n hN hn=>?_,Be h hk' hp h1 h3 hr fun k' hk2 e=>?_⟩
    ·obtain⟨n,rfl⟩:∃ n',n=n'+1:=⟨n-1,by omega⟩;simp only[ee,Eu (N:=N) (w:=w) hk' hp hK h.len hlk hs h1 h2 h3 hr]
    ·obtain⟨n,rfl⟩:∃ n',n=n'+1:=⟨n-1,by omega⟩;simp only[ee,Ev (N:=N) (w:=w) hk' hp hK h.len hlk hs h1 h2 h3 hr]
    ·subst e; rw[h2]at hk2; cases hk2
   ·have hlt:un (sn (kQ s k)) c.1.length < un (sn s) c.1.length:=H6 (fun j _ hj=>m3 j hj) hk' h2 m2;have hu1:u-1 < u:=by omega
    rcases sH (u:=u-1) (by omega) (ih _ hu1) h hk' hp h1 h3 hlk (gt M k).length 0 (kQ s k) (by omega) m1 m2 (by omega)with⟨s1,k1,k2,k3,k4⟩ | ⟨k1,s1,M1,k2,k3⟩
    ·have hfull:FullOf c M s1 k:=by
      refine⟨by have:=h.cap k hk'; omega,fun i hi hin=>?_⟩;obtain⟨j,hj,e⟩:=fC (by simpa [dw]using hin:(i:Int)∈gt M k);exact k4 j i (by omega) hj e
     refine next s1 (fun N hN=>fP_row hk' hp hK h.len hlk hs h1 h2 h3 hr (k1 N _ (by omega) (by omega))) (fun N hN=>tP_row hk' hp hK h.len hlk hs h1 h2 h3 hr (k2 N _ (by omega) (by omega))) ⟨fun j hj=>k3.gr j (m3 j hj),k3.ok,fun j hj hsj=>?_⟩ fun _ _=>k3.gr k m2
     rcases k3.cl j hj hsj with g | g
     ·rcases m4 j g with rfl | g
      ·exact .inr hfull
      ·exact .inl g
     ·exact .inr g
    ·refine .inr ⟨fun N n hN hn=>?_,s1,M1,fun N n hN hn=>?_,k3 s fun k' hk2=>⟨m3 k' hk2,fun e=>by subst e; rw[h2]at hk2; cases hk2⟩⟩
     ·obtain⟨n,rfl⟩:∃ n',n=n'+1:=⟨n-1,by omega⟩;simp only[ee,Bg (N:=N) (w:=w) hk' hp hK h.len hlk hs h1 h2 h3 hr (k1 N _ (by omega) (by omega))]
     ·obtain⟨n,rfl⟩:∃ n',n=n'+1:=⟨n-1,by omega⟩;simp only[ee,yh (N:=N) (w:=w) hk' hp hK h.len hlk hs h1 h2 h3 hr (k2 N _ (by omega) (by omega))]
theorem sK (h:PO c M)(hK:c.1.length < 1000)(hl:∀ k,k < c.1.length→(gt M k).length < 1000000):∀ u,u < 1000→qW c w M u:=by
 intro u
 induction u using Nat.strongRecOn with
 | _ u ih=>
 intro hu p s hp hs hun;rcases wK hu (fun u' hu'=>ih u' hu' (by omega)) h hp (by omega) hl c.1.length 0 s (by omega) hs hun with⟨s1,k1,k2,k3,k4⟩ | ⟨k1,s1,M1,k2,k3⟩
 ·refine .inl ⟨s1,fun N hN=>?_,k3,fun k hk hf hn=>k4 k (by omega) hk hf hn⟩;obtain⟨N,rfl⟩:∃ N',N=N'+1:=⟨N-1,by omega⟩;show KD cN ga (iY N) (pJ (iY N)) (p:Int) c.1 c.2 s [] w M=_;unfold KD;rw[show pJ (iY N) ((p:Int),c.1,(c.1.length:Int),0,c.1,c.2,s,[],w,M)=some (uf c w M s1)from k1 N _ (by omega) (by omega)];rfl
 ·refine .inr ⟨fun N hN=>?_,s1,M1,fun N hN=>?_,k3⟩
  ·obtain⟨N,rfl⟩:∃ N',N=N'+1:=⟨N-1,by omega⟩;show KD cN ga (iY N) (pJ (iY N)) (p:Int) c.1 c.2 s [] w M=_;unfold KD;rw[show pJ (iY N) ((p:Int),c.1,(c.1.length:Int),0,c.1,c.2,s,[],w,M)=none from k1 N _ (by omega) (by omega)];rfl
  ·obtain⟨N,rfl⟩:∃ N',N=N'+1:=⟨N-1,by omega⟩;show wj cN ga P50 (cq N) (mR (cq N)) (p:Int) c.1 c.2 s [] w M=_;unfold wj;rw[show mR (cq N) ((p:Int),c.1,(c.1.length:Int),0,c.1,c.2,s,[],w,M)=some (.inl (ou c w true M1 s1))from k2 N _ (by omega) (by omega)];rfl
theorem Bh (h:PO c M)(hK:c.1.length < 1000)(hl:∀ k,k < c.1.length→(gt M k).length < 1000000){p:Nat}(hp:p < c.2.length):
  (∃ s S,P50 ((p:Int),c.1,c.2,[],[],w,M)=some (false,c.1,c.2,s,[],w,M)∧Closed c M S∧S p=true)∨(P50 ((p:Int),c.1,c.2,[],[],w,M)=none∧∃ s M',P50v1 ((p:Int),c.1,c.2,[],[],w,M)=some (true,c.1,c.2,s,[],w,M')∧PO c M'∧∀ q,q < c.2.length→cnt c M' q=cnt c M q+cr (decide (q=p))):=by
 have h0:∀ k,sn [] k=false:=fun k=>by simp[sn,iZ,fl]
 rcases sK (w:=w) h hK hl c.1.length hK p [] hp (fun k=>by simp[iZ,fl]) (H5 _ _)with⟨s,g1,g2,g3⟩ | ⟨g1,s,M',g2,g3⟩
 ·refine .inl ⟨s,fun q=>(Classical.propDecidable (Vs c M s q)).decide,g1 _ (by omega),fun k hk q hq hS hf hn=>?_,by simpa using g3⟩;have hV:Vs c M s q:=by simpa using hS
  rcases g2.cl k hk (hV k hk hf hn)with g | g
  ·rw[h0]at g; cases g
  ·exact⟨g.1,fun i hi hin=>by simpa using g.2 i hi hin⟩
 ·exact .inr ⟨g1 _ (by omega),s,M',g2 _ (by omega),g3.po,g3.cnt⟩
end
theorem Ew {σ ρ:Type}{step:σ→Option (σ⊕ρ)}{x:σ}{r:ρ}(n:Nat)(h:step x=some (.inr r)):ee step (n+1) x=some r:=by simp only[ee,h]
theorem yi {σ ρ:Type}{step:σ→Option (σ⊕ρ)}{x:σ}{r:ρ}(h:step x=some (.inr r)):af step x=some r:=Ew 18446744073709551615 h
section
def mh (x y:Int):Bool:=decide (x < y)
theorem JT (x y:Int):xY (x,y)=some (mh x y):=by
 have e:∀ z,G1 z=some false:=fun z=>by
  show some (!decide (z=z))=_
  simp
 show P4 G1 x y=_;unfold P4;rw[e,aa,cond_false];simp only[e,aa,mh]
abbrev IA (d:Array Int):List Int:=MA (fun x:Int=>x) d
theorem lN (a:Nat):∀ (j:Nat) (d:Array Int),(Sort.insInner mh a j d).size=d.size
 | 0,d=>by rw[Sort.insInner]
 | j+1,d=>by
  rw[Sort.insInner];split
  ·rw[lN a j,nX]
  ·rfl
variable {M:Mat} {k:Nat} (hk:k < M.length)
include hk
theorem Bi (l:List Int):ix (M.set k l) (k:Int)=l:=by rw[aQ,eO _ _ _ _ hk,if_pos rfl]
theorem SQ {a b i:Nat}{j:Nat}{d:Array Int}(h1:j < d.size)(h2:d.size≤250)(h3:a≤250):
  AG ((k:Int),(a:Int),(b:Int),(i:Int),(j:Int),M.set k (IA d))=some ((k:Int),(a:Int),(b:Int),(i:Int),M.set k (IA (Sort.insInner mh a j d))):=by
 refine px (fun s r n=>∃ (j:Nat) (d:Array Int),j < d.size∧d.size≤250∧s=((k:Int),(a:Int),(b:Int),(i:Int),(j:Int),M.set k (IA d))∧r=((k:Int),(a:Int),(b:Int),(i:Int),M.set k (IA (Sort.insInner mh a j d)))∧n=j) ⟨j,d,h1,h2,rfl,rfl,rfl⟩ (by omega) ?_;rintro s r n ⟨j,d,q1,q2,rfl,rfl,rfl⟩;simp only[u6,G7,AF];cases n with
 | zero=>left; simp(disch:=omega) only[Ll,dF,cond_false,Sort.insInner,Int.toNat_natCast]
 | succ j=>
  by_cases e:a < j+1
  ·simp(disch:=omega) only[Ll,dT,cond_true,Bi hk,zR,bg,p1,Ju,EQ,JT,aa,Nat.add_sub_cancel,Int.toNat_natCast]
   cases hl:mh d[j+1]! d[j]!
   ·left;rw[show Sort.insInner mh a (j+1) d=d by rw[Sort.insInner]; simp[hl]];simp only[cond_false]
   ·right;rw[show Sort.insInner mh a (j+1) d=Sort.insInner mh a j (Sort.swp d (j+1) j)by rw[Sort.insInner]; simp[hl,e]];have e1:(IA d).set (j+1) d[j]! = IA (d.setIfInBounds (j+1) d[j]!):=zS (v:=fun x:Int=>x) d (j+1) d[j]!;have e2:(IA (d.setIfInBounds (j+1) d[j]!)).set j d[j+1]! = IA (Sort.swp d (j+1) j):=zS (v:=fun x:Int=>x) _ j d[j+1]!
    simp(disch:=omega) only[cond_true,List.set_set,Bi hk,e1,C1,e2,bg]
    exact⟨_,j,rfl,⟨j,Sort.swp d (j+1) j,by rw[nX]; omega,by rwa [nX],rfl,rfl,rfl⟩,by omega⟩
  ·left;rw[show Sort.insInner mh a (j+1) d=d by rw[Sort.insInner]; simp[e]]
   simp(disch:=omega) only[Ll,dF,cond_false,Int.toNat_natCast]
theorem ins {a b:Nat}{d:Array Int}(hb:b≤d.size)(hz:d.size≤250)(ha:a≤250):sj ((k:Int),(a:Int),(b:Int),M.set k (IA d))=some (M.set k (IA (Sort.insertionSort mh d a b))):=by
 have e:AI ((k:Int),(a:Int),(b:Int),((a+1:Nat):Int),M.set k (IA d))=some (M.set k (IA (Sort.insOuter mh a b (a+1) d))):=by
  refine px (fun s r n=>∃ (i:Nat) (d:Array Int),b≤d.size∧d.size≤250∧s=((k:Int),(a:Int),(b:Int),(i:Int),M.set k (IA d))∧r=M.set k (IA (Sort.insOuter mh a b i d))∧n=b-i) ⟨a+1,d,hb,hz,rfl,rfl,rfl⟩ (by omega) ?_;rintro s r n ⟨i,d,q1,q2,rfl,rfl,rfl⟩;simp only[u5,G9,AH];rw[Sort.insOuter];by_cases e:i < b
  ·right
   simp(disch:=omega) only[Ll,dT,cond_true,Int.toNat_natCast,SQ hk,aa,Ju,bg,a1]
   exact⟨_,b-(i+1),rfl,⟨i+1,Sort.insInner mh a i d,by rwa [lN],by rwa [lN],rfl,by rw[if_pos e],rfl⟩,by omega⟩
  ·left
   simp(disch:=omega) only[Ll,dF,cond_false,if_neg e]
 simp(disch:=omega) only[u4,sj,TD,Sk,Ju,bg,a1,Int.toNat_natCast,e,aa,Sort.insertionSort]
omit hk in
theorem SR:∀ n:Nat,n≤8→∃ r:Int,G0 (n:Int)=some r
 | 0,_=>⟨0,by kernel_rfl⟩
 | 1,_=>⟨1,by kernel_rfl⟩
 | 2,_=>⟨2,by kernel_rfl⟩
 | 3,_=>⟨2,by kernel_rfl⟩
 | 4,_=>⟨3,by kernel_rfl⟩
 | 5,_=>⟨3,by kernel_rfl⟩
 | 6,_=>⟨3,by kernel_rfl⟩
 | 7,_=>⟨3,by kernel_rfl⟩
 | 8,_=>⟨4,by kernel_rfl⟩
 | n+9,h=>by omega
theorem Bj (hl:(gt M k).length≤8):∃ l',P51 ((k:Int),M)=some (M.set k l')∧l'.Perm (gt M k)∧∀ i j,i < j→j < l'.length→gt l' i≤gt l' j:=by
 let d:Array Int:=(gt M k).toArray
 have hd:IA d=gt M k:=by simp[IA,MA,d]
 have hds:d.size=(gt M k).length:=by simp[d]
 have hM:M.set k (IA d)=M:=by
  rw[hd];refine Jt (by simp) fun i hi=>?_;rw[eO _ _ _ _ hk];split
  ·rename_i e; rw[e]
  ·rfl
 have hlt:∀ x y:Int,mh x y=true↔x < y:=fun x y=>by simp[mh]
 have hlf:∀ x y:Int,mh x y=false↔y≤x:=fun x y=>by simp[mh]
 have hS:Sort.SWO mh:=⟨fun x=>(hlf x x).2 (Int.le_refl _),fun x y z h1 h2=>(hlt _ _).2 (Int.lt_trans ((hlt _ _).1 h1) ((hlt _ _).1 h2)),fun x y z h1 h2=>(hlf _ _).2 (Int.le_trans ((hlf _ _).1 h2) ((hlf _ _).1 h1))⟩
 obtain⟨s1,s2⟩:=(Sort.insertionSort_holds:Sort.insertionSort_stmt mh) hS d 0 d.size (Nat.zero_le _) (Nat.le_refl _);have hi:=ins (M:=M) hk (a:=0) (b:=d.size) (d:=d) (Nat.le_refl _) (by omega) (by omega);rw[hM]at hi;obtain⟨r,hr⟩:=SR (gt M k).length hl;have e63:Hg ((k:Int),0,((gt M k).length:Int),r,M)=some (M.set k (IA (Sort.insertionSort mh d 0 d.size))):=by
  have eL:wn ((k:Int),0,((gt M k).length:Int),r,true,true,M)=some (M.set k (IA (Sort.insertionSort mh d 0 d.size))):=by
   refine yi ?_;have g:decide (((gt M k).length:Int)-0≤12)=true:=by simp; omega
   have f:aw .i64 (((gt M k).length:Int)-0)=true:=bz (by omega) (by omega);rw[hds]at hi;show wm sj AJ (k:Int) 0 ((gt M k).length:Int) r true true M=_;unfold wm;rw[f,bg,g,cond_true,Int.toNat_natCast,show sj ((k:Int),0,((gt M k).length:Int),M)=_ from hi,hds];rfl
  show P5 sj wn (k:Int) 0 ((gt M k).length:Int) r M=_;unfold P5;rw[Int.toNat_natCast,eL]; rfl
 have fu:aw .u64 ((gt M k).length:Int)=true:=sU (by omega) (by omega);refine⟨IA (Sort.insertionSort mh d 0 d.size),?_,?_,fun i j h1 h2=>?_⟩
 ·show P6 G0 Hg (k:Int) M=_;unfold P6;rw[aQ,fu,bg,hr,aa,Int.toNat_natCast,e63]; rfl
 ·have hp:=s1.2.2;have e1:∀ r:Array Int,r.size=d.size→r.extract 0 d.size=r:=fun r hr=>by rw[← hr]; simp
  rw[e1 _ s1.1,show d.extract 0 d.size=d by simp]at hp;have:=hp.map (fun x:Int=>x);rw[← hd];exact this
 ·rw[zQ]at h2;have e:∀ k,k < (Sort.insertionSort mh d 0 d.size).size→gt (IA (Sort.insertionSort mh d 0 d.size)) k=(Sort.insertionSort mh d 0 d.size)[k]!:=fun k hk=>by rw[← aQ,EQ hk]
  rw[e i (by omega),e j h2];exact(hlf _ _).1 (s2 i j (Nat.zero_le _) h1 (by have:=s1.1; omega))
end
section
variable {c:bQ} {w:List Int}
theorem iI (hv:aP c=true){k:Nat}(hk:k < c.1.length):0≤rm c k∧rm c k≤6:=by
 have:=ja hv hk;unfold s6 at this;simp only[Bool.and_eq_true,fA]at this;rw[rm,bp];exact this.2.2
theorem PO.short {M:Mat}(hv:aP c=true)(h:PO c M){k:Nat}(hk:k < c.1.length):(gt M k).length≤6:=by
 have h1:=h.cap k hk;have h2:=(iI hv hk).2;omega
abbrev T4:=Int×Int×Int×Int×Int×List oL×List oc×List Int×aX×Mat
def KW (c:bQ)(w:List Int)(i:Nat)(T t:Int)(M:Mat):T4:=((i:Int),(w.length:Int),(i:Int),T,t,c.1,c.2,w,[],M)
theorem Bk (hv:aP c=true){i:Nat}(hi:i < c.2.length){T:Int}(hT:0≤T∧T≤8){M:Mat}(h:PO c M)(h0:cnt c M i=0){S:SetB}(hS:Closed c M S):
  ∃ M',pK (KW c w i T 0 M)=some ((w.length:Int),(i:Int),c.1,c.2,w,[],M')∧PO c M'∧(∀ q,q < c.2.length→q≠i→cnt c M' q=cnt c M q)∧cnt c M' i≤T∧∃ S',Closed c M' S'∧(∀ q,S q=true→S' q=true)∧(cnt c M' i < T→S' i=true):=by
 have hK:=(aZ hv).1;have key:=tX (step:=fun x=>Hp x.1 x.2.1 x.2.2.1 x.2.2.2.1 x.2.2.2.2.1 x.2.2.2.2.2.1 x.2.2.2.2.2.2.1 x.2.2.2.2.2.2.2.1 x.2.2.2.2.2.2.2.2.1 x.2.2.2.2.2.2.2.2.2) (fun s:T4=>(T-s.2.2.2.2.1).toNat)
  (fun s=>∃ t M',s=KW c w i T t M'∧0≤t∧t≤T∧PO c M'∧(∀ q,q < c.2.length→q≠i→cnt c M' q=cnt c M q)∧cnt c M' i=t∧Closed c M' S)
  (fun r=>∃ M',r=((w.length:Int),(i:Int),c.1,c.2,w,[],M')∧PO c M'∧(∀ q,q < c.2.length→q≠i→cnt c M' q=cnt c M q)∧cnt c M' i≤T∧∃ S',Closed c M' S'∧(∀ q,S q=true→S' q=true)∧(cnt c M' i < T→S' i=true))
  (x:=KW c w i T 0 M) ⟨0,M,rfl,by omega,by omega,h,fun _ _ _=>rfl,h0,hS⟩ (by simp only[KW]; omega) (by
   rintro s ⟨t,M',rfl,t0,t1,hP,hq,hc,hS'⟩;have hl:∀ k,k < c.1.length→(gt M' k).length < 1000000:=fun k hk=>by have:=hP.short hv hk; omega
   by_cases ht:t < T
   ·rcases Bh (w:=w) hP (by omega) hl hi with⟨s,S1,e1,e2,e3⟩ | ⟨e1,s,M2,e2,e3,e4⟩
    ·refine .inr ⟨((w.length:Int),(i:Int),c.1,c.2,w,[],M'),?_,M',rfl,hP,hq,by omega,fun q=>S q||S1 q,yf hS' e2,fun q h=>by simp only[h,Bool.true_or],fun _=>by simp only[e3,Bool.or_true]⟩;show me P11 P37 P50 P50v1 P51 (i:Int) (w.length:Int) (i:Int) T t c.1 c.2 w [] M'=_;unfold me;rw[decide_eq_true ht,cond_true,e1];rfl
    ·refine .inl ⟨KW c w i T (t+1) M2,?_,⟨t+1,M2,rfl,by omega,by omega,e3,fun q h1 h2=>?_,?_,sF hP e3 hS' fun q h1=>?_⟩,?_⟩
     ·show me P11 P37 P50 P50v1 P51 (i:Int) (w.length:Int) (i:Int) T t c.1 c.2 w [] M'=_;unfold me;rw[decide_eq_true ht,cond_true,e1];simp only[Je,e2,aa,Bool.not_true,cond_false];rw[ah (bz (by omega) (by omega))];rfl
     ·rw[e4 q h1,hq q h1 h2]; simp[h2,cr]
     ·rw[e4 i hi,hc]; simp[cr]
     ·rw[e4 q h1]; have:=fZ (decide (q=i)); omega
     ·simp only[KW]; omega
   ·refine .inr ⟨((w.length:Int),(i:Int),c.1,c.2,w,[],M'),?_,M',rfl,hP,hq,by omega,S,hS',fun q h=>h,fun h=>by omega⟩;show me P11 P37 P50 P50v1 P51 (i:Int) (w.length:Int) (i:Int) T t c.1 c.2 w [] M'=_;unfold me;rw[decide_eq_false ht,cond_false])
 obtain⟨r,e,M',rfl,g⟩:=key;exact⟨M',e,g⟩
structure PlanI (c:bQ) (w:List Int) (n:Nat) (M:Mat):Prop where
 po:PO c M
 le:∀ q,q < n→cnt c M q≤ix w (q:Int)
 zero:∀ q,n≤q→q < c.2.length→cnt c M q=0
 set:∃ S,Closed c M S∧∀ q,q < n→cnt c M q < ix w (q:Int)→S q=true
theorem Bl (hv:aP c=true)(hw:w.length=c.2.length)(hwb:∀ i:Nat,i < w.length→0≤ix w (i:Int)∧ix w (i:Int)≤8){M:Mat}(h:PlanI c w 0 M):∃ M',sm ((w.length:Int),0,c.1,c.2,w,[],M)=some (c.1,c.2,w,[],M')∧PlanI c w c.2.length M':=by
 have hn:=(aZ hv).2;have key:=pw (step:=fun x=>Hr x.1 x.2.1 x.2.2.1 x.2.2.2.1 x.2.2.2.2.1 x.2.2.2.2.2.1 x.2.2.2.2.2.2) c.2.length
  (fun k s=>∃ M',s=((w.length:Int),(k:Int),c.1,c.2,w,[],M')∧PlanI c w k M') (fun r=>∃ M',r=(c.1,c.2,w,[],M')∧PlanI c w c.2.length M')
  (x:=((w.length:Int),0,c.1,c.2,w,[],M)) ⟨M,rfl,h⟩ (by omega) (by
   rintro k s hk ⟨M',rfl,hI⟩;obtain⟨S,hS1,hS2⟩:=hI.set;obtain⟨M2,e,g1,g2,g3,S',g4,g5,g6⟩:=Bk (w:=w) hv hk (hwb k (by omega)) hI.po (hI.zero k (Nat.le_refl _) hk) hS1;refine⟨((w.length:Int),((k+1:Nat):Int),c.1,c.2,w,[],M2),?_,M2,rfl,⟨g1,fun q hq=>?_,fun q h1 h2=>?_,S',g4,fun q hq hlt=>?_⟩⟩
   ·show pL P11 P37 P50 P50v1 P51 pK (w.length:Int) (k:Int) c.1 c.2 w [] M'=_;unfold pL;rw[hw,au hk,cond_true,ah (aj (by omega)),← hw,show pK ((k:Int),(w.length:Int),(k:Int),ix w (k:Int),0,c.1,c.2,w,[],M')=_ from e,aa];simp only[ah (aq (k:=k) (by omega)),aC]
   ·by_cases e1:q=k
    ·subst e1; exact g3
    ·rw[g2 q (by omega) e1]; exact hI.le q (by omega)
   ·rw[g2 q h2 (by omega)]; exact hI.zero q (by omega) h2
   ·by_cases e1:q=k
    ·subst e1; exact g6 hlt
    ·rw[g2 q (by omega) e1]at hlt; exact g5 q (hS2 q (by omega) hlt))
  (by
   rintro s ⟨M',rfl,hI⟩;refine⟨_,?_,M',rfl,hI⟩;show pL P11 P37 P50 P50v1 P51 pK (w.length:Int) (c.2.length:Int) c.1 c.2 w [] M'=_;unfold pL;rw[hw,az,cond_false])
 obtain⟨r,e,M',rfl,g⟩:=key;exact⟨M',e,g⟩
theorem PlanI.perm {n:Nat}{M M':Mat}(h:PlanI c w n M)(hl:M'.length=c.1.length)(hp:∀ k,k < c.1.length→(gt M' k).Perm (gt M k)):PlanI c w n M':=by
 have hin:∀ k i,k < c.1.length→dw M' k i=dw M k i:=fun k i hk=>decide_eq_decide.2 (hp k hk).mem_iff;have hc:∀ q,cnt c M' q=cnt c M q:=fun q=>aF fun k hk=>by rw[hin k q hk]
 refine⟨⟨hl,fun k hk q hq=>h.po.row k hk q ((hp k hk).mem_iff.1 hq),fun k hk=>(hp k hk).nodup_iff.2 (h.po.nd k hk),fun k hk=>by rw[(hp k hk).length_eq]; exact h.po.cap k hk⟩,fun q hq=>by rw[hc]; exact h.le q hq,fun q h1 h2=>by rw[hc]; exact h.zero q h1 h2,?_⟩;obtain⟨S,h1,h2⟩:=h.set;refine⟨S,fun k hk q hq hS hf hn=>?_,fun q hq hlt=>h2 q hq (by rw[← hc]; exact hlt)⟩;rw[hin k q hk]at hn;obtain⟨g1,g2⟩:=h1 k hk q hq hS hf hn;exact⟨by rw[(hp k hk).length_eq]; exact g1,fun i hi hi2=>g2 i hi (by rw[← hin k i hk]; exact hi2)⟩
def Pl (l:List Int):Prop:=∀ i j,i < j→j < l.length→gt l i≤gt l j
theorem Bm (hv:aP c=true){M:Mat}(h:PO c M):∃ M',so ((M.length:Int),0,M)=some M'∧M'.length=c.1.length∧∀ k,k < c.1.length→(gt M' k).Perm (gt M k)∧Pl (gt M' k):=by
 have hK:=(aZ hv).1;have hl:=h.len;have key:=pw (step:=fun x=>Ht x.1 x.2.1 x.2.2) M.length
  (fun k s=>∃ M',s=((M.length:Int),(k:Int),M')∧M'.length=c.1.length∧(∀ k',k' < c.1.length→(gt M' k').Perm (gt M k'))∧(∀ k',k' < k→Pl (gt M' k'))) (fun M'=>M'.length=c.1.length∧∀ k,k < c.1.length→(gt M' k).Perm (gt M k)∧Pl (gt M' k))
  (x:=((M.length:Int),0,M)) ⟨M,rfl,hl,fun k' _=>.refl _,fun k' hk=>by omega⟩ (by omega) (by
   rintro k s hk ⟨M',rfl,m1,m2,m3⟩;have hk':k < M'.length:=by omega
   obtain⟨l',e,p1,p2⟩:=Bj (M:=M') hk' (by rw[(m2 k (by omega)).length_eq]; have:=h.short hv (k:=k) (by omega); omega);refine⟨((M.length:Int),((k+1:Nat):Int),M'.set k l'),?_,M'.set k l',rfl,by rw[List.length_set]; exact m1,fun k' hk2=>?_,fun k' hk2=>?_⟩
   ·show pM P11 P37 P50 P50v1 P51 (M.length:Int) (k:Int) M'=_;unfold pM;rw[au hk,cond_true,ah (aj hk'),Int.toNat_natCast,e,aa,ah (aq (by omega)),aC]
   ·rw[eO _ _ _ _ hk'];split
    ·rename_i e1; subst e1; exact p1.trans (m2 k (by omega))
    ·exact m2 k' hk2
   ·rw[eO _ _ _ _ hk'];split
    ·exact p2
    ·exact m3 k' (by omega))
  (by
   rintro s ⟨M',rfl,m1,m2,m3⟩;refine⟨M',?_,m1,fun k hk=>⟨m2 k hk,m3 k (by omega)⟩⟩;show pM P11 P37 P50 P50v1 P51 (M.length:Int) (M.length:Int) M'=_;unfold pM;rw[az,cond_false])
 exact key
theorem eu:(bB c).length=c.2.length:=by simp[bB]
theorem JU (hv:aP c=true):∃ plan,P26 c=some (plan,0)∧PlanI c (bB c) c.2.length plan∧∀ k,k < c.1.length→Pl (gt plan k):=by
 have hb:=aZ hv;have h0:PlanI c (bB c) 0 (cP c.1.length []):=by
  have hg:∀ k,gt (cP c.1.length ([]:List Int)) k=[]:=fun k=>by
   simp only[gt,cP,List.getD_eq_getElem?_getD,List.getElem?_replicate];split <;> rfl
  refine⟨⟨by simp[cP],fun k hk q hq=>(by rw[hg]at hq; cases hq),fun k _=>by rw[hg]; exact .nil,fun k hk=>by rw[hg]; exact(iI hv hk).1⟩,fun q hq=>by omega,fun q _ _=>?_,fun _=>false,sG,fun q hq=>by omega⟩;unfold cnt;rw[aF (g:=fun _=>0) fun k _=>by simp[dw,hg,cr],dx]
 obtain⟨M,e1,g1⟩:=Bl hv eu (fun i hi=>by
  rw[eu]at hi;rw[dy hi]; exact cV hv hi) h0
 obtain⟨M',e2,m1,m2⟩:=Bm hv g1.po;refine⟨M',?_,g1.perm m1 fun k hk=>(m2 k hk).1,fun k hk=>(m2 k hk).2⟩;show KG P11 P37 P50 P50v1 P51 sm so c=_;unfold KG;rw[gS,hv,cond_true,aa,oj c (by omega)];simp only[decide_true,Bool.not_true,cond_false,aa];rw[ah (by simp),ah (decide_eq_true (by omega)),Int.toNat_natCast,e1,aa,e2];rfl
end
section
variable {c:bQ} {plan:Mat}
theorem Ex {l:List Int}{q:Int}(h0:0≤q)(h1:q < l.length)(i:Nat):ix (bump q l) (i:Int)=ix l (i:Int)+cr (decide (q=(i:Int))):=by
 unfold bump;rw[aQ,aQ,eO _ _ _ _ (by omega)];by_cases e:q.toNat=i
 ·have:q=(i:Int):=by omega
  rw[if_pos e,this,aQ]; simp[cr]
 ·have:¬ q=(i:Int):=by omega
  rw[if_neg e]; simp[this,cr]
theorem og (l:List Int)(cnt:List Int):∀ k,(rowN l k cnt).length=cnt.length
 | 0=>rfl
 | k+1=>by
  show(bump _ (rowN l k cnt)).length=_;unfold bump;rw[List.length_set,og l cnt k]
theorem wL {l:List Int}{m:Nat}(hl:gY l m){cnt:List Int}(hc:cnt.length=m)(i:Nat):∀ k,k≤l.length→ix (rowN l k cnt) (i:Int)=ix cnt (i:Int)+sumN k fun j=>cr (decide (ix l (j:Int)=(i:Int)))
 | 0,_=>by show ix cnt (i:Int)=_+(0:Int); omega
 | k+1,hk=>by
  have:=hl k (by omega);show ix (bump (ix l (k:Int)) (rowN l k cnt)) (i:Int)=_;rw[Ex this.1 (by rw[og,hc]; exact this.2),wL hl hc i k (by omega),aE]; omega
theorem Bn {l:List Int}(hd:l.Nodup)(i:Nat):sumN l.length (fun j=>cr (decide (ix l (j:Int)=(i:Int))))=cr (decide ((i:Int)∈l)):=by
 by_cases h:(i:Int)∈l
 ·obtain⟨j,hj,e⟩:=fC h;rw[gy (a:=j) hj fun k hk hne=>?_,aQ,e]
  ·simp[h]
  ·rw[aQ];have:gt l k≠(i:Int):=fun e2=>by
    rcases Nat.lt_trichotomy k j with g | g | g
    ·exact kR.1 hd k j g hj (e2.trans e.symm)
    ·exact hne g
    ·exact kR.1 hd j k g hk (e.trans e2.symm)
   simp[this,cr]
 ·rw[aF (g:=fun _=>0) fun k hk=>?_,dx]
  ·simp[h,cr]
  ·rw[aQ];have:gt l k≠(i:Int):=fun e=>h (e▸bT hk)
   simp[this,cr]
theorem lO (cnt:List Int):∀ k,(planN plan k cnt).length=cnt.length
 | 0=>rfl
 | k+1=>by
  show(rowN _ _ (planN plan k cnt)).length=_;rw[og,lO cnt k]
theorem sL {m:Nat}(hl:∀ k,k < plan.length→gY (gt plan k) m∧(gt plan k).Nodup){cnt:List Int}(hc:cnt.length=m)(i:Nat):∀ k,k≤plan.length→ix (planN plan k cnt) (i:Int)=ix cnt (i:Int)+sumN k fun j=>cr (dw plan j i)
 | 0,_=>by show ix cnt (i:Int)=_+(0:Int); omega
 | k+1,hk=>by
  have:=hl k (by omega);show ix (rowN (gt plan k) (gt plan k).length (planN plan k cnt)) (i:Int)=_;rw[wL this.1 (by rw[lO,hc]) i _ (Nat.le_refl _),sL hl hc i k (by omega),Bn this.2,aE];unfold dw; omega
theorem lP {k:Nat}{l:List Int}:dX c k l=true↔∀ j,j < l.length→(0≤gt l j∧gt l j≤(c.2.length:Int)-1)∧(∀ i,i+1=j→gt l i < gt l j)∧fF (ix c.2 (gt l j)) (ix c.1 (k:Int))=true:=by
 unfold dX;rw[bU];refine forall_congr' fun j=>forall_congr' fun hj=>?_;unfold EB;rw[aQ];simp only[Bool.and_eq_true,fA,Bool.not_eq_true',Bool.and_eq_false_iff,decide_eq_false_iff_not];constructor
 ·rintro⟨h1,h2,h3⟩;refine⟨h1,fun i hi=>?_,h3⟩;subst hi;rcases h2 with h2 | h2
  ·exact absurd (by omega) h2
  ·rw[show((i+1:Nat):Int)-1=(i:Int)by omega,aQ]at h2; omega
 ·rintro⟨h1,h2,h3⟩;refine⟨h1,?_,h3⟩;cases j with
  | zero=>left; omega
  | succ j=>right; rw[show((j+1:Nat):Int)-1=(j:Int)by omega,aQ]; have:=h2 j rfl; omega
theorem sM {l:List Int}(h:∀ j,j < l.length→∀ i,i+1=j→gt l i < gt l j):∀ i j,i < j→j < l.length→gt l i < gt l j:=by
 intro i j
 induction j with
 | zero=>intro h1; omega
 | succ j ih=>
  intro h1 h2;have:=h (j+1) h2 j rfl;by_cases e:i=j
  ·subst e; exact this
  ·have:=ih (by omega) (by omega); omega
theorem jY:bK c plan=true↔plan.length=c.1.length∧∀ k,k < plan.length→((gt plan k).length:Int)≤rm c k∧dX c k (gt plan k)=true:=by
 unfold bK;simp only[Bool.and_eq_true,decide_eq_true_eq,bU,Bool.not_eq_true',decide_eq_false_iff_not];refine and_congr_right fun _=>forall_congr' fun k=>forall_congr' fun _=>?_;show ¬ rm c k < ((gt plan k).length:Int)∧_↔_;rw[Int.not_lt]; rfl
theorem wM (h:bK c plan=true):PO c plan:=by
 obtain⟨h1,h2⟩:=jY.1 h;refine⟨h1,fun k hk q hq=>?_,fun k hk=>?_,fun k hk=>(h2 k (by omega)).1⟩
 ·obtain⟨j,hj,rfl⟩:=fC hq;obtain⟨g1,_,g3⟩:=lP.1 (h2 k (by omega)).2 j hj;refine⟨(gt (gt plan k) j).toNat,by omega,by omega,?_⟩;unfold ft;rw[show(((gt (gt plan k) j).toNat:Nat):Int)=gt (gt plan k) j by omega];exact g3
 ·have:=lP.1 (h2 k (by omega)).2;refine kR.2 fun i j h3 h4 e=>?_;have:=sM (fun j hj=>(this j hj).2.1) i j h3 h4;omega
theorem Pm (h:PO c plan)(ha:∀ k,k < c.1.length→Pl (gt plan k)):bK c plan=true:=by
 refine jY.2 ⟨h.len,fun k hk=>?_⟩;rw[h.len]at hk;refine⟨h.cap k hk,lP.2 fun j hj=>?_⟩;obtain⟨i,hi,e,hf⟩:=h.row k hk _ (bT hj);refine⟨by omega,fun i' hi'=>?_,?_⟩
 ·have h1:=ha k hk i' j (by omega) hj;have h2:=kR.1 (h.nd k hk) i' j (by omega) hj;omega
 ·rw[e]; exact hf
theorem JV (h:bK c plan=true)(k:Nat)(hk:k < plan.length):gY (gt plan k) c.2.length∧(gt plan k).Nodup:=⟨sS h hk,(wM h).nd k (by rw[← (wM h).len]; exact hk)⟩
theorem JW (i:Nat):ix (ui c) (i:Int)=0:=by
 rw[aQ];simp only[gt,ui,List.getD_eq_getElem?_getD,List.getElem?_replicate];split <;> rfl
theorem sN (h:bK c plan=true)(i:Nat):ix (dn c plan) (i:Int)=cnt c plan i:=by
 unfold dn;rw[sL (m:=c.2.length) (JV h) (by simp[ui]) i _ (Nat.le_refl _),JW,(wM h).len];unfold cnt; omega
theorem lQ (c:bQ)(plan:Mat):(dn c plan).length=c.2.length:=by
 unfold dn; rw[lO]; simp[ui]
def BZ (c:bQ)(plan:Mat):Int:=sumN c.2.length fun i=>min (cnt c plan i) (bV c i).2.1
theorem oh (hv:aP c=true)(h:bK c plan=true):dU c plan=(BZ c plan,0,dn c plan):=by
 unfold dU;rw[hv,h,cond_true,cond_true,lQ];have:dS c (dn c plan) c.2.length=BZ c plan:=by
  show sumN c.2.length (fun i=>min (ix (dn c plan) (i:Nat)) (bV c i).2.1)=_;exact aF fun i _=>by rw[sN h]
 rw[this]
def jh (c:bQ)(S:SetB):Int:=sumN c.2.length (fun i=>cond (S i) 0 (bV c i).2.1)+sumN c.1.length (fun k=>bS c S k)
theorem jZ {S T:SetB}(h:∀ i,i < c.2.length→S i=T i):jh c S=jh c T:=by
 unfold jh;congr 1
 ·exact aF fun i hi=>by rw[h i hi]
 ·refine aF fun k hk=>?_;unfold bS;congr 1;exact aF fun i hi=>by simp only[h i hi]
theorem wN (x:Int):fH c [] (bB c) x=jh c fun i=>cD x (i:Int):=by
 unfold fH jh;rw[eu];congr 1
 ·exact aF fun i hi=>by rw[dy hi]
 ·refine aF fun k hk=>?_;show min (rm c k) (cC c [] x k c.2.length)=_;unfold bS;congr 1;unfold cC aD;refine aF fun i hi=>?_;have:jy c [] i k=ft c i k:=by
   unfold jy ft
   simp[iZ,fl]
  rw[this]
theorem JX (h:PO c plan)(S:SetB):BZ c plan≤jh c S:=by
 have h1:BZ c plan≤sumN c.2.length (fun i=>cond (S i) 0 (bV c i).2.1+cond (S i) (cnt c plan i) 0):=dV fun i _=>by cases S i <;> simp <;> omega
 rw[cU,mS]at h1;have h2:=dV (n:=c.1.length) fun k hk=>Bc h S hk;unfold jh; omega
theorem sO (hv:aP c=true)(h:PO c plan):BZ c plan≤most c:=by
 obtain⟨k,_,e⟩:=sV (c:=c) (d:=[]) (w:=bB c);unfold most;rw[e,wN];exact JX h _
theorem ug (hv:aP c=true)(hn:c.2.length≤4)(h:PlanI c (bB c) c.2.length plan):BZ c plan=most c:=by
 refine Int.le_antisymm (sO hv h.po) ?_;obtain⟨S,h1,h2⟩:=h.set;obtain⟨x,g1,g2⟩:=qT c.2.length hn S;have h3:=oq (c:=c) (d:=[]) (w:=bB c) (k:=x) g1;rw[wN]at h3;have e1:jh c (fun i=>cD (x:Int) (i:Int))=jh c S:=jZ g2;rw[e1]at h3;refine Int.le_trans h3 ?_;have hle:∀ i,i < c.2.length→cnt c plan i≤(bV c i).2.1:=fun i hi=>by have:=h.le i hi; rwa [dy hi]at this
 have e2:BZ c plan=sumN c.2.length (fun i=>cond (S i) 0 (cnt c plan i)+cond (S i) (cnt c plan i) 0):=aF fun i hi=>by
  have:=hle i hi;cases S i <;> simp <;> omega
 rw[e2,cU,mS,aF fun k hk=>kP h.po h1 hk];unfold jh;have:sumN c.2.length (fun i=>cond (S i) 0 (bV c i).2.1)≤sumN c.2.length (fun i=>cond (S i) 0 (cnt c plan i)):=dV fun i hi=>by
  cases hs:S i with
  | true=>exact Int.le_refl _
  | false=>
   simp only[cond_false];have h4:=h2 i hi;rw[dy hi]at h4;rcases Int.lt_or_le (cnt c plan i) (bV c i).2.1 with g | g
   ·rw[h4 g]at hs; cases hs
   ·exact g
 omega
end
section
variable {c:bQ}
def gT (x:Int):Nat→List Int
 | 0=>[]
 | m+1=>gT x m++cond (cD x (m:Int)) [(m:Int)] []
theorem iJ {x y:Int}:∀ {m:Nat},y∈gT x m↔∃ i:Nat,i < m∧y=(i:Int)∧cD x (i:Int)=true
 | 0=>by simp[gT]
 | m+1=>by
  simp only[gT,List.mem_append,iJ (m:=m)];constructor
  ·rintro(⟨i,h1,h2,h3⟩ | h)
   ·exact⟨i,by omega,h2,h3⟩
   ·cases hb:cD x (m:Int)with
    | true=>rw[hb]at h; exact⟨m,by omega,by simpa using h,hb⟩
    | false=>rw[hb]at h; cases h
  ·rintro⟨i,h1,h2,h3⟩;by_cases e:i=m
   ·subst e; right; rw[h3]; simp[h2]
   ·left; exact⟨i,by omega,h2,h3⟩
theorem oi (x:Int):∀ m,(gT x m).length≤m
 | 0=>Nat.le_refl _
 | m+1=>by
  have:=oi x m;simp only[gT,List.length_append];cases cD x (m:Int) <;> simp <;> omega
theorem sP (x:Int):∀ m,(gT x m).Pairwise (· < ·)
 | 0=>.nil
 | m+1=>by
  simp only[gT];refine List.pairwise_append.2 ⟨sP x m,by cases cD x (m:Int) <;> simp,fun a ha b hb=>?_⟩;obtain⟨i,h1,rfl,_⟩:=iJ.1 ha;cases h:cD x (m:Int)with
  | true=>
   rw[h]at hb;have:b=(m:Int):=by simpa using hb
   omega
  | false=>rw[h]at hb; cases hb
def fE (c:bQ):Int:=(de c [] (bB c) (setsN c)).1
theorem Bo (hv:aP c=true):P27 c=some (0,gT (fE c) c.2.length):=by
 have hn:=(aZ hv).2;have key:pO (fE c,(c.2.length:Int),0,[])=some (gT (fE c) c.2.length):=by
  refine aJ (step:=fun x=>Hx x.1 x.2.1 x.2.2.1 x.2.2.2) c.2.length (fun k=>(fE c,(c.2.length:Int),(k:Int),gT (fE c) k)) _ (fun k hk=>?_) ?_ (by omega)
  ·show pN P11 P37 P45 P52 (fE c) (c.2.length:Int) (k:Int) (gT (fE c) k)=_;unfold pN;rw[au hk,cond_true,ul,aa];have hs:=oi (fE c) k;cases hb:cD (fE c) (k:Int)with
   | true=>rw[cond_true,ah (cK (by simp; omega)),ah (aq (by omega))]; simp only[gT,hb,cond_true,aC]
   | false=>rw[cond_false,ah (aq (by omega))]; simp only[gT,hb,cond_false,List.append_nil,aC]
  ·show pN P11 P37 P45 P52 (fE c) (c.2.length:Int) (c.2.length:Int) _=_;unfold pN;rw[az,cond_false]
 show KI P11 P37 P45 P52 pO c=_;unfold KI;rw[gS,hv,cond_true,aa,oj c (by omega)];simp only[decide_true,Bool.not_true,cond_false,aa];rw[BM (kb hv),aa];rw[show pO ((de c [] (bB c) (setsN c)).1,(c.2.length:Int),0,[])=_ from key,aa]
theorem Bp (hv:aP c=true):jh c (fun i=>cD (fE c) (i:Int))=most c:=by
 obtain⟨_,_,k,h1,_,h3⟩:=kS (c:=c) (d:=[]) (w:=bB c) (setsN c);unfold fE most ka;rw[h1,← wN,h3]
def iK (c:bQ)(l:List Int):Bool:=bZ l.length fun k=>wi (ix l (k:Int)) 0 ((c.2.length:Int)-1)&&!(decide ((0:Int) < (k:Int))&&decide (ix l (k:Int)≤ix l ((k:Int)-1)))
theorem Bq (l:List Int)(hl:l.length < 1000000)(hc:c.2.length < 1000000):P28 (c,l)=some (iK c l):=by
 have key:=ca (step:=fun x=>HO x.1 x.2.1 x.2.2) l.length (fun k=>(l,(k:Int),c)) (fun k=>wi (ix l (k:Int)) 0 ((c.2.length:Int)-1)&&!(decide ((0:Int) < (k:Int))&&decide (ix l (k:Int)≤ix l ((k:Int)-1)))) (.inl (false,c):(Bool×bQ)⊕bQ) (.inr c) (fun k hk=>by
   show pQ P36 l (k:Int) c=_;unfold pQ;rw[au hk,cond_true,ah (aj hk),ah (bz (by omega) (by omega)),oe,aa];cases hw:wi (ix l (k:Int)) 0 ((c.2.length:Int)-1)with
   | false=>rfl
   | true=>
    rw[Bool.not_true,cond_false,ah (aq (by omega))];by_cases h0:(0:Int) < (k:Int)
    ·rw[decide_eq_true h0,cond_true,ah (aj hk),ah (bz (by omega) (by omega)),ah (jU (by omega) (by omega))];cases decide (ix l (k:Int)≤ix l ((k:Int)-1))with
     | true=>rfl
     | false=>simp only[cond_false,ah (aq (k:=k) (by omega)),aC]; rfl
    ·rw[decide_eq_false h0,cond_false]; simp only[aC]; rfl)
  (by
   show pQ P36 l (l.length:Int) c=_;unfold pQ;rw[az,cond_false]) (by omega)
 show Qd P36 wu c l=_;unfold Qd;rw[show wu (l,0,c)=_ from key];unfold iK;cases bZ l.length _ <;> rfl
theorem i9 {l:List Int}:iK c l=true↔(∀ q∈l,∃ i:Nat,i < c.2.length∧q=(i:Int))∧∀ i j,i < j→j < l.length→gt l i < gt l j:=by
 unfold iK;rw[bU];have step:∀ k:Nat,(wi (ix l (k:Int)) 0 ((c.2.length:Int)-1)&&!(decide ((0:Int) < (k:Int))&&decide (ix l (k:Int)≤ix l ((k:Int)-1))))=true↔(0≤gt l k∧gt l k≤(c.2.length:Int)-1)∧∀ i:Nat,i+1=k→gt l i < gt l k:=fun k=>by
  rw[aQ];simp only[Bool.and_eq_true,fA,Bool.not_eq_true',Bool.and_eq_false_iff,decide_eq_false_iff_not];refine and_congr_right fun _=>?_;cases k with
  | zero=>simp
  | succ k=>
   rw[show((k+1:Nat):Int)-1=(k:Int)by omega,aQ];constructor
   ·rintro(h | h) i hi
    ·exact absurd (by omega) h
    ·have:i=k:=by omega
     subst this; omega
   ·intro h; right; have:=h k rfl; omega
 constructor
 ·intro h;refine⟨fun q hq=>?_,sM fun j hj=>((step j).1 (h j hj)).2⟩;obtain⟨j,hj,rfl⟩:=fC hq;have:=((step j).1 (h j hj)).1;exact⟨(gt l j).toNat,by omega,by omega⟩
 ·rintro⟨h1,h2⟩ k hk;refine(step k).2 ⟨?_,fun i hi=>h2 i k (by omega) hk⟩;obtain⟨i,hi,e⟩:=h1 _ (bT hk);omega
theorem Br {l:List Int}(h:iK c l=true):l.Nodup:=kR.2 fun i j h1 h2=>by have:=(i9.1 h).2 i j h1 h2; omega
theorem wO (x:Int):iK c (gT x c.2.length)=true:=i9.2 ⟨fun q hq=>by obtain⟨i,h1,h2,_⟩:=iJ.1 hq; exact⟨i,h1,h2⟩,fun i j h1 h2=>by
 have:=List.pairwise_iff_getElem.1 (sP x c.2.length) i j (by omega) h2 h1
 rwa [gw (by omega),gw h2]⟩
theorem JY (l:List Int)(v:Int)(hl:l.length < 1000000):x8 (l,v)=some (decide (v∈l)):=by
 have key:=jV (step:=fun x=>HZ x.1 x.2.1 x.2.2) l.length (fun k=>(l,v,(k:Int))) (fun k=>decide (gt l k=v)) (fun k=>(.inl true:Bool⊕Unit)) (.inr ())
  (fun k hk _=>by
   show pT l v (k:Int)=_;unfold pT;rw[au hk,cond_true,ah (aj hk),aQ];by_cases e:gt l k=v
   ·simp[e]
   ·simp only[decide_eq_false e,cond_false,ah (aq (k:=k) (by omega)),aC])
  (fun _=>by
   show pT l v (l.length:Int)=_;unfold pT;rw[az,cond_false]) (by omega)
 show Qg su l v=_;unfold Qg;rcases key with⟨k,hk,hp,_,e⟩ | ⟨hn,e⟩
 ·have:v∈l:=by
   have:gt l k=v:=by simpa using hp
   exact this▸bT hk
  rw[show su (l,v,0)=some (.inl true)from e,decide_eq_true this]; rfl
 ·have:¬ v∈l:=fun h=>by
   obtain⟨i,hi,rfl⟩:=fC h;have:=hn i hi
   simp at this
  rw[show su (l,v,0)=some (.inr ())from e,decide_eq_false this]; rfl
def j0 (l:List Int):SetB:=fun i=>decide ((i:Int)∈l)
theorem yj {l:List Int}(h:iK c l=true)(k:Nat):sumN l.length (fun j=>cr (fF (ix c.2 (gt l j)) (ix c.1 (k:Int))))=aD c.2.length fun i=>j0 l i&&ft c i k:=by
 obtain⟨h1,_⟩:=i9.1 h;have hd:=Br h;have e:aD c.2.length (fun i=>j0 l i&&ft c i k)=sumN c.2.length (fun i=>sumN l.length fun j=>cr (decide (gt l j=(i:Int))&&ft c i k)):=aF fun i _=>by
  cases hf:ft c i k with
  | true=>
   have:=Bn hd i;simp only[aQ]at this;simp only[j0,hf,Bool.and_true];exact this.symm
  | false=>simp only[hf,Bool.and_false]; exact(dx _).symm
 rw[e,lM];refine aF fun j hj=>?_;obtain⟨i,hi,e2⟩:=h1 _ (bT hj);rw[gy (a:=i) hi fun k' _ hne=>?_]
 ·rw[e2]; simp only[decide_true,Bool.true_and]; rfl
 ·have:¬ gt l j=(k':Int):=by omega
  simp[this,cr]
theorem Bs {l:List Int}(h:iK c l=true)(hl:l.length < 1000000)(a1:Int){k:Nat}(hk:k < c.1.length):ss (l,a1,(k:Int),0,0,c)=some (l,a1,(k:Int),aD c.2.length (fun i=>j0 l i&&ft c i k),c):=by
 rw[← yj h k];have key:=aJ (step:=fun x=>HU x.1 x.2.1 x.2.2.1 x.2.2.2.1 x.2.2.2.2.1 x.2.2.2.2.2) l.length (fun j=>(l,a1,(k:Int),sumN j (fun j=>cr (fF (ix c.2 (gt l j)) (ix c.1 (k:Int)))),(j:Int),c)) (l,a1,(k:Int),sumN l.length (fun j=>cr (fF (ix c.2 (gt l j)) (ix c.1 (k:Int)))),c)
  (fun j hj=>by
   show pR P55 l a1 (k:Int) (sumN j (fun j=>cr (fF (ix c.2 (gt l j)) (ix c.1 (k:Int))))) (j:Int) c=_;unfold pR;obtain⟨i,hi,e⟩:=(i9.1 h).1 _ (bT hj);have hb:=dd (f:=fun j=>cr (fF (ix c.2 (gt l j)) (ix c.1 (k:Int)))) (a:=0) (b:=1) (n:=j) fun _ _=>fZ _;rw[au hj,cond_true,ah (aj hj),aQ,ah (jU (by omega) (by omega)),ah (aj hk),uh,aa];cases hf:fF (ix c.2 (gt l j)) (ix c.1 (k:Int))with
   | true=>rw[cond_true,ah (bz (by omega) (by omega)),ah (aq (by omega))]; simp only[aE,hf,aC]; rfl
   | false=>rw[cond_false,ah (aq (by omega))]; simp only[aE,hf,aC,cr,cond_false,Int.add_zero])
  (by
   show pR P55 l a1 (k:Int) (sumN l.length (fun j=>cr (fF (ix c.2 (gt l j)) (ix c.1 (k:Int))))) (l.length:Int) c=_;unfold pR;rw[az,cond_false]) (by omega)
 exact key
theorem Bt (hv:aP c=true)(S:SetB){k:Nat}(hk:k < c.1.length):0≤bS c S k∧bS c S k≤6:=by
 have:=iI hv hk;have h2:0≤aD c.2.length (fun i=>S i&&ft c i k):=wE _ _;unfold bS; omega
theorem JZ (hv:aP c=true){l:List Int}(h:iK c l=true)(hl:l.length < 1000000):xZ (c,l)=some (sumN c.1.length fun k=>bS c (j0 l) k):=by
 have hK:=(aZ hv).1;have key:=aJ (step:=fun x=>HW x.1 x.2.1 x.2.2.1 x.2.2.2) c.1.length (fun k=>(l,sumN k (fun k=>bS c (j0 l) k),(k:Int),c)) (sumN c.1.length (fun k=>bS c (j0 l) k),c)
  (fun k hk=>by
   show pS P55 ss l (sumN k (fun k=>bS c (j0 l) k)) (k:Int) c=_;unfold pS;have hb:=dd (f:=fun k=>bS c (j0 l) k) (a:=0) (b:=6) (n:=k) fun k' hk'=>Bt hv _ (by omega);have hb2:=Bt hv (j0 l) hk;have e:min (aD c.2.length fun i=>j0 l i&&ft c i k) (ix c.1 (k:Int)).2.2=bS c (j0 l) k:=by unfold bS; rw[Int.min_comm]; rfl
   rw[au hk,cond_true,Bs h hl _ hk,aa];simp only[e];rw[ah (aj hk),ah (bz (by omega) (by omega)),ah (aq (by omega))];simp only[aE,aC])
  (by
   show pS P55 ss l (sumN c.1.length (fun k=>bS c (j0 l) k)) (c.1.length:Int) c=_;unfold pS;rw[az,cond_false]) (by omega)
 show Qe P55 wy c l=_;unfold Qe;rw[show wy (l,0,0,c)=_ from key]; rfl
theorem Bu (hv:aP c=true){l:List Int}(h:iK c l=true)(hl:l.length < 1000000):P29 (c,l)=some (jh c (j0 l)):=by
 have hb:=aZ hv
 let p0:=sumN c.1.length fun k=>bS c (j0 l) k
 have hp0:0≤p0∧p0≤48:=by
  have:=dd (f:=fun k=>bS c (j0 l) k) (a:=0) (b:=6) (n:=c.1.length) fun k' hk'=>Bt hv _ (by omega);show 0≤sumN _ _∧sumN _ _≤48;omega
 have key:=aJ (step:=fun x=>H1 x.1 x.2.1 x.2.2.1 x.2.2.2) c.2.length (fun k=>(l,p0+sumN k (fun i=>cond (j0 l i) 0 (bV c i).2.1),(k:Int),c)) (p0+sumN c.2.length (fun i=>cond (j0 l i) 0 (bV c i).2.1),c)
  (fun k hk=>by
   show pU xZ x8 l (p0+sumN k (fun i=>cond (j0 l i) 0 (bV c i).2.1)) (k:Int) c=_;unfold pU;have hs:=dd (f:=fun i=>cond (j0 l i) 0 (bV c i).2.1) (a:=0) (b:=8) (n:=k) fun i hi=>by
    have:=cV hv (k:=i) (by omega);cases j0 l i <;> simp <;> omega
   have ht:=cV hv hk;rw[au hk,cond_true,JY _ _ hl,aa,show decide ((k:Int)∈l)=j0 l k from rfl,show ix c.2 (k:Int)=bV c k from bp _ _];cases hi:j0 l k with
   | false=>
    rw[Bool.not_false,cond_true,ah (aj hk),ah (bz (by omega) (by omega)),ah (aq (by omega))];simp only[aE,hi,cond_false,aC,Int.add_assoc]
   | true=>
    rw[Bool.not_true,cond_false,ah (aq (by omega))];simp only[aE,hi,cond_true,aC,Int.add_zero])
  (by
   show pU xZ x8 l (p0+sumN c.2.length (fun i=>cond (j0 l i) 0 (bV c i).2.1)) (c.2.length:Int) c=_;unfold pU;rw[az,cond_false]) (by omega)
 show Qi xZ x8 wz c l=_;unfold Qi;have e0:p0+sumN 0 (fun i=>cond (j0 l i) 0 (bV c i).2.1)=p0:=Int.add_zero _;rw[e0]at key;rw[JZ hv h hl,aa,show wz (l,sumN c.1.length (fun k=>bS c (j0 l) k),0,c)=_ from key,aa];show some (p0+_)=_;unfold jh;rw[Int.add_comm]
theorem Bv (x:Int){i:Nat}(hi:i < c.2.length):j0 (gT x c.2.length) i=cD x (i:Int):=by
 unfold j0;cases h:cD x (i:Int)with
 | true=>exact decide_eq_true (iJ.2 ⟨i,hi,rfl,h⟩)
 | false=>
  refine decide_eq_false fun hm=>?_;obtain⟨j,_,e,hj⟩:=iJ.1 hm;have:i=j:=by omega
  subst this;rw[h]at hj; cases hj
theorem Ey (hn:c.2.length≤4)(S:SetB):most c≤jh c S:=by
 obtain⟨x,g1,g2⟩:=qT c.2.length hn S;have h3:=oq (c:=c) (d:=[]) (w:=bB c) (k:=x) g1;rw[wN,jZ g2]at h3;exact h3
theorem J0 (c:bQ)(hc:c.2.length < 1000000):P48 c=some (bB c):=by
 have key:vO (0,c,[])=some (c,bB c):=by
  have k:=aJ (step:=fun x=>F4 x.1 x.2.1 x.2.2) c.2.length (fun k=>((k:Int),c,(bB c).take k)) (c,bB c) (fun k hk=>by
    show pA (k:Int) c ((bB c).take k)=_;unfold pA;have hk2:k < (bB c).length:=by rw[eu]; exact hk
    have e:(bB c).take (k+1)=(bB c).take k++[(ix c.2 (k:Int)).2.1]:=by
     rw[iL _ default hk2,← bp,dy hk,show ix c.2 (k:Int)=bV c k from bp _ _]
    rw[au hk,cond_true,ah (aj hk),ah (cK (by simp; omega)),ah (aq (by omega)),← e,aC])
   (by
    show pA (c.2.length:Int) c _=_;unfold pA;rw[az,cond_false,List.take_of_length_le (by rw[eu]; exact Nat.le_refl _)]) (by omega)
  exact k
 show PW vO c=_;unfold PW;rw[key]; rfl
theorem J1 (hv:aP c=true)(h5:c.1.length≤5)(h4:c.2.length≤4):P25 c=some (most c,0):=by
 have hwb:∀ i:Nat,i < c.2.length→0≤ix (bB c) (i:Int)∧ix (bB c) (i:Int)≤100:=fun i hi=>by
  have:=cV hv hi;rw[dy hi]; omega
 have hrep:∀ k:Nat,k < c.1.length→ix (List.replicate c.1.length (List.replicate c.2.length (0:Int))) (k:Int)=List.replicate c.2.length 0:=fun k hk=>uc _ _ _ hk;obtain⟨mo,m1,m2,u,m3,m4⟩:=JN (w:=bB c) (M:=List.replicate c.1.length (List.replicate c.2.length 0)) hv h5 h4 eu hwb (by simp) (fun k hk=>by rw[hrep k hk]; simp) 0;obtain⟨⟨u',p1,p2⟩,p3⟩:=ub (d:=[]) (kb hv) eu h4;have hsame:∀ j,j < c.1.length→(fB c (List.replicate c.1.length (List.replicate c.2.length 0)) 0 j).1=(KT c [] j).1∧∀ i,i < c.2.length→(fB c (List.replicate c.1.length (List.replicate c.2.length 0)) 0 j).2 i=(KT c [] j).2 i:=fun j hj=>by
  constructor
  ·show jx c 0 j=(ix c.1 (j:Int)).2.2;have hs:=ja hv hj;unfold s6 at hs;simp only[Bool.and_eq_true,fA]at hs;unfold jx;rw[if_neg (by omega),show ix c.1 (j:Int)=sI c j from bp _ _]
  ·intro i hi;show gx c _ j i=jy c [] i j;have hp:ix c.2 (i:Int)=bV c i:=bp _ _;have hs:ix c.1 (j:Int)=sI c j:=bp _ _;unfold gx jy;rw[hp,hs];have e1:Ph (List.replicate c.1.length (List.replicate c.2.length (0:Int))) j i=0:=by
    unfold Ph;rw[hrep j hj,uc _ _ _ hi]
   rw[e1,iZ]; rfl
 have q1:=m2 u' (iD (f:=KT c []) (fun j _ h2=>by
  have:=hsame j (by omega);exact⟨this.1.symm,fun i hi=>(this.2 i hi).symm⟩) p1)
 have q2:=p3 u (iD (f:=fB c (List.replicate c.1.length (List.replicate c.2.length 0)) 0) (fun j _ h2=>hsame j (by omega)) m3);have hmost:mo=most c:=by unfold most; omega
 have hl:=aZ hv;show KA P12 P48 P49 P47 c=_;unfold KA;rw[jX,hv,cond_true,aa,decide_eq_true rfl,Bool.not_true,cond_false,J0 c (by omega),aa,JH c (by omega) (by omega),aa,m1,hmost];rfl
end
section
variable {c:bQ}
theorem sQ (hv:aP c=true)(hn:c.2.length≤4):∃ plan,P26 c=some (plan,0)∧bK c plan=true∧plan.length≤40∧(∀ i,i < plan.length→(row plan i).length≤40)∧dU c plan=(most c,0,dn c plan):=by
 obtain⟨plan,e,h,ha⟩:=JU hv;have hp:=Pm h.po ha;have hl:=aZ hv;refine⟨plan,e,hp,by rw[h.po.len]; omega,fun i hi=>?_,by rw[oh hv hp,ug hv hn h]⟩;have:=h.po.short hv (k:=i) (by rw[← h.po.len]; exact hi);show(gt plan i).length≤40;omega
def own (c:bQ):List Int:=gT (fE c) c.2.length
theorem mU (hv:aP c=true):(own c).length≤6:=Nat.le_trans (oi _ _) (aZ hv).2
theorem Ez (hv:aP c=true):jh c (j0 (own c))=most c:=by
 rw[← Bp hv];exact jZ fun i hi=>Bv _ hi
theorem wP (hv:aP c=true):P28 (c,own c)=some true:=by
 have:=mU hv;have:=aZ hv;rw[Bq _ (by omega) (by omega),own,wO]
theorem wQ (hv:aP c=true):P29 (c,own c)=some (most c):=by
 have:=mU hv;rw[Bu hv (l:=own c) (wO _) (by omega),Ez hv]
theorem Pure.PromiseMost (c:bQ)(_:Wf (.pair (.sl (.pair (.int .i64) (.pair (.int .i64) (.int .i64)))) (.sl (.pair (.int .i64) (.pair (.int .i64) (.pair (.int .i64) (.pair (.int .i64) (.pair (.int .i64) (.int .i64)))))))) c):P7 c=some true:=by
 show q7 P16 P9 P10 P22 P25 P26 P27 P14 P28 P29 c=_;unfold q7;rw[BO,aa];cases hf:um c with
 | true=>rw[cond_true,om,aa]
 | false=>
  simp only[um,Bool.or_eq_false_iff,Bool.not_eq_false',Bool.and_eq_true,decide_eq_true_eq]at hf;obtain⟨⟨h1,h2⟩,hf⟩:=hf;rw[cond_false,J4 c h1 h2,aa,BN,aa];cases hv:aP c with
  | false=>
   have e25:P25 c=some (0,70):=by
    show KA P12 P48 P49 P47 c=_;unfold KA;rw[jX,hv,cond_false,aa]; rfl
   have e26:P26 c=some ([],70):=by
    show KG P11 P37 P50 P50v1 P51 sm so c=_;unfold KG;rw[gS,hv,cond_false,aa]; rfl
   have e27:P27 c=some (70,[]):=by
    show KI P11 P37 P45 P52 pO c=_;unfold KI;rw[gS,hv,cond_false,aa]; rfl
   rw[cond_false,e25,aa,e26,aa,e27,aa];simp only[om,aa];rfl
  | true=>
   rw[hv]at hf;have hq:(bZ c.2.length fun k=>!decide (3 < (bV c k).2.1))=true∧c.1.length≤5∧c.2.length≤4:=by simpa [and_assoc]using hf
   obtain⟨_,h5,h4⟩:=hq;obtain⟨plan,e26,hp,hpl,hpr,hc⟩:=sQ hv h4;have ho:=mU hv;have d1:decide ((40:Int) < (plan.length:Int))=false:=decide_eq_false (by omega);have d2:decide ((40:Int) < ((own c).length:Int))=false:=decide_eq_false (by omega);rw[cond_true,J1 hv h5 h4,aa,e26,aa,Bo hv,aa];simp only[show gT (fE c) c.2.length=own c from rfl,decide_true,Bool.not_true,cond_false,d1,d2,J3 hpl hpr,hc,aa,cond_true,wP hv,wQ hv,om]
theorem EA (c:bQ)(plan:List (List Int))(hp:plan.length < 1000000)(hr:∀ i,i < c.1.length→(ix c.1 (i:Int)).2.2≤6)(hc:c.2.length < 1000000):nY (c,plan)=some (bK c plan):=by
 have hcast:decide ((plan.length:Int)=(c.1.length:Int))=decide (plan.length=c.1.length):=by rw[decide_eq_decide]; omega
 cases hl:decide (plan.length=c.1.length)with
 | false=>simp only[u2,nY,Nz,KJ,hcast,hl,Bool.not_false,cond_true,bK,Bool.false_and]
 | true=>
  have hl':plan.length=c.1.length:=of_decide_eq_true hl;have e:wq (plan,0,c)=some (cond (bZ plan.length fun i=>!decide ((ix c.1 i).2.2 < ((row plan i).length:Int))&&dX c i (row plan i)) (.inr c) (.inl (false,c))):=by
   refine ca plan.length (fun k=>(plan,(k:Int),c)) (fun i=>!decide ((ix c.1 i).2.2 < ((row plan i).length:Int))&&dX c i (row plan i)) _ _ (fun k hk=>?_) ?_ (by omega)
   ·have hrow:ix plan (k:Int)=row plan k:=bp _ _;have f3:=aq (show k < 9223372036854775807 by omega);simp only[u3,sr,pP,au hk,cond_true,aj hk,aj (hl'▸hk),bg,hrow,aC];cases hroom:decide ((ix c.1 k).2.2 < ((row plan k).length:Int))with
    | true=>simp only[cond_true,Bool.not_true,Bool.false_and,cond_false]
    | false=>
     simp only[cond_false,Bool.not_false,Bool.true_and,sR c plan k (row plan k) (hl'▸hk) (by have h1:=hr k (hl'▸hk); have h2:=of_decide_eq_false hroom; omega) hc,aa];cases dX c k (row plan k)with
     | false=>rfl
     | true=>simp only[cond_true,dQ,f3,bg]
   ·simp only[u3,sr,pP,az,cond_false]
  simp only[u2,nY,Nz,KJ,hcast,hl,Bool.not_true,cond_false,e,aa,bK,Bool.true_and];cases(bZ plan.length fun i=>!decide ((ix c.1 i).2.2 < ((row plan i).length:Int))&&dX c i (row plan i)) <;> rfl
noncomputable def SS (c:bQ)(plan:Mat)(n:Int):Option Bool:=
 cond (decide ((40:Int) < (plan.length:Int))) ((P9 ()).bind fun r=>some r) ((nY (c,plan)).bind fun r13=>cond (!r13) ((P9 ()).bind fun r=>some r) ((P13 (c,plan)).bind fun r15=>cond (!decide (r15.2.1=0)) (some false) (cond (decide (n < r15.1)) (some false)
  (cond (!decide ((r15.2.2.length:Int)=(c.2.length:Int))) (some false) ((AY (r15.1,0,0,c,r15.2.2)).bind fun y16=>cond (decide (y16.2.1=y16.1)) ((P9 ()).bind fun r=>some r) (some false))))))
theorem Pn (hv:aP c=true){plan:Mat}(hp:bK c plan=true)(hpl:plan.length≤40)(hpr:∀ i,i < plan.length→(row plan i).length≤40)(x:Int):AY (x,0,0,c,dn c plan)=some (x,BZ c plan,c,dn c plan):=by
 have hl:=aZ hv;have hb:=uk hp hpr;have hlen:=lQ c plan;have hs:∀ k,k≤c.2.length→0≤sumN k (fun i=>min (cnt c plan i) (bV c i).2.1)∧sumN k (fun i=>min (cnt c plan i) (bV c i).2.1)≤8*k:=fun k hk=>by
  have:=dd (f:=fun i=>min (cnt c plan i) (bV c i).2.1) (a:=0) (b:=8) (n:=k) fun i hi=>by
   have h1:=cV hv (k:=i) (by omega);have h2:=JP (c:=c) plan i;omega
  omega
 have key:=aJ (step:=fun x=>NV x.1 x.2.1 x.2.2.1 x.2.2.2.1 x.2.2.2.2) c.2.length (fun k=>(x,sumN k (fun i=>min (cnt c plan i) (bV c i).2.1),(k:Int),c,dn c plan)) (x,BZ c plan,c,dn c plan)
  (fun k hk=>by
   show x9 wA P9 P22 P26 P27 nY P28 P13 P29 x (sumN k (fun i=>min (cnt c plan i) (bV c i).2.1)) (k:Int) c (dn c plan)=_;unfold x9;have e:(sumN k fun i=>min (cnt c plan i) (bV c i).2.1)+min (ix (dn c plan) (k:Int)) (ix c.2 (k:Int)).2.1=sumN (k+1) fun i=>min (cnt c plan i) (bV c i).2.1:=by
    rw[sN hp,show ix c.2 (k:Int)=bV c k from bp _ _]; rfl
   have h1:=hs (k+1) hk;rw[hlen,au hk,cond_true,ah (aj hk),ah (aj hk),e,ah (bz (by omega) (by omega)),ah (aq (by omega)),aC])
  (by
   show x9 wA P9 P22 P26 P27 nY P28 P13 P29 x _ (c.2.length:Int) c (dn c plan)=_;unfold x9;rw[hlen,az,cond_false]; rfl) (by omega)
 exact key
theorem Bw (hv:aP c=true)(plan:Mat):SS c plan (most c)=some true:=by
 have hl:=aZ hv;unfold SS;by_cases h40:(40:Int) < (plan.length:Int)
 ·rw[decide_eq_true h40,cond_true,om,aa]
 ·rw[decide_eq_false h40,cond_false];have hpl:plan.length≤40:=by omega
  rw[EA c plan (by omega) (fun i hi=>(iI hv hi).2) (by omega),aa];cases hp:bK c plan with
  | false=>rw[Bool.not_false,cond_true,om,aa]
  | true=>
   have hpr:∀ i,i < plan.length→(row plan i).length≤40:=fun i hi=>by
    have h1:=(jY.1 hp)
    have h2:=(h1.2 i hi).1;have h3:=(iI hv (k:=i) (by omega)).2;show(gt plan i).length≤40;omega
   have hw:=sO hv (wM hp);rw[Bool.not_true,cond_false,BG hpl hpr,aa,oh hv hp];simp only[decide_true,Bool.not_true,cond_false,lQ,decide_eq_false (show ¬ most c < BZ c plan by omega),Pn hv hp hpl hpr,aa,cond_true,om]
theorem Pure.PromiseProof (c:bQ)(_:Wf (.pair (.sl (.pair (.int .i64) (.pair (.int .i64) (.int .i64)))) (.sl (.pair (.int .i64) (.pair (.int .i64) (.pair (.int .i64) (.pair (.int .i64) (.pair (.int .i64) (.int .i64)))))))) c)
  (plan:List (List Int)) (_:Wf (.sl (.sl (.int .i64))) plan) (set:List Int) (_:Wf (.sl (.int .i64)) set):P8 (c,plan,set)=some true:=by
 show q8 wA P9 P22 P26 P27 nY P28 P13 P29 AY c plan set=_;unfold q8;rw[J6,aa];cases hr:kc c with
 | false=>rw[Bool.not_false,cond_true,om,aa]
 | true=>
  have hv:=sW hr;have hl:=ym hr;obtain⟨best,e26,hp,hpl,hpr,hc⟩:=sQ hv hl.2;have ho:=mU hv;rw[Bool.not_true,cond_false,BN,hv,cond_true,aa,e26,aa,Bo hv,aa];have tl:=Bw hv plan;unfold SS at tl;simp only[show gT (fE c) c.2.length=own c from rfl,decide_true,Bool.not_true,cond_false,Bz c best (by omega) (fun i hi=>by have:=hpr i hi; omega) (by omega),hp,aa,wP hv,BG hpl hpr,hc,wQ hv];by_cases h40:((set.length:Int)≤40)
  ·rw[decide_eq_true h40,cond_true,Bq set (by omega) (by omega),aa];cases hs:iK c set with
   | false=>rw[cond_false]; exact tl
   | true=>
    rw[cond_true,Bu hv hs (by omega),aa,decide_eq_false (show ¬ jh c (j0 set) < most c by have:=Ey hl.2 (j0 set); omega),cond_false];exact tl
  ·rw[decide_eq_false h40,cond_false]; exact tl
end
end Go.Proofs.Ytjoncejabdjekaa.D
