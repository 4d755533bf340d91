/- Cut down from longer texts. -/
import Derived.Test.YtjoncejabdjekaaG4o
import Derived.Test.YtjoncejabdjekaaB3o
set_option linter.unusedVariables false
set_option linter.unusedSimpArgs false
set_option maxRecDepth 20000
set_option linter.unusedSectionVars false
namespace Go.Proofs.Ytjoncejabdjekaa.D
open Go Go.Proofs Go.Proofs.Ytjoncejabdjekaa.L
abbrev oL:=Int×Int×Int
abbrev qT:=Int×Int×Int×Int×Int×Int
abbrev dk:=List oL×List qT
def dU (c:dk)(k:Nat):oL:=c.1.getD k default
def aI (c:dk)(k:Nat):qT:=c.2.getD k default
def tW (s:oL):Bool:=wi s.1 0 99&&(wi s.2.1 0 9&&wi s.2.2 0 6)
def tX (p:qT):Bool:=wi p.1 0 99&&(wi p.2.1 0 8&&((decide (p.2.2.1≤p.2.2.2.1)&&(wi p.2.2.1 0 9&&wi p.2.2.2.1 0 9))&&(decide (p.2.2.2.2.1≤p.2.2.2.2.2)&&(wi p.2.2.2.2.1 0 99&&wi p.2.2.2.2.2 0 99))))
def noTwin (l:List qT)(n:Nat)(p:qT):Bool:=bK n fun i=>!decide ((l.getD i default).1=p.1)
def ba (c:dk):Bool:=decide (c.1.length≤8)&&(decide (c.2.length≤6)&&((bK c.1.length fun k=>tW (dU c k))&&(bK c.2.length fun k=>tX (aI c k)&&noTwin c.2 k (aI c k))))
theorem gz (x a b:Int):P32 (x,a,b)=some (wi x a b):=s5 x a b
theorem kR (x a b:Int):P36 (x,a,b)=some (wi x a b):=s5 x a b
theorem FQ (a b:qT):yx (a,b)=some (decide (a.1=b.1)):=rfl
theorem FR (l:List qT)(p:qT)(hl:l.length < 9223372036854775807):P33 (l,p)=some (!noTwin l l.length p):=by
 have h1:∀ k,k < l.length→qC l p (l.length:Int) (k:Int)=some (cond (!decide ((l.getD k default).1=p.1)) (.inl (l,p,(l.length:Int),((k+1:Nat):Int))) (.inr (.inl (k:Int)))):=by
  intro k hk;simp only[u4,qC,ta,ay hk,cond_true,ak hk,bI,FQ,af,bk,an (show k < 9223372036854775807 by omega),aM];cases decide ((l.getD k default).1=p.1) <;> rfl
 have h2:qC l p (l.length:Int) (l.length:Int)=some (.inr (.inr ())):=by
  simp only[u4,qC,ta,aE,cond_false]
 cases hn:noTwin l l.length p with
 | true=>
  have:tb (l,p,(l.length:Int),0)=some (.inr ()):=aJ l.length (fun k=>(l,p,(l.length:Int),(k:Int))) _ (fun k hk=>by
   have:=bp.1 hn k hk;exact(h1 k hk).trans (by rw[this]; rfl)) h2 (by omega)
  simp only[u2,P33,LZ,K2,Bb,LV,K1,this,af,d8]; rfl
 | false=>
  obtain⟨k,hk,hf,ht⟩:=dP hn;have:tb (l,p,(l.length:Int),0)=some (.inl (k:Int)):=aJ k (fun k=>(l,p,(l.length:Int),(k:Int))) _ (fun i hi=>by
   have:=ht i hi;exact(h1 i (by omega)).trans (by rw[this]; rfl)) ((h1 k hk).trans (by rw[hf]; rfl)) (by omega)
  simp only[u2,P33,LZ,K2,Bb,LV,K1,this,af,qA]
  simp
theorem qU (l:List qT)(k:Nat)(p:qT)(hk:k≤l.length):noTwin (rB l 0 (k:Int)) (rB l 0 (k:Int)).length p=noTwin l k p:=by
 have e:rB l 0 (k:Int)=l.take k:=by simp[rB]
 rw[e,List.length_take,Nat.min_eq_left hk];exact mU fun i hi=>by simp[List.getD_eq_getElem?_getD,List.getElem?_take,hi]
theorem x9 (a b x y:Int):P35 ((a,b),x,y)=some (decide (a≤b)&&(wi a x y&&wi b x y)):=by
 simp only[u3,P35,OA,Md,gz,af];cases decide (a≤b) <;> cases wi a x y <;> rfl
theorem se (c:dk):P11 c=some (cond (ba c) 0 70):=by
 by_cases hs:c.1.length≤8
 rotate_left
 ·have:ba c=false:=by simp[ba,hs]
  rw[this];have h:decide ((8:Int) < (c.1.length:Int))=true:=by simp; omega
  simp only[P11,K3,Hc,h,cond_true]; rfl
 by_cases hp:c.2.length≤6
 rotate_left
 ·have:ba c=false:=by simp[ba,hp]
  rw[this];have h:decide ((6:Int) < (c.2.length:Int))=true:=by simp; omega
  have h':decide ((8:Int) < (c.1.length:Int))=false:=by simp; omega
  simp only[P11,K3,Hc,h,h',cond_true,cond_false]
 have e0:wQ (c.1,(c.1.length:Int),0,c)=some (cond (bK c.1.length fun k=>tW (dU c k)) (.inr c) (.inl (70,c))):=by
  refine dc c.1.length (fun k=>(c.1,(c.1.length:Int),(k:Int),c)) (fun k=>tW (dU c k)) _ _ (fun k hk=>?_) ?_ (by omega)
  ·simp only[u4,wP,te,ay hk,cond_true,ak hk,bI,gz,af,bk,an (show k < 9223372036854775807 by omega),aM];show _=some (cond (tW (c.1.getD k default)) _ _);unfold tW;generalize wi (c.1.getD k default).1 0 99=x1; generalize wi (c.1.getD k default).2.1 0 9=x2; generalize wi (c.1.getD k default).2.2 0 6=x3;cases x1 <;> cases x2 <;> cases x3 <;> rfl
  ·simp only[u4,wP,te,aE,cond_false]
 have e1:wS (c.2,(c.2.length:Int),0,c)=some (cond (bK c.2.length fun k=>tX (aI c k)&&noTwin c.2 k (aI c k)) (.inr c) (.inl (70,c))):=by
  refine dc c.2.length (fun k=>(c.2,(c.2.length:Int),(k:Int),c)) (fun k=>tX (aI c k)&&noTwin c.2 k (aI c k)) _ _ (fun k hk=>?_) ?_ (by omega)
  ·have t1:decide ((0:Int)≤(0:Int))=true:=rfl;have t2:decide ((0:Int)≤(k:Int))=true:=by simp
   have t3:decide ((k:Int)≤(c.2.length:Int))=true:=by simp; omega
   have t4:(rB c.2 0 (k:Int)).length < 9223372036854775807:=by simp[rB]; omega
   simp only[u4,wR,tf,ay hk,cond_true,ak hk,bI,t1,t2,t3,FR _ _ t4,qU _ _ _ (Nat.le_of_lt hk),gz,x9,af,bk,an (show k < 9223372036854775807 by omega),aM];have t5:∀ q:Int×Int,P35 (q,0,99)=some (decide (q.1≤q.2)&&(wi q.1 0 99&&wi q.2 0 99)):=fun q=>x9 q.1 q.2 0 99;simp only[t5,af];show _=some (cond (tX (c.2.getD k default)&&noTwin c.2 k (c.2.getD k default)) _ _);unfold tX;generalize wi (c.2.getD k default).1 0 99=x1; generalize wi (c.2.getD k default).2.1 0 8=x2;generalize (decide ((c.2.getD k default).2.2.1≤(c.2.getD k default).2.2.2.1)&&(wi (c.2.getD k default).2.2.1 0 9&&wi (c.2.getD k default).2.2.2.1 0 9))=x3;generalize (decide ((c.2.getD k default).2.2.2.2.1≤(c.2.getD k default).2.2.2.2.2)&&(wi (c.2.getD k default).2.2.2.2.1 0 99&&wi (c.2.getD k default).2.2.2.2.2 0 99))=x4;generalize noTwin c.2 k (c.2.getD k default)=x5;cases x1 <;> cases x2 <;> cases x3 <;> cases x4 <;> cases x5 <;> rfl
  ·simp only[u4,wR,tf,aE,cond_false]
 have h:decide ((6:Int) < (c.2.length:Int))=false:=by simp; omega
 have h':decide ((8:Int) < (c.1.length:Int))=false:=by simp; omega
 simp only[P11,K3,Hc,h,h',cond_false,e0,af];have d1:decide (c.1.length≤8)=true:=by simp[hs]
 have d2:decide (c.2.length≤6)=true:=by simp[hp]
 simp only[ba,d1,d2,Bool.true_and];cases(bK c.1.length fun k=>tW (dU c k))with
 | false=>rfl
 | true=>
  simp only[cond_true,d8,e1,af,Bool.true_and];cases(bK c.2.length fun k=>tX (aI c k)&&noTwin c.2 k (aI c k)) <;> rfl
theorem sf (c:dk):P12 c=some (cond (ba c) 0 70):=by
 by_cases hs:c.1.length≤8
 rotate_left
 ·have:ba c=false:=by simp[ba,hs]
  rw[this];have h:decide ((8:Int) < (c.1.length:Int))=true:=by simp; omega
  simp only[P12,Ld,HX,h,cond_true]; rfl
 by_cases hp:c.2.length≤6
 rotate_left
 ·have:ba c=false:=by simp[ba,hp]
  rw[this];have h:decide ((6:Int) < (c.2.length:Int))=true:=by simp; omega
  have h':decide ((8:Int) < (c.1.length:Int))=false:=by simp; omega
  simp only[P12,Ld,HX,h,h',cond_true,cond_false]
 have e0:xn (0,c)=some (cond (bK c.1.length fun k=>tW (dU c k)) (.inr c) (.inl (70,c))):=by
  refine dc c.1.length (fun k=>((k:Int),c)) (fun k=>tW (dU c k)) _ _ (fun k hk=>?_) ?_ (by omega)
  ·simp only[u2,xm,tx,ay hk,cond_true,ak hk,bI,kR,af,bk,an (show k < 9223372036854775807 by omega),aM];show _=some (cond (tW (c.1.getD k default)) _ _);unfold tW;generalize wi (c.1.getD k default).1 0 99=x1; generalize wi (c.1.getD k default).2.1 0 9=x2; generalize wi (c.1.getD k default).2.2 0 6=x3;cases x1 <;> cases x2 <;> cases x3 <;> rfl
  ·simp only[u2,xm,tx,aE,cond_false]
 have e1:xu (0,c)=some (cond (bK c.2.length fun k=>tX (aI c k)&&noTwin c.2 k (aI c k)) (.inr c) (.inl (70,c))):=by
  refine dc c.2.length (fun k=>((k:Int),c)) (fun k=>tX (aI c k)&&noTwin c.2 k (aI c k)) _ _ (fun k hk=>?_) ?_ (by omega)
  ·have e2:∀ b1 b2 b3:Bool,xq ((k:Int),0,b1,b2,b3,c,aI c k)=some (cond (noTwin c.2 k (aI c k)) (.inr ((k:Int),b1,b2,b3,c,aI c k)) (.inl (70,c,aI c k))):=by
    intro b1 b2 b3;refine dc k (fun i=>((k:Int),(i:Int),b1,b2,b3,c,aI c k)) (fun i=>!decide ((aI c i).1=(aI c k).1)) _ _ (fun i hi=>?_) ?_ (by omega)
    ·simp only[u7,xp,tz,ay hi,cond_true,ak (Nat.lt_trans hi hk),bI,bk,an (show i < 9223372036854775807 by omega),aM];show cond (decide ((aI c i).1=(aI c k).1)) _ _=_;cases decide ((aI c i).1=(aI c k).1) <;> rfl
    ·simp only[u7,xp,tz,aE,cond_false]
   simp only[u2,xt,tA,ay hk,cond_true,ak hk,bI,kR,af,bk,an (show k < 9223372036854775807 by omega),aM];show _=some (cond (tX (aI c k)&&noTwin c.2 k (aI c k)) _ _);have hh:(c.2.getD k default)=aI c k:=rfl;simp only[hh,e2,af];have hB:tX (aI c k)=(wi (aI c k).1 0 99&&(wi (aI c k).2.1 0 8&&(wi (aI c k).2.2.1 0 (aI c k).2.2.2.1&&(!decide ((9:Int) < (aI c k).2.2.2.1)&&(wi (aI c k).2.2.2.2.1 0 (aI c k).2.2.2.2.2&&!decide ((99:Int) < (aI c k).2.2.2.2.2)))))):=by
    rw[Bool.eq_iff_iff];simp only[tX,Bool.and_eq_true,hN,decide_eq_true_eq,Bool.not_eq_true',decide_eq_false_iff_not];omega
   rw[hB];generalize wi (aI c k).1 0 99=x1; generalize wi (aI c k).2.1 0 8=x2; generalize wi (aI c k).2.2.1 0 (aI c k).2.2.2.1=x3;generalize decide ((9:Int) < (aI c k).2.2.2.1)=x4; generalize wi (aI c k).2.2.2.2.1 0 (aI c k).2.2.2.2.2=x5; generalize decide ((99:Int) < (aI c k).2.2.2.2.2)=x6;generalize noTwin c.2 k (aI c k)=x7;have hfk:=an (show k < 9223372036854775807 by omega);cases x1 <;> cases x2 <;> cases x3 <;> cases x4 <;> cases x5 <;> cases x6 <;> cases x7 <;> first | rfl | simp only[cond_true,cond_false,Bool.not_true,Bool.not_false,Bool.and_self,d8,hfk,bI]
  ·simp only[u2,xt,tA,aE,cond_false]
 have h:decide ((6:Int) < (c.2.length:Int))=false:=by simp; omega
 have h':decide ((8:Int) < (c.1.length:Int))=false:=by simp; omega
 simp only[P12,Ld,HX,h,h',cond_false,e0,af];have d1:decide (c.1.length≤8)=true:=by simp[hs]
 have d2:decide (c.2.length≤6)=true:=by simp[hp]
 simp only[ba,d1,d2,Bool.true_and];cases(bK c.1.length fun k=>tW (dU c k))with
 | false=>rfl
 | true=>
  simp only[cond_true,d8,e1,af,Bool.true_and];cases(bK c.2.length fun k=>tX (aI c k)&&noTwin c.2 k (aI c k)) <;> rfl
theorem jV {α:Type}(l:List α)(d:α){k:Nat}(h:k < l.length):l.getD k d=l[k]:=by simp[List.getD_eq_getElem?_getD,h]
theorem nf {α:Type}(l:List α)(d:α){k:Nat}(h:k < l.length):l.take (k+1)=l.take k++[l.getD k d]:=by
 rw[jV l d h,List.take_succ_eq_append_getElem h]
def jW (c:dk):List Int:=c.2.map fun p=>p.2.1
theorem FS (c:dk)(h:c.2.length < 1000000):P37 c=some (c.1,c.2,[],jW c):=by
 have e:wU (c.2,(c.2.length:Int),0,c.1,c.2,[],[])=some (c.1,c.2,[],jW c):=by
  refine aJ c.2.length (fun k=>(c.2,(c.2.length:Int),(k:Int),c.1,c.2,[],(c.2.take k).map fun p=>p.2.1)) _ (fun k hk=>?_) ?_ (by omega)
  ·have hc:bN 8 (List.length ((c.2.take k).map fun p:qT=>p.2.1)+List.length [(c.2.getD k default).2.1])=true:=cM (by simp; omega);simp only[u7,wT,tg,ay hk,cond_true,ak hk,bI,bk,hc,an (show k < 9223372036854775807 by omega),aM];rw[nf c.2 default hk,List.map_append]; rfl
  ·simp only[u7,wT,tg,aE,cond_false];rw[List.take_of_length_le (Nat.le_refl _)]; rfl
 simp only[P37,OB,Mg,e,af]
def b8 (p:qT)(s:oL):Bool:=wi s.2.1 p.2.2.1 p.2.2.2.1&&wi s.1 p.2.2.2.2.1 p.2.2.2.2.2
theorem ya (p:qT)(s:oL):P55 (p,s)=some (b8 p s):=by
 simp only[u2,P55,OW,Nd,kR,af,b8];cases wi s.2.1 p.2.2.1 p.2.2.2.1 <;> rfl
theorem yb (i j:Int)(c:dk)(d:List (List Int×Int))(w:List Int)(hi:aZ i c.2.length=true)(hj:aZ j c.1.length=true):
  hU (i,j,c.1,c.2,d,w)=some (b8 (ix c.2 i) (ix c.1 j)&&decide (fp (aU d [i,j]) 0=0),c.1,c.2,d,w):=by
 simp only[u6,hU,OD,Mq,hi,hj,bI,gz,af,b8];cases wi (ix c.1 j).2.1 (ix c.2 i).2.2.1 (ix c.2 i).2.2.2.1 <;> cases wi (ix c.1 j).1 (ix c.2 i).2.2.2.2.1 (ix c.2 i).2.2.2.2.2 <;> rfl
def row (plan:List (List Int))(i:Nat):List Int:=plan.getD i default
def Bd (cnt:List Int)(m B:Nat):Prop:=cnt.length=m∧∀ j,j < m→0≤cnt.getD j default∧cnt.getD j default≤(B:Int)
theorem Bd.mono {cnt:List Int}{m B B':Nat}(h:Bd cnt m B)(hb:B≤B'):Bd cnt m B':=⟨h.1,fun j hj=>⟨(h.2 j hj).1,by have:=(h.2 j hj).2; omega⟩⟩
theorem cF {c:dk}(h:ba c=true):c.1.length≤8∧c.2.length≤6:=by
 simp only[ba,Bool.and_eq_true,decide_eq_true_eq]at h; exact⟨h.1,h.2.1⟩
theorem vi {c:dk}(h:ba c=true){k:Nat}(hk:k < c.2.length):tX (aI c k)=true:=by
 simp only[ba,Bool.and_eq_true,decide_eq_true_eq]at h;have:=bp.1 h.2.2.2 k hk;simp only[Bool.and_eq_true]at this; exact this.1
theorem oM {c:dk}(h:ba c=true){k:Nat}(hk:k < c.1.length):tW (dU c k)=true:=by
 simp only[ba,Bool.and_eq_true,decide_eq_true_eq]at h;exact bp.1 h.2.2.1 k hk
theorem b9 {c:dk}(h:ba c=true){k:Nat}(hk:k < c.2.length):0≤(aI c k).2.1∧(aI c k).2.1≤8:=by
 have:=vi h hk;simp only[tX,Bool.and_eq_true,hN]at this; exact this.2.1
section
variable {c:dk} {plan:List (List Int)}
theorem vj {k:Nat}(hk:k < c.2.length):ix (jW c) (k:Int)=(aI c k).2.1:=by
 rw[bk,jW,aI,List.getD_eq_getElem?_getD,List.getD_eq_getElem?_getD,List.getElem?_map,List.getElem?_eq_getElem hk]; rfl
end
theorem yc (l:List Int)(h:l.length < 1000000000):P15 (l,l)=some true:=by
 have e:xl (l,l,0)=some (.inr ()):=by
  refine aJ l.length (fun k=>(l,l,(k:Int))) _ (fun k hk=>?_) ?_ (by omega)
  ·simp only[u3,xj,tv,ay hk,cond_true,ak hk,bI,decide_true,Bool.not_true,cond_false,an (show k < 9223372036854775807 by omega),aM]
  ·simp only[u3,xj,tv,aE,cond_false]
 simp only[u2,P15,OT,MZ,decide_true,Bool.not_true,cond_false,e,af,d8]
theorem yd:P9 ()=some true:=by kernel_rfl
theorem FT (c:dk)(h1:c.1.length≤40)(h2:c.2.length≤40):hX c=some c:=by
 simp only[hX,OU,M4,cM (show 24*c.1.length≤140737488355328 by omega),cM (show 48*c.2.length≤140737488355328 by omega),bI]
def sumN (n:Nat)(f:Nat→Int):Int:=mV (fun i s=>s+f i) n 0
theorem aC (n:Nat)(f:Nat→Int):sumN (n+1) f=sumN n f+f n:=rfl
theorem jX {f g:Nat→Int}:∀ {n:Nat},(∀ k,k < n→f k≤g k)→sumN n f≤sumN n g
 | 0,_=>Int.le_refl _
 | n+1,h=>by
  rw[aC,aC];have h1:=jX (n:=n) (fun k hk=>h k (by omega)); have h2:=h n (by omega);omega
theorem bD {f g:Nat→Int}:∀ {n:Nat},(∀ k,k < n→f k=g k)→sumN n f=sumN n g
 | 0,_=>rfl
 | n+1,h=>by rw[aC,aC,bD (n:=n) (fun k hk=>h k (by omega)),h n (by omega)]
theorem bR {f:Nat→Int}{a b:Int}:∀ {n:Nat},(∀ k,k < n→a≤f k∧f k≤b)→a*n≤sumN n f∧sumN n f≤b*n
 | 0,_=>by simp[sumN,mV]
 | n+1,h=>by
  rw[aC];have h1:=bR (n:=n) (fun k hk=>h k (by omega)); have h2:=h n (by omega);have e1:a*((n+1:Nat):Int)=a*n+a:=by rw[Int.natCast_add,Int.mul_add]; simp
  have e2:b*((n+1:Nat):Int)=b*n+b:=by rw[Int.natCast_add,Int.mul_add]; simp
  omega
def bY (b:Bool):Int:=cond b 1 0
theorem fq (b:Bool):0≤bY b∧bY b≤1:=by cases b <;> decide
def dE (x i:Int):Bool:=decide (vI .u64 (G3 .u64 x i) 1=1)
theorem ye (x:Int)(i:Nat):qD (x,(i:Int))=some (dE x i):=by
 have t:decide ((0:Int)≤(i:Int))=true:=by simp
 simp only[u2,qD,OC,Mm,t,bI,dE]
abbrev dF:=List (List Int×Int)
def lm (c:dk)(d:dF)(i j:Nat):Bool:=b8 (ix c.2 i) (ix c.1 j)&&decide (fp (aU d [(i:Int),(j:Int)]) 0=0)
def cG (c:dk)(d:dF)(x:Int)(k:Nat)(n:Nat):Int:=sumN n fun i=>bY (dE x i&&lm c d i k)
def fT (c:dk)(d:dF)(w:List Int)(x:Int):Int:=sumN w.length (fun i=>cond (dE x i) 0 (ix w i))+sumN c.1.length fun k=>min (ix c.1 k).2.2 (cG c d x k c.2.length)
structure Good (c:dk) (w:List Int):Prop where
 s:c.1.length≤8
 p:c.2.length≤6
 wl:w.length≤6
 t:∀ i,i < w.length→0≤ix w (i:Int)∧ix w (i:Int)≤8
 r:∀ k,k < c.1.length→0≤(ix c.1 (k:Int)).2.2∧(ix c.1 (k:Int)).2.2≤6
section
variable {c:dk} {d:dF} {w:List Int}
theorem tY (g:Good c w)(x:Int){n:Nat}(hn:n≤w.length):0≤sumN n (fun i=>cond (dE x i) 0 (ix w i))∧sumN n (fun i=>cond (dE x i) 0 (ix w i))≤48:=by
 have h:=bR (f:=fun i=>cond (dE x i) 0 (ix w i)) (a:=0) (b:=8) (n:=n) (fun k hk=>by
  have:=g.t k (by omega);show 0≤cond (dE x k) 0 (ix w (k:Int))∧cond (dE x k) 0 (ix w (k:Int))≤8;cases dE x k with
  | true=>simp
  | false=>exact this)
 have:=g.wl;omega
theorem oN (x:Int)(k n:Nat):0≤cG c d x k n∧cG c d x k n≤n:=by
 have:=bR (f:=fun i=>bY (dE x i&&lm c d i k)) (a:=0) (b:=1) (n:=n) (fun i _=>fq _);unfold cG; omega
theorem tZ (g:Good c w)(x:Int){n:Nat}(hn:n≤c.1.length):0≤sumN n (fun k=>min (ix c.1 k).2.2 (cG c d x k c.2.length))∧sumN n (fun k=>min (ix c.1 k).2.2 (cG c d x k c.2.length))≤48:=by
 have h:=bR (f:=fun k=>min (ix c.1 k).2.2 (cG c d x k c.2.length)) (a:=0) (b:=6) (n:=n) (fun k hk=>by
  have h1:=g.r k (by omega);have h2:=oN (c:=c) (d:=d) x k c.2.length;show 0≤min (ix c.1 (k:Int)).2.2 _∧min (ix c.1 (k:Int)).2.2 _≤6;omega)
 have:=g.s;omega
theorem yf (g:Good c w)(x:Int):wW (x,0,(w.length:Int),0,c.1,c.2,w,d)=some (x,sumN w.length (fun i=>cond (dE x i) 0 (ix w i)),c.1,c.2,w,d):=by
 have:=g.wl;refine aJ w.length (fun k=>(x,sumN k (fun i=>cond (dE x i) 0 (ix w i)),(w.length:Int),(k:Int),c.1,c.2,w,d)) _ (fun k hk=>?_) ?_ (by omega)
 ·have h1:=tY g x (Nat.le_of_lt hk);have h2:=g.t k hk;have f1:aq .i64 (sumN k (fun i=>cond (dE x i) 0 (ix w i))+ix w k)=true:=cg (by omega) (by omega);simp only[u8,wV,th,ay hk,cond_true,ak hk,bI,ye,af,f1,an (show k < 9223372036854775807 by omega),aM,aC];cases dE x k with
  | true=>simp only[Bool.not_true,cond_false,cond_true,Int.add_zero]
  | false=>simp only[Bool.not_false,cond_false,cond_true]
 ·simp only[u8,wV,th,aE,cond_false]
theorem yg (g:Good c w)(x n0:Int)(k:Nat)(hk:k < c.1.length)(xs:List oL)(a5 a6:Int)(s:oL):
  wY (x,n0,(k:Int),0,xs,a5,a6,(c.2.length:Int),0,c.1,c.2,s,d,w)=some (x,n0,cG c d x k c.2.length,xs,a5,a6,c.1,c.2,s,d,w):=by
 have:=g.p;refine aJ c.2.length (fun i=>(x,n0,(k:Int),cG c d x k i,xs,a5,a6,(c.2.length:Int),(i:Int),c.1,c.2,s,d,w)) _ (fun i hi=>?_) ?_ (by omega)
 ·have h1:=oN (c:=c) (d:=d) x k i;have f1:aq .i64 (cG c d x k i+1)=true:=cg (by omega) (by omega);have e:cG c d x k (i+1)=cG c d x k i+bY (dE x i&&lm c d i k):=rfl;simp only[Lv,wX,ti,ay hi,cond_true,ye,yb _ _ c d w (ak hi) (ak hk),af,bI,f1,an (show i < 9223372036854775807 by omega),aM,e];have e2:(b8 (ix c.2 (i:Int)) (ix c.1 (k:Int))&&decide (fp (aU d [(i:Int),(k:Int)]) 0=0))=lm c d i k:=rfl;simp only[e2];cases dE x i with
  | false=>simp only[cond_false,Bool.false_and,bY,Int.add_zero]
  | true=>
   cases lm c d i k with
   | false=>simp only[cond_false,cond_true,Bool.true_and,bY,Int.add_zero]
   | true=>simp only[cond_true,Bool.true_and,bY]
 ·simp only[Lv,wX,ti,aE,cond_false]
theorem yh (g:Good c w)(x n0:Int)(hn:0≤n0∧n0≤48):
  qE (x,n0,c.1,(c.1.length:Int),0,c.1,c.2,d,w)=some (n0+sumN c.1.length (fun k=>min (ix c.1 k).2.2 (cG c d x k c.2.length)),c.1,c.2,d,w):=by
 have:=g.s;rw[show qE (x,n0,c.1,(c.1.length:Int),0,c.1,c.2,d,w)=qE (x,n0+sumN 0 (fun k=>min (ix c.1 k).2.2 (cG c d x k c.2.length)),c.1,(c.1.length:Int),0,c.1,c.2,d,w)from by rw[show n0+sumN 0 (fun k=>min (ix c.1 k).2.2 (cG c d x k c.2.length))=n0 from Int.add_zero n0]];refine(aJ c.1.length (fun k=>(x,n0+sumN k (fun k=>min (ix c.1 k).2.2 (cG c d x k c.2.length)),c.1,(c.1.length:Int),(k:Int),c.1,c.2,d,w)) _ (fun k hk=>?_) ?_ (by omega))
 ·have h1:=tZ (d:=d) g x (n:=k) (by omega);have h2:=tZ (d:=d) g x (n:=k+1) (by omega);rw[aC]at h2;have f1:aq .i64 (n0+sumN k (fun k=>min (ix c.1 k).2.2 (cG c d x k c.2.length))+min (ix c.1 (k:Int)).2.2 (cG c d x k c.2.length))=true:=cg (by omega) (by omega);rw[Int.add_assoc]at f1;simp only[u9,wZ,tj,ay hk,cond_true,ak hk,bI,yg g x _ k hk,af,f1,an (show k < 9223372036854775807 by omega),aM,aC,Int.add_assoc]
 ·simp only[u9,wZ,tj,aE,cond_false]
theorem yi (g:Good c w)(x:Int):w6 (x,c.1,c.2,d,w)=some (fT c d w x,c.1,c.2,d,w):=by
 simp only[u5,w6,OE,Mu,yf g x,af,yh g x _ (tY g x (Nat.le_refl _))]; rfl
def de (c:dk)(d:dF)(w:List Int)(n:Nat):Int×Int:=mV (fun k st=>cond (decide (fT c d w k < st.2)) ((k:Int),fT c d w k) st) n (0,fT c d w 0)
theorem ng:∀ (n:Nat),(∀ k,k < n→(de c d w n).2≤fT c d w (k:Nat))∧(de c d w n).2≤fT c d w 0∧(∃ k,(de c d w n).1=((k:Nat):Int)∧(k < n∨k=0)∧(de c d w n).2=fT c d w (k:Nat))
 | 0=>⟨by simp,Int.le_refl _,0,rfl,.inr rfl,rfl⟩
 | n+1=>by
  obtain⟨h1,h2,k,h3,h4,h5⟩:=ng n;have e:de c d w (n+1)=cond (decide (fT c d w (n:Nat) < (de c d w n).2)) ((n:Int),fT c d w (n:Nat)) (de c d w n):=rfl;cases hd:decide (fT c d w (n:Nat) < (de c d w n).2)with
  | true=>
   rw[e,hd];have hd':=of_decide_eq_true hd;refine⟨fun j hj=>?_,?_,n,rfl,.inl (by omega),rfl⟩
   ·show fT c d w (n:Nat)≤_;by_cases hjn:j=n
    ·rw[hjn]; exact Int.le_refl _
    ·have:=h1 j (by omega); omega
   ·show fT c d w (n:Nat)≤_; omega
  | false=>
   rw[e,hd];have hd':=of_decide_eq_false hd;refine⟨fun j hj=>?_,h2,k,h3,by omega,h5⟩;show(de c d w n).2≤_;by_cases hjn:j=n
   ·rw[hjn]; omega
   ·exact h1 j (by omega)
def setsN (c:dk):Nat:=2^c.2.length
theorem vk (c:dk):0 < setsN c:=Nat.pow_pos (by decide)
theorem yj (h:c.2.length≤6):setsN c≤64:=Nat.le_trans (Nat.pow_le_pow_right (by decide) h) (by decide)
theorem FU (h:c.2.length≤6):G2 .u64 1 (c.2.length:Int)=(setsN c:Int):=by
 unfold setsN;generalize c.2.length=n at h
 match n,h with
 | 0,_=>decide
 | 1,_=>decide
 | 2,_=>decide
 | 3,_=>decide
 | 4,_=>decide
 | 5,_=>decide
 | 6,_=>decide
 | n+7,h=>omega
theorem yk {n:Int}(h:0≤n)(h':n≤1000000):aq .u64 n=true:=by
 rw[aq,decide_eq_true_eq];have e2:(2:Int)^64=18446744073709551616:=by decide
 simp only[IntKind.wrap,IntKind.bits,IntKind.signed,Bool.false_and,e2]
 simp; omega
theorem FX (g:Good c w):P45 (c.1,c.2,d,w)=some ((de c d w (setsN c)).1,(de c d w (setsN c)).2,c.1,c.2,d,w):=by
 have hs:=yj g.p;have e:xa (0,fT c d w 0,(setsN c:Int),0,c.1,c.2,d,w)=some ((de c d w (setsN c)).1,(de c d w (setsN c)).2,c.1,c.2,d,w):=by
  refine aJ (setsN c) (fun k=>((de c d w k).1,(de c d w k).2,(setsN c:Int),(k:Int),c.1,c.2,d,w)) _ (fun k hk=>?_) ?_ (by omega)
  ·have f1:aq .u64 ((k:Int)+1)=true:=yk (by omega) (by omega);have e:de c d w (k+1)=cond (decide (fT c d w (k:Nat) < (de c d w k).2)) ((k:Int),fT c d w (k:Nat)) (de c d w k):=rfl;simp only[u8,w7,tm,ay hk,cond_true,yi g,af,f1,bI,aM,e];cases decide (fT c d w (k:Nat) < (de c d w k).2) <;> rfl
  ·simp only[u8,w7,tm,aE,cond_false]
 have t:decide ((0:Int)≤(c.2.length:Int))=true:=by simp
 simp only[u4,P45,OF,Mx,yi g,af,t,bI,FU g.p,e]
def gA (c:dk)(d:dF)(w:List Int):Int:=(de c d w (setsN c)).2
theorem yl {k:Nat}(hk:k < setsN c):gA c d w≤fT c d w k:=(ng (setsN c)).1 k hk
theorem ym:∃ k:Nat,k < setsN c∧gA c d w=fT c d w k:=by
 obtain⟨_,_,k,_,h4,h5⟩:=ng (c:=c) (d:=d) (w:=w) (setsN c);exact⟨k,by have:=vk c; omega,h5⟩
end
def most (c:dk):Int:=gA c [] (jW c)
def sg (c:dk):Bool:=!(decide (c.1.length≤40)&&decide (c.2.length≤40))||(ba c&&!((bK c.2.length fun k=>!decide (3 < (aI c k).2.1))&&(decide (c.1.length≤5)&&decide (c.2.length≤4))))
theorem FY (c:dk):P16 c=some (sg c):=by
 by_cases h1:c.1.length≤40
 rotate_left
 ·have h:decide ((40:Int) < (c.1.length:Int))=true:=by simp; omega
  simp[P16,Lg,Iq,h,sg,h1]
 by_cases h2:c.2.length≤40
 rotate_left
 ·have h:decide ((40:Int) < (c.1.length:Int))=false:=by simp; omega
  have h':decide ((40:Int) < (c.2.length:Int))=true:=by simp; omega
  simp[P16,Lg,Iq,h,h',sg,h2]
 have d1:decide ((40:Int) < (c.1.length:Int))=false:=by simp; omega
 have d2:decide ((40:Int) < (c.2.length:Int))=false:=by simp; omega
 have t1:decide (c.1.length≤40)=true:=by simp[h1]
 have t2:decide (c.2.length≤40)=true:=by simp[h2]
 have e0:xx (0,c)=some (cond (bK c.2.length fun k=>!decide (3 < (aI c k).2.1)) (.inr c) (.inl (true,c))):=by
  refine dc c.2.length (fun k=>((k:Int),c)) (fun k=>!decide (3 < (aI c k).2.1)) _ _ (fun k hk=>?_) ?_ (by omega)
  ·have hg:ix c.2 (k:Int)=aI c k:=bk _ _;simp only[u2,xw,tB,ay hk,cond_true,ak hk,bI,hg,an (show k < 9223372036854775807 by omega),aM];cases decide (3 < (aI c k).2.1) <;> rfl
  ·simp only[u2,xw,tB,aE,cond_false]
 have d5:decide ((5:Int) < (c.1.length:Int))=!decide (c.1.length≤5):=by by_cases h:c.1.length≤5 <;> simp[h] <;> omega
 have d4:decide ((4:Int) < (c.2.length:Int))=!decide (c.2.length≤4):=by by_cases h:c.2.length≤4 <;> simp[h] <;> omega
 simp only[P16,Lg,Iq,d1,d2,cond_false,sf,af,e0,sg,t1,t2,Bool.and_self,Bool.not_true,Bool.false_or,d5,d4];cases ba c with
 | false=>rfl
 | true=>
  simp only[cond_true,decide_true,Bool.not_true,cond_false,Bool.true_and];cases(bK c.2.length fun k=>!decide (3 < (aI c k).2.1))with
  | false=>rfl
  | true=>
   simp only[cond_true,d8,d5,d4,Bool.true_and];cases decide (c.1.length≤5) <;> cases decide (c.2.length≤4) <;> rfl
structure SMore (s s':List oL):Prop where
 len:s.length≤s'.length
 at':∀ k,k < s.length→(s'.getD k default).1=(s.getD k default).1∧(s'.getD k default).2.1=(s.getD k default).2.1∧(s.getD k default).2.2≤(s'.getD k default).2.2
structure PMore (p p':List qT):Prop where
 len:p'.length=p.length
 at':∀ k,k < p.length→(p'.getD k default).2.1=(p.getD k default).2.1∧(p'.getD k default).2.2.1≤(p.getD k default).2.2.1∧(p.getD k default).2.2.2.1≤(p'.getD k default).2.2.2.1 ∧
  (p'.getD k default).2.2.2.2.1≤(p.getD k default).2.2.2.2.1∧(p.getD k default).2.2.2.2.2≤(p'.getD k default).2.2.2.2.2
theorem SMore.refl (s:List oL):SMore s s:=⟨Nat.le_refl _,fun k _=>⟨rfl,rfl,Int.le_refl _⟩⟩
theorem PMore.refl (p:List qT):PMore p p:=⟨rfl,fun k _=>⟨rfl,Int.le_refl _,Int.le_refl _,Int.le_refl _,Int.le_refl _⟩⟩
theorem SMore.trans {a b c:List oL}(h:SMore a b)(k:SMore b c):SMore a c:=⟨Nat.le_trans h.len k.len,fun i hi=>by
 have h1:=h.at' i hi; have h2:=k.at' i (Nat.lt_of_lt_of_le hi h.len);exact⟨h2.1.trans h1.1,h2.2.1.trans h1.2.1,Int.le_trans h1.2.2 h2.2.2⟩⟩
theorem oO {α:Type}(l:List α)(i:Nat)(v d:α)(k:Nat)(hk:k < l.length):(l.set i v).getD k d=if k=i then v else l.getD k d:=by
 simp only[List.getD_eq_getElem?_getD,List.getElem?_set];by_cases h:i=k
 ·subst h; simp[hk]
 ·simp[h,Ne.symm h]
abbrev KP:=Int×Int×Int×Int×Int×oL
section
variable {c:dk} (hv:ba c=true) (x:KP)
include hv
end
theorem jn {α:Type}:∀ (m:List (List Int×α)) (k:List Int) (v:α) (q:List Int),aU (cI m k v) q=if q=k then some v else aU m q
 | [],k,v,q=>by
  by_cases h:q=k
  ·subst h; simp[cI,aU]
  ·simp[cI,aU,h,Ne.symm h]
 | (a,u)::m,k,v,q=>by
  have ih:=jn m k v q;by_cases e:a=k
  ·subst e;by_cases h:q=a
   ·subst h; simp[cI,aU]
   ·simp[cI,aU,h,Ne.symm h]
  ·by_cases h:a=q
   ·subst h; simp[cI,aU,e]
   ·simp only[cI,if_neg e,aU,List.find?_cons,h,decide_false]at ih ⊢;exact ih
theorem dg (m:List (List Int×Int))(k:List Int)(v:Int)(q:List Int):fp (aU (cI m k v) q) 0=if q=k then v else fp (aU m q) 0:=by
 rw[jn]; split <;> rfl
abbrev gF:=Int×Int×Int
def be (l:List gF)(k:Nat):gF:=l.getD k default
def si (ns:Nat)(r:gF):Bool:=wi r.1 0 99&&(wi r.2.1 0 ((ns:Int)-1)&&wi r.2.2 0 99)
def fi (a b:gF):Bool:=(decide (a.1=b.1)&&decide (a.2.1=b.2.1))&&decide (a.2.2=b.2.2)
theorem oP {a b:gF}:fi a b=true↔a=b:=by
 simp only[fi,Bool.and_eq_true,decide_eq_true_eq];constructor
 ·rintro⟨⟨h1,h2⟩,h3⟩; exact Prod.ext h1 (Prod.ext h2 h3)
 ·rintro rfl; exact⟨⟨rfl,rfl⟩,rfl⟩
def er (l:List gF)(i:Nat):Bool:=bK i fun k=>!decide ((be l k).1=(be l i).1)||fi (be l k) (be l i)
def nD (ns:Nat)(l:List gF):Bool:=decide (l.length≤30)&&bK l.length fun i=>si ns (be l i)&&er l i
theorem yn (c:dk)(l:List gF)(hc:c.1.length < 1000000):kM (c,l)=some (cond (nD c.1.length l) 0 72):=by
 by_cases h1:l.length≤30
 rotate_left
 ·have h:decide ((30:Int) < (l.length:Int))=true:=by simp; omega
  have h2:decide (l.length≤30)=false:=by simp; omega
  simp only[u2,kM,NN,Lh,h,cond_true,nD,h2,Bool.false_and,cond_false]
 have d1:decide ((30:Int) < (l.length:Int))=false:=by simp; omega
 have t1:decide (l.length≤30)=true:=by simp[h1]
 have f1:aq .i64 ((c.1.length:Int)-1)=true:=cg (by omega) (by omega);have e0:xC (l,0,c)=some (cond (bK l.length fun i=>si c.1.length (be l i)&&er l i) (.inr c) (.inl (72,c))):=by
  refine dc l.length (fun k=>(l,(k:Int),c)) (fun i=>si c.1.length (be l i)&&er l i) _ _ (fun k hk=>?_) ?_ (by omega)
  ·have hg:∀ j:Nat,ix l (j:Int)=be l j:=fun j=>bk _ _;have f3:=an (show k < 9223372036854775807 by omega);have e1:∀ b1 b2,L23_1 (l,(k:Int),0,b1,b2,c)=some (cond (er l k) (.inr (l,(k:Int),b1,b2,c)) (.inl (72,c))):=fun b1 b2=>by
    refine dc k (fun i=>(l,(k:Int),(i:Int),b1,b2,c)) (fun i=>!decide ((be l i).1=(be l k).1)||fi (be l i) (be l k)) _ _ (fun i hi=>?_) ?_ (by omega)
    ·have f4:=an (show i < 9223372036854775807 by omega);have hs:((decide ((be l i).1=(be l k).1)&&decide ((be l i).2.1=(be l k).2.1))&&decide ((be l i).2.2=(be l k).2.2))=fi (be l i) (be l k):=rfl;simp only[u6,xA,tC,ay hi,cond_true,ak (Nat.lt_trans hi hk),ak hk,bI,hg,f4,aM,hs];cases decide ((be l i).1=(be l k).1) <;> cases fi (be l i) (be l k) <;> rfl
    ·simp only[u6,xA,tC,aE,cond_false]
   simp only[u3,xB,tD,ay hk,cond_true,ak hk,bI,hg,kR,af,f1,e1,si,aM];cases wi (be l k).1 0 99 <;> cases wi (be l k).2.1 0 ((c.1.length:Int)-1) <;> cases wi (be l k).2.2 0 99 <;> cases er l k <;>
    first | rfl | simp only[cond_true,cond_false,Bool.not_true,Bool.not_false,Bool.and_self,d8,f3,bI]
  ·simp only[u3,xB,tD,aE,cond_false]
 simp only[u2,kM,NN,Lh,d1,cond_false,e0,af,nD,t1,Bool.true_and];cases(bK l.length fun i=>si c.1.length (be l i)&&er l i) <;> rfl
def cT (l:List gF)(k:Nat):List (List Int×gF):=mV (fun i m=>cI m [(be l i).1] (be l i)) k []
theorem oQ (l:List gF)(q:Int):∀ k,(aU (cT l k) [q]=none∧∀ j,j < k→(be l j).1≠q)∨∃ j,j < k∧(be l j).1=q∧aU (cT l k) [q]=some (be l j)
 | 0=>.inl ⟨rfl,fun j hj=>by omega⟩
 | k+1=>by
  have e:cT l (k+1)=cI (cT l k) [(be l k).1] (be l k):=rfl;rw[e,jn];by_cases h:q=(be l k).1
  ·exact .inr ⟨k,by omega,h.symm,by simp[h]⟩
  ·have h':¬ [q]=[(be l k).1]:=by simpa using h
   rw[if_neg h'];rcases oQ l q k with⟨h1,h2⟩ | ⟨j,h1,h2,h3⟩
   ·refine .inl ⟨h1,fun j hj=>?_⟩;by_cases hjk:j=k
    ·rw[hjk]; exact fun h2=>h h2.symm
    ·exact h2 j (by omega)
   ·exact .inr ⟨j,by omega,h2,h3⟩
theorem fU {l:List gF}{i:Nat}:er l i=true↔∀ k,k < i→(be l k).1=(be l i).1→be l k=be l i:=by
 simp only[er,bp];constructor
 ·intro h k hk e;have:=h k hk
  simp[e]at this
  exact oP.1 this
 ·intro h k hk;by_cases e:(be l k).1=(be l i).1
  ·rw[h k hk e]; simp[fi]
  ·simp[e]
def nh (l:List gF)(k:Nat):Bool:=(aU (cT l k) [(be l k).1]).isSome&&!fi (fp (aU (cT l k) [(be l k).1]) (0,0,0)) (be l k)
theorem ni {l:List gF}{k:Nat}(hp:∀ i,i < k→er l i=true):nh l k=!er l k:=by
 unfold nh;rcases oQ l (be l k).1 k with⟨h1,h2⟩ | ⟨j,h1,h2,h3⟩
 ·rw[h1];have:er l k=true:=fU.2 fun i hi e=>absurd e (h2 i hi);rw[this]; rfl
 ·rw[h3];show(true&&!fi (be l j) (be l k))=_;rw[Bool.true_and];congr 1;rw[Bool.eq_iff_iff,oP,fU];constructor
  ·intro e i hi ei;rcases Nat.lt_trichotomy i j with h | h | h
   ·rw[← e]; exact fU.1 (hp j h1) i h (by rw[ei,e])
   ·rw[h]; exact e
   ·rw[← e]; exact(fU.1 (hp i hi) j h (by rw[ei,← h2])).symm
  ·intro h; exact h j h1 h2
theorem sj (c:dk)(l:List gF):nk (c,l)=some (cond (ba c) (cond (nD c.1.length l) 0 72) 70):=by
 cases hv:ba c with
 | false=>simp only[u2,nk,K8,Ho,se,hv,af,cond_false]; rfl
 | true=>
 have hc:=cF hv;by_cases h1:l.length≤30
 rotate_left
 ·have h:decide ((30:Int) < (l.length:Int))=true:=by simp; omega
  have h2:decide (l.length≤30)=false:=by simp; omega
  simp only[u2,nk,K8,Ho,se,hv,af,decide_true,Bool.not_true,h,cond_true,nD,h2,Bool.false_and,cond_false]
 have d1:decide ((30:Int) < (l.length:Int))=false:=by simp; omega
 have t1:decide (l.length≤30)=true:=by simp[h1]
 have f1:aq .i64 ((c.1.length:Int)-1)=true:=cg (by omega) (by omega);have e0:∃ m1 m2,L40_0 (l,(l.length:Int),0,c,[])=some (cond (bK l.length fun i=>si c.1.length (be l i)&&er l i) (.inr (c,m1)) (.inl (72,c,m2))):=by
  cases ha:(bK l.length fun i=>si c.1.length (be l i)&&er l i)with
  | true=>
   have hall:=bp.1 ha;refine⟨cT l l.length,[],aJ l.length (fun k=>(l,(l.length:Int),(k:Int),c,cT l k)) _ (fun k hk=>?_) ?_ (by omega)⟩
   ·have hok:=hall k hk;simp only[Bool.and_eq_true]at hok;have hcl:nh l k=false:=by rw[ni fun i hi=>by have:=hall i (by omega); simp only[Bool.and_eq_true]at this; exact this.2,hok.2]; rfl
    have hg:∀ j:Nat,ix l (j:Int)=be l j:=fun j=>bk _ _;have hR:=hok.1;simp only[si,Bool.and_eq_true]at hR;have f3:=an (show k < 9223372036854775807 by omega);have hs:∀ a b:gF,((decide (a.1=b.1)&&decide (a.2.1=b.2.1))&&decide (a.2.2=b.2.2))=fi a b:=fun _ _=>rfl;simp only[u5,qF,ol,ay hk,cond_true,ak hk,bI,hg,hs,gz,af,f1,hR.1,hR.2.1,hR.2.2,Bool.not_true,cond_false,f3,aM];unfold nh at hcl
    revert hcl
    cases(aU (cT l k) [(be l k).1]).isSome with
    | false=>intro _; rfl
    | true=>
     cases fi (fp (aU (cT l k) [(be l k).1]) (0,0,0)) (be l k)with
     | true=>intro _; rfl
     | false=>intro h; simp at h
   ·simp only[u5,qF,ol,aE,cond_false]; rfl
  | false=>
   obtain⟨k,hk,hf,ht⟩:=dP ha;have hid:∀ i,i < k→er l i=true:=fun i hi=>by have:=ht i hi; simp only[Bool.and_eq_true]at this; exact this.2
   have hs:∀ a b:gF,((decide (a.1=b.1)&&decide (a.2.1=b.2.1))&&decide (a.2.2=b.2.2))=fi a b:=fun _ _=>rfl;have hg:∀ j:Nat,ix l (j:Int)=be l j:=fun j=>bk _ _;refine⟨[],cT l k,aJ k (fun k=>(l,(l.length:Int),(k:Int),c,cT l k)) _ (fun k' hk'=>?_) ?_ (by omega)⟩
   ·have hok:=ht k' hk';simp only[Bool.and_eq_true]at hok;have hcl:nh l k'=false:=by rw[ni fun i hi=>hid i (by omega),hok.2]; rfl
    have hR:=hok.1;simp only[si,Bool.and_eq_true]at hR;have f3:=an (show k' < 9223372036854775807 by omega);simp only[u5,qF,ol,ay (show k' < l.length by omega),cond_true,ak (show k' < l.length by omega),bI,hg,hs,gz,af,f1,hR.1,hR.2.1,hR.2.2,Bool.not_true,cond_false,f3,aM];unfold nh at hcl
    revert hcl
    cases(aU (cT l k') [(be l k').1]).isSome with
    | false=>intro _; rfl
    | true=>
     cases fi (fp (aU (cT l k') [(be l k').1]) (0,0,0)) (be l k')with
     | true=>intro _; rfl
     | false=>intro h; simp at h
   ·have hcl:=ni hid;have f3:=an (show k < 9223372036854775807 by omega);simp only[u5,qF,ol,ay hk,cond_true,ak hk,bI,hg,hs,gz,af,f1,f3];unfold nh at hcl;simp only[si]at hf
    revert hcl hf
    cases er l k <;> cases(aU (cT l k) [(be l k).1]).isSome <;> cases fi (fp (aU (cT l k) [(be l k).1]) (0,0,0)) (be l k) <;> cases wi (be l k).1 0 99 <;> cases wi (be l k).2.2 0 99 <;> cases wi (be l k).2.1 0 ((c.1.length:Int)-1) <;> simp
 obtain⟨m1,m2,e0⟩:=e0;simp only[u2,nk,K8,Ho,se,hv,af,decide_true,Bool.not_true,cond_true,cond_false,d1,e0,nD,t1,Bool.true_and];cases(bK l.length fun i=>si c.1.length (be l i)&&er l i) <;> rfl
structure RepOk (ns:Nat) (l:List gF):Prop where
 len:l.length≤30
 ok:∀ r∈l,si ns r=true
 id:∀ r∈l,∀ q∈l,r.1=q.1→r=q
theorem jY {l:List gF}{k:Nat}(h:k < l.length):be l k∈l:=by rw[be,jV l _ h]; exact List.getElem_mem h
theorem pD {l:List gF}{r:gF}(h:r∈l):∃ k,k < l.length∧be l k=r:=by
 obtain⟨k,hk,e⟩:=List.mem_iff_getElem.1 h;exact⟨k,hk,by rw[be,jV l _ hk]; exact e⟩
theorem jZ {ns:Nat}{l:List gF}:nD ns l=true↔RepOk ns l:=by
 simp only[nD,Bool.and_eq_true,decide_eq_true_eq,bp,fU];constructor
 ·rintro⟨h1,h2⟩;refine⟨h1,fun r hr=>?_,fun r hr q hq e=>?_⟩
  ·obtain⟨k,hk,rfl⟩:=pD hr; exact(h2 k hk).1
  ·obtain⟨k,hk,rfl⟩:=pD hr;obtain⟨j,hj,rfl⟩:=pD hq;rcases Nat.lt_trichotomy k j with h | h | h
   ·exact(h2 j hj).2 k h e
   ·rw[h]
   ·exact((h2 k hk).2 j h e.symm).symm
 ·rintro⟨h1,h2,h3⟩;exact⟨h1,fun i hi=>⟨h2 _ (jY hi),fun k hk e=>h3 _ (jY (by omega)) _ (jY hi) e⟩⟩
theorem dA {f g:Nat→Int}{j:Nat}{d:Int}(h1:∀ k,k≠j→g k=f k)(h2:g j=f j+d):∀ n,sumN n g=sumN n f+(if j < n then d else 0)
 | 0=>by simp[sumN,mV]
 | n+1=>by
  rw[aC,aC,dA h1 h2 n];by_cases e:n=j
  ·subst e; rw[h2]; simp; omega
  ·rw[h1 n e];by_cases hj:j < n
   ·rw[if_pos hj,if_pos (by omega)]; omega
   ·rw[if_neg hj,if_neg (by omega)]; omega
def aH (l:List gF)(m:Nat)(s k:Int):Bool:=!(bK m fun j=>!(decide ((be l j).2.2=s)&&decide ((be l j).2.1=k)))
theorem cZ (l:List gF)(m:Nat)(s k:Int):aH l (m+1) s k=(aH l m s k||(decide ((be l m).2.2=s)&&decide ((be l m).2.1=k))):=by
 simp only[aH,bK];cases(bK m fun j=>!(decide ((be l j).2.2=s)&&decide ((be l j).2.1=k))) <;> cases(decide ((be l m).2.2=s)&&decide ((be l m).2.1=k)) <;> rfl
section
variable (c:dk) (l:List gF)
def bV (m i:Nat):Int:=sumN c.1.length fun k=>bY (b8 (aI c i) (dU c k)&&aH l m (aI c i).1 k)
def fV (m:Nat):Int:=sumN 100 fun s=>sumN c.1.length fun k=>bY (aH l m (s:Nat) k)
def cp (m i:Nat):Int:=max 0 ((aI c i).2.1-bV c l m i)
def ia (m:Nat):Int:=sumN c.2.length fun i=>(aI c i).2.1-cp c l m i
def dB (m:Nat):Int:=fV c l m-ia c l m
structure OweI (m:Nat) (ex:Int) (seen done:dF) (w:List Int):Prop where
 ex:ex=dB c l m
 sn:∀ s k:Int,0≤fp (aU seen [s,k]) 0∧fp (aU seen [s,k]) 0≤m∧(fp (aU seen [s,k]) 0=0↔aH l m s k=false)
 dn:∀ i k:Nat,i < c.2.length→k < c.1.length→fp (aU done [(i:Int),(k:Int)]) 0=bY (b8 (aI c i) (dU c k)&&aH l m (aI c i).1 k)
 wl:w.length=c.2.length
 wa:∀ i:Nat,i < c.2.length→ix w (i:Int)=cp c l m i
end
section
variable {c:dk} {l:List gF}
theorem t7 (m i:Nat):0≤bV c l m i∧bV c l m i≤c.1.length:=by
 have:=bR (f:=fun k=>bY (b8 (aI c i) (dU c k)&&aH l m (aI c i).1 k)) (a:=0) (b:=1) (n:=c.1.length) (fun _ _=>fq _);unfold bV; omega
theorem t8 (m:Nat):0≤fV c l m∧fV c l m≤100*c.1.length:=by
 have h:=bR (f:=fun s=>sumN c.1.length fun k=>bY (aH l m (s:Nat) k)) (a:=0) (b:=c.1.length) (n:=100) (fun s _=>by
  have:=bR (f:=fun k=>bY (aH l m (s:Nat) k)) (a:=0) (b:=1) (n:=c.1.length) (fun _ _=>fq _);omega)
 unfold fV; omega
theorem ib (hv:ba c=true)(m:Nat){i:Nat}(hi:i < c.2.length):0≤cp c l m i∧cp c l m i≤(aI c i).2.1:=by
 have h1:=b9 hv hi;have h2:=t7 (c:=c) (l:=l) m i;unfold cp; omega
theorem yo (hv:ba c=true)(m:Nat):0≤ia c l m∧ia c l m≤48:=by
 have h:=bR (f:=fun i=>(aI c i).2.1-cp c l m i) (a:=0) (b:=8) (n:=c.2.length) (fun i hi=>by
  have h1:=ib (l:=l) hv m hi;have h2:=b9 hv hi;show 0≤(aI c i).2.1-cp c l m i∧(aI c i).2.1-cp c l m i≤8;omega)
 have:=cF hv;unfold ia; omega
theorem vl (hv:ba c=true)(m:Nat):-48≤dB c l m∧dB c l m≤800:=by
 have h1:=t8 (c:=c) (l:=l) m; have h2:=yo (l:=l) hv m; have:=cF hv;unfold dB; omega
theorem yp (c:dk)(r:gF)(h:c.2.length < 1000000):(∃ i:Nat,i < c.2.length∧(aI c i).1=r.2.2∧fO (c.2,r)=some (i:Int))∨((∀ i,i < c.2.length→(aI c i).1≠r.2.2)∧fO (c.2,r)=some (-1)):=by
 have hg:∀ j:Nat,ix c.2 (j:Int)=aI c j:=fun j=>bk _ _;have h1:∀ k,k < c.2.length→jQ c.2 r (c.2.length:Int) (k:Int)=some (cond (!decide ((aI c k).1=r.2.2)) (.inl (c.2,r,(c.2.length:Int),((k+1:Nat):Int))) (.inr (.inl (k:Int)))):=by
  intro k hk;simp only[u2,u4,jQ,lT,ay hk,cond_true,ak hk,bI,hg,yz,OJ,MG,af,an (show k < 9223372036854775807 by omega),aM];cases decide ((aI c k).1=r.2.2) <;> rfl
 have h2:jQ c.2 r (c.2.length:Int) (c.2.length:Int)=some (.inr (.inr ())):=by
  simp only[u4,jQ,lT,aE,cond_false]
 cases hn:(bK c.2.length fun k=>!decide ((aI c k).1=r.2.2))with
 | true=>
  have:lU (c.2,r,(c.2.length:Int),0)=some (.inr ()):=aJ c.2.length (fun k=>(c.2,r,(c.2.length:Int),(k:Int))) _ (fun k hk=>by
   have:=bp.1 hn k hk;exact(h1 k hk).trans (by rw[this]; rfl)) h2 (by omega)
  refine .inr ⟨fun i hi=>by have:=bp.1 hn i hi; simpa using this,?_⟩;simp only[u2,fO,xe,tr,this,af,d8]
 | false=>
  obtain⟨k,hk,hf,ht⟩:=dP hn;have:lU (c.2,r,(c.2.length:Int),0)=some (.inl (k:Int)):=aJ k (fun k=>(c.2,r,(c.2.length:Int),(k:Int))) _ (fun i hi=>by
   have:=ht i hi;exact(h1 i (by omega)).trans (by rw[this]; rfl)) ((h1 k hk).trans (by rw[hf]; rfl)) (by omega)
  refine .inl ⟨k,hk,by simpa using hf,?_⟩;simp only[u2,fO,xe,tr,this,af,qA]
theorem qV (hv:ba c=true){i j:Nat}(hi:i < c.2.length)(hj:j < c.2.length)(e:(aI c i).1=(aI c j).1):i=j:=by
 have key:∀ {a b:Nat},a < b→b < c.2.length→(aI c a).1≠(aI c b).1:=fun {a b} h hb=>by
  simp only[ba,Bool.and_eq_true,decide_eq_true_eq]at hv;have:=bp.1 hv.2.2.2 b hb;simp only[Bool.and_eq_true]at this;have h2:(!decide ((aI c a).1=(aI c b).1))=true:=bp.1 this.2 a h
  simpa using h2
 rcases Nat.lt_trichotomy i j with h | h | h
 ·exact absurd e (key h hj)
 ·exact h
 ·exact absurd e.symm (key h hi)
theorem OweI.same {m:Nat}{ex:Int}{seen done:dF}{w:List Int}(h:OweI c l m ex seen done w)(hs:aH l m (be l m).2.2 (be l m).2.1=true)(v:Int)(hv:v=fp (aU seen [(be l m).2.2,(be l m).2.1]) 0+1):
  OweI c l (m+1) ex (cI seen [(be l m).2.2,(be l m).2.1] v) done w:=by
 have e:∀ s k,aH l (m+1) s k=aH l m s k:=fun s k=>by
  rw[cZ];cases hd:(decide ((be l m).2.2=s)&&decide ((be l m).2.1=k))with
  | false=>simp
  | true=>
   simp only[Bool.and_eq_true,decide_eq_true_eq]at hd;rw[← hd.1,← hd.2,hs]; rfl
 have e1:∀ i,bV c l (m+1) i=bV c l m i:=fun i=>by simp only[bV,e]
 have e2:fV c l (m+1)=fV c l m:=by simp only[fV,e]
 have e3:∀ i,cp c l (m+1) i=cp c l m i:=fun i=>by simp only[cp,e1]
 refine⟨by rw[h.ex]; simp only[dB,ia,e2,e3],fun s k=>?_,fun i k hi hk=>by rw[e]; exact h.dn i k hi hk,h.wl,fun i hi=>by rw[e3]; exact h.wa i hi⟩;have h1:=h.sn s k;have h2:=h.sn (be l m).2.2 (be l m).2.1;rw[dg,e];by_cases hq:[s,k]=[(be l m).2.2,(be l m).2.1]
 ·rw[if_pos hq];simp only[List.cons.injEq,and_true]at hq;rw[hq.1,hq.2,hs];refine⟨by omega,by omega,by simp; omega⟩
 ·rw[if_neg hq]; exact⟨h1.1,by omega,h1.2.2⟩
theorem OweI.new {m:Nat}{ex:Int}{seen done:dF}{w:List Int}(hv:ba c=true)(h:OweI c l m ex seen done w){s0 k0:Nat}(hs0:(be l m).2.2=(s0:Int))(hk0:(be l m).2.1=(k0:Int))(hs:s0 < 100)(hk:k0 < c.1.length)
  (hn:aH l m s0 k0=false) {ex':Int} {done':dF} {w':List Int} (hw:w'.length=c.2.length)
  (hd:∀ i k:Nat,i < c.2.length→k < c.1.length→fp (aU done' [(i:Int),(k:Int)]) 0=fp (aU done [(i:Int),(k:Int)]) 0+bY (decide ((aI c i).1=s0)&&(decide (k=k0)&&b8 (aI c i) (dU c k0))))
  (hx:∃ j d,ex'=ex+1-d∧(d=0∨(d=1∧j < c.2.length))∧(∀ i,i < c.2.length→ix w' (i:Int)=ix w (i:Int)-(if i=j then d else 0)) ∧
   (∀ i,i < c.2.length→(aI c i).1=s0→b8 (aI c i) (dU c k0)=true→(i=j∧d=1∧0 < ix w (i:Int))∨(d=0∧ix w (i:Int)=0))∧(d=1→(aI c j).1=s0∧b8 (aI c j) (dU c k0)=true)) :
  OweI c l (m+1) ex' (cI seen [(s0:Int),(k0:Int)] 1) done' w':=by
 obtain⟨j,d,hx1,hx2,hx3,hx4,hx5⟩:=hx;have e:∀ s k:Int,aH l (m+1) s k=(aH l m s k||(decide ((s0:Int)=s)&&decide ((k0:Int)=k))):=fun s k=>by rw[cZ,hs0,hk0]
 have e1:∀ i,i < c.2.length→bV c l (m+1) i=bV c l m i+bY (decide ((aI c i).1=s0)&&b8 (aI c i) (dU c k0)):=fun i hi=>by
  have h1:=dA (f:=fun k=>bY (b8 (aI c i) (dU c k)&&aH l m (aI c i).1 k)) (g:=fun k=>bY (b8 (aI c i) (dU c k)&&aH l (m+1) (aI c i).1 k)) (j:=k0) (d:=bY (decide ((aI c i).1=s0)&&b8 (aI c i) (dU c k0)))
   (fun k hk=>by
    have:decide ((k0:Int)=(k:Int))=false:=by simp; omega
    simp only[e,this,Bool.and_false,Bool.or_false])
   (by
    by_cases hi2:(aI c i).1=s0
    ·simp only[e,hi2,hn]
     simp[bY]
    ·have:decide ((s0:Int)=(aI c i).1)=false:=by simp; exact fun h=>hi2 h.symm
     simp[e,this,hi2,bY])
   c.1.length
  rw[if_pos hk]at h1;exact h1
 have e2:fV c l (m+1)=fV c l m+1:=by
  have h1:=dA (f:=fun s=>sumN c.1.length fun k=>bY (aH l m (s:Nat) k)) (g:=fun s=>sumN c.1.length fun k=>bY (aH l (m+1) (s:Nat) k)) (j:=s0) (d:=1)
   (fun s hs=>by
    have:decide ((s0:Int)=(s:Int))=false:=by simp; omega
    simp only[e,this,Bool.false_and,Bool.or_false])
   (by
    have h2:=dA (f:=fun k=>bY (aH l m (s0:Nat) k)) (g:=fun k=>bY (aH l (m+1) (s0:Nat) k)) (j:=k0) (d:=1)
     (fun k hk=>by
      have:decide ((k0:Int)=(k:Int))=false:=by simp; omega
      simp only[e,this,Bool.and_false,Bool.or_false])
     (by simp[e,hn,bY])
     c.1.length
    rw[if_pos hk]at h2;exact h2)
   100
  rw[if_pos hs]at h1;exact h1
 have e3:∀ i,i < c.2.length→cp c l (m+1) i=cp c l m i-(if i=j then d else 0):=fun i hi=>by
  have h1:=h.wa i hi;have h2:=ib (l:=l) hv m hi;unfold cp at h1 h2 ⊢;rw[e1 i hi];cases hb:(decide ((aI c i).1=s0)&&b8 (aI c i) (dU c k0))with
  | false=>
   have:(if i=j then d else 0)=0:=by
    by_cases hij:i=j
    ·rw[if_pos hij];rcases hx2 with h3 | ⟨h3,_⟩
     ·exact h3
     ·exfalso
      have:=hx5 h3;rw[← hij]at this
      simp[this.1,this.2]at hb
    ·rw[if_neg hij]
   rw[this]; simp[bY]
  | true=>
   simp only[Bool.and_eq_true,decide_eq_true_eq]at hb;have hb1:bY true=1:=rfl;rw[hb1];rcases hx4 i hi hb.1 hb.2 with⟨h3,h4,h5⟩ | ⟨h4,h5⟩
   ·rw[if_pos h3,h4]; omega
   ·have:(if i=j then d else 0)=0:=by rw[h4]; simp
    rw[this]; omega
 have e4:ia c l (m+1)=ia c l m+d:=by
  rcases hx2 with h3 | ⟨h3,h4⟩
  ·rw[h3,Int.add_zero];refine bD fun i hi=>?_;rw[e3 i hi,h3]; simp
  ·have h5:ia c l (m+1)=sumN c.2.length fun i=>((aI c i).2.1-cp c l m i)+(if i=j then d else 0):=bD fun i hi=>by rw[e3 i hi]; omega
   have h6:=dA (f:=fun i=>(aI c i).2.1-cp c l m i) (g:=fun i=>((aI c i).2.1-cp c l m i)+(if i=j then d else 0)) (j:=j) (d:=d) (fun k hk=>by simp[hk]) (by simp) c.2.length;rw[if_pos h4]at h6;rw[h5,h6]; rfl
 refine⟨by rw[hx1,h.ex]; unfold dB; rw[e2,e4]; omega,fun s k=>?_,fun i k hi hk2=>?_,hw,fun i hi=>by rw[hx3 i hi,e3 i hi,h.wa i hi]⟩
 ·have h1:=h.sn s k;rw[dg,e];by_cases hq:[s,k]=[(s0:Int),(k0:Int)]
  ·rw[if_pos hq];simp only[List.cons.injEq,and_true]at hq;rw[hq.1,hq.2];refine⟨by omega,by omega,by simp⟩
  ·rw[if_neg hq];have:(decide ((s0:Int)=s)&&decide ((k0:Int)=k))=false:=by
    cases hh:(decide ((s0:Int)=s)&&decide ((k0:Int)=k))with
    | false=>rfl
    | true=>simp only[Bool.and_eq_true,decide_eq_true_eq]at hh; exact absurd (by rw[hh.1,hh.2]) hq
   rw[this,Bool.or_false];exact⟨h1.1,by omega,h1.2.2⟩
 ·rw[hd i k hi hk2,h.dn i k hi hk2,e];by_cases h1:(aI c i).1=s0
  ·by_cases h2:k=k0
   ·subst h2;rw[h1,hn]; simp[bY]
   ·have:decide ((k0:Int)=(k:Int))=false:=by simp; omega
    simp[this,h2,bY]
  ·have:decide ((s0:Int)=(aI c i).1)=false:=by simp; exact fun h=>h1 h.symm
   simp[this,h1,bY]
end
theorem eb {σ ρ:Type}{step:σ→Option (σ⊕ρ)}(n:Nat)(R:Nat→σ→Prop)(Q:ρ→Prop)(x0:σ)(h0:R 0 x0)(h1:∀ k x,k < n→R k x→∃ y,step x=some (.inl y)∧R (k+1) y)
  (h2:∀ x,R n x→∃ r,step x=some (.inr r)∧Q r) (hn:n < 18446744073709551616):∃ r,aa step x0=some r∧Q r:=by
 have key:∀ (d k m:Nat) (x:σ),k+d=n→d < m→R k x→∃ r,yw step m x=some r∧Q r:=by
  intro d
  induction d with
  | zero=>
   intro k m x hk hm hx;cases m with
   | zero=>omega
   | succ m=>
    have:k=n:=by omega
    subst this;obtain⟨r,h3,h4⟩:=h2 x hx;exact⟨r,by simp only[yw,h3],h4⟩
  | succ d ih=>
   intro k m x hk hm hx;cases m with
   | zero=>omega
   | succ m=>
    obtain⟨y,h3,h4⟩:=h1 k x (by omega) hx;obtain⟨r,h5,h6⟩:=ih (k+1) m y (by omega) (by omega) h4;exact⟨r,by simp only[yw,h3]; exact h5,h6⟩
 exact key n 0 _ x0 (by omega) hn h0
section
variable {c:dk} {l:List gF}
theorem ua {ns:Nat}{r:gF}(h:si ns r=true):∃ s0 k0:Nat,r.2.2=(s0:Int)∧r.2.1=(k0:Int)∧s0 < 100∧k0 < ns:=by
 simp only[si,Bool.and_eq_true,hN]at h;exact⟨r.2.2.toNat,r.2.1.toNat,by omega,by omega,by omega,by omega⟩
theorem OweI.zero (hv:ba c=true):OweI c l 0 0 [] [] (jW c):=by
 have e:∀ s k,aH l 0 s k=false:=fun _ _=>rfl;have e1:∀ i,bV c l 0 i=0:=fun i=>by
  have:=bR (f:=fun k=>bY (b8 (aI c i) (dU c k)&&aH l 0 (aI c i).1 k)) (a:=0) (b:=0) (n:=c.1.length) (fun k _=>by
   show 0≤bY (b8 (aI c i) (dU c k)&&aH l 0 (aI c i).1 k)∧bY (b8 (aI c i) (dU c k)&&aH l 0 (aI c i).1 k)≤0;rw[e,Bool.and_false]; decide)
  unfold bV; omega
 have e3:∀ i,i < c.2.length→cp c l 0 i=(aI c i).2.1:=fun i hi=>by
  have:=b9 hv hi;unfold cp; rw[e1]; omega
 have e4:ia c l 0=0:=by
  have:=bR (f:=fun i=>(aI c i).2.1-cp c l 0 i) (a:=0) (b:=0) (n:=c.2.length) (fun i hi=>by
   show 0≤(aI c i).2.1-cp c l 0 i∧(aI c i).2.1-cp c l 0 i≤0;rw[e3 i hi]; omega)
  unfold ia; omega
 have e5:fV c l 0=0:=by
  have:=bR (f:=fun s=>sumN c.1.length fun k=>bY (aH l 0 (s:Nat) k)) (a:=0) (b:=0) (n:=100) (fun s _=>by
   have:=bR (f:=fun k=>bY (aH l 0 (s:Nat) k)) (a:=0) (b:=0) (n:=c.1.length) (fun k _=>by
    show 0≤bY (aH l 0 (s:Nat) k)∧bY (aH l 0 (s:Nat) k)≤0;rw[e]; decide)
   omega)
  unfold fV; omega
 refine⟨by unfold dB; rw[e4,e5]; rfl,fun s k=>?_,fun i k hi hk=>by rw[e,Bool.and_false]; rfl,by simp[jW],fun i hi=>by rw[vj hi,e3 i hi]⟩;rw[e]; simp[aU,fp]
theorem yq (hv:ba c=true){m:Nat}(hm:m < l.length)(hl:l.length≤30)(hr:si c.1.length (be l m)=true){ex:Int}{seen done:dF}{w:List Int}(h:OweI c l m ex seen done w):
  ∃ ex' seen' done' w',jR ex l (l.length:Int) (m:Int) c c.1 c.2 seen done w=some (.inl (ex',l,(l.length:Int),((m+1:Nat):Int),c,c.1,c.2,seen',done',w'))∧OweI c l (m+1) ex' seen' done' w'∧ex≤ex':=by
 obtain⟨s0,k0,hs0,hk0,hs,hk⟩:=ua hr;have hc:=cF hv;have hg:ix l (m:Int)=be l m:=bk _ _;have hx:=vl (l:=l) hv m;have hex:=h.ex;have f1:aq .i64 (ex+1)=true:=cg (by omega) (by omega);have f3:=an (show m < 9223372036854775807 by omega);have hsn:=h.sn (be l m).2.2 (be l m).2.1;have f2:aq .i64 (fp (aU seen [(be l m).2.2,(be l m).2.1]) 0+1)=true:=cg (by omega) (by omega);cases hseen:aH l m (be l m).2.2 (be l m).2.1 with
 | true=>
  have hd:decide ((1:Int) < fp (aU seen [(be l m).2.2,(be l m).2.1]) 0+1)=true:=by
   rw[hseen]at hsn;simp only[decide_eq_true_eq];have:¬ fp (aU seen [(be l m).2.2,(be l m).2.1]) 0=0:=fun h=>by have:=hsn.2.2.1 h; simp at this
   omega
  refine⟨_,_,_,_,?_,h.same hseen _ rfl,Int.le_refl _⟩;simp only[yF,jR,lh,ay hm,cond_true,ak hm,bI,hg,f2,dg,if_true,hd,f3,aM]
 | false=>
  have hz:fp (aU seen [(be l m).2.2,(be l m).2.1]) 0=0:=hsn.2.2.2 hseen;have hd:decide ((1:Int) < 0+1)=false:=by decide
  have f2':aq .i64 ((0:Int)+1)=true:=by decide
  rw[hz]at f2;have hn:aH l m (s0:Int) (k0:Int)=false:=by rw[← hs0,← hk0]; exact hseen
  have hk0':aZ (be l m).2.1 c.1.length=true:=by rw[hk0]; exact ak hk
  rcases yp c (be l m) (by omega)with⟨i,hi,hspot,hP⟩ | ⟨hno,hP⟩
  ·have hneg:decide ((i:Int) < 0)=false:=by simp
   have hgp:ix c.2 (i:Int)=aI c i:=bk _ _;have hgs:ix c.1 (k0:Int)=dU c k0:=bk _ _;have hdn:=h.dn i k0 hi hk;rw[hspot,hs0,hn,Bool.and_false]at hdn;have hdn0:fp (aU done [(i:Int),(k0:Int)]) 0=0:=hdn;have h57:hU ((i:Int),(be l m).2.1,c.1,c.2,done,w)=some (b8 (aI c i) (dU c k0),c.1,c.2,done,w):=by
    rw[yb _ _ c done w (ak hi) hk0',hk0,hgp,hgs,hdn0]; simp
   have huniq:∀ i',i' < c.2.length→(aI c i').1=(s0:Int)→i'=i:=fun i' hi' e=>qV hv hi' hi (by rw[e,hspot,hs0]);have hsp:(aI c i).1=(s0:Int):=by rw[hspot,hs0]
   cases hfit:b8 (aI c i) (dU c k0)with
   | false=>
    refine⟨ex+1,cI seen [(s0:Int),(k0:Int)] 1,done,w,?_,h.new hv hs0 hk0 hs hk hn h.wl (fun i' k' hi' hk'=>?_) ⟨0,0,by omega,.inl rfl,fun i' _=>by simp,fun i' hi' e1 e2=>?_,fun e=>by simp at e⟩,by omega⟩
    ·simp only[yF,jR,lh,ay hm,cond_true,ak hm,bI,hg,hz,f2,dg,if_true,hd,cond_false,hP,af,hneg,h57,hfit,Bool.not_false,f1,f3,aM];rw[hs0,hk0]; rfl
    ·have:(decide ((aI c i').1=(s0:Int))&&(decide (k'=k0)&&b8 (aI c i') (dU c k0)))=false:=by
      by_cases e1:(aI c i').1=(s0:Int)
      ·rw[huniq i' hi' e1,hfit]; simp
      ·simp[e1]
     rw[this]; simp[bY]
    ·rw[huniq i' hi' e1,hfit]at e2; cases e2
   | true=>
    have hw:aZ (i:Int) w.length=true:=ak (by rw[h.wl]; exact hi);have hd':∀ i' k':Nat,i' < c.2.length→k' < c.1.length→fp (aU (cI done [(i:Int),(k0:Int)] 1) [(i':Int),(k':Int)]) 0=fp (aU done [(i':Int),(k':Int)]) 0+bY (decide ((aI c i').1=(s0:Int))&&(decide (k'=k0)&&b8 (aI c i') (dU c k0))):=fun i' k' hi' hk'=>by
     rw[dg];by_cases hq:[(i':Int),(k':Int)]=[(i:Int),(k0:Int)]
     ·rw[if_pos hq];simp only[List.cons.injEq,and_true]at hq;have e1:i'=i:=by omega
      have e2:k'=k0:=by omega
      rw[e1,e2,hdn0,hsp,hfit]; simp[bY]
     ·rw[if_neg hq];have:(decide ((aI c i').1=(s0:Int))&&(decide (k'=k0)&&b8 (aI c i') (dU c k0)))=false:=by
       by_cases e1:(aI c i').1=(s0:Int)
       ·have e2:=huniq i' hi' e1;by_cases e3:k'=k0
        ·exfalso; apply hq; rw[e2,e3]
        ·simp[e3]
       ·simp[e1]
      rw[this]; simp[bY]
    have hwb:=ib (l:=l) hv m hi;have ht:=b9 hv hi;have hwa:=h.wa i hi;cases hw0:decide (ix w (i:Int)=0)with
    | true=>
     have hw0':=of_decide_eq_true hw0;refine⟨ex+1,cI seen [(s0:Int),(k0:Int)] 1,cI done [(i:Int),(k0:Int)] 1,w,?_,h.new hv hs0 hk0 hs hk hn h.wl hd' ⟨0,0,by omega,.inl rfl,fun i' _=>by simp,fun i' hi' e1 e2=>.inr ⟨rfl,by rw[huniq i' hi' e1]; exact hw0'⟩,fun e=>by simp at e⟩,by omega⟩;have f4:aq .i64 (fp (aU done [(i:Int),(be l m).2.1]) 0+1)=true:=by rw[hk0,hdn0]; decide
     simp only[yF,jR,lh,ay hm,cond_true,ak hm,bI,hg,hz,f2,dg,if_true,hd,cond_false,hP,af,hneg,h57,hfit,Bool.not_true,hw,hw0,f1,f3,f4,aM];rw[hs0,hk0,hdn0]; rfl
    | false=>
     have hw0':=of_decide_eq_false hw0;have f4:aq .i64 (fp (aU done [(i:Int),(be l m).2.1]) 0+1)=true:=by rw[hk0,hdn0]; decide
     have f5:aq .i64 (ix w (i:Int)-1)=true:=cg (by omega) (by omega);refine⟨ex,cI seen [(s0:Int),(k0:Int)] 1,cI done [(i:Int),(k0:Int)] 1,w.set i (ix w (i:Int)-1),?_,h.new hv hs0 hk0 hs hk hn (by simp[h.wl]) hd' ⟨i,1,by omega,.inr ⟨rfl,hi⟩,fun i' hi'=>?_,fun i' hi' e1 e2=>.inl ⟨huniq i' hi' e1,rfl,?_⟩,fun _=>⟨hsp,hfit⟩⟩,Int.le_refl _⟩
     ·simp only[yF,jR,lh,ay hm,cond_true,ak hm,bI,hg,hz,f2,dg,if_true,hd,cond_false,hP,af,hneg,h57,hfit,Bool.not_true,hw,hw0,f1,f3,f4,f5,Int.toNat_natCast,aM];rw[hs0,hk0,hdn0]; rfl
     ·rw[bk,oO _ _ _ _ _ (by rw[h.wl]; exact hi')];by_cases e:i'=i
      ·rw[if_pos e,if_pos e,e]
      ·rw[if_neg e,if_neg e,bk]; omega
     ·rw[huniq i' hi' e1]; omega
  ·have hneg:decide ((-1:Int) < 0)=true:=by decide
   refine⟨ex+1,cI seen [(s0:Int),(k0:Int)] 1,done,w,?_,h.new hv hs0 hk0 hs hk hn h.wl (fun i' k' hi' hk'=>?_) ⟨0,0,by omega,.inl rfl,fun i' _=>by simp,fun i' hi' e1 e2=>absurd (by rw[hs0]; exact e1) (hno i' hi'),fun e=>by simp at e⟩,by omega⟩
   ·simp only[yF,jR,lh,ay hm,cond_true,ak hm,bI,hg,hz,f2,dg,if_true,hd,cond_false,hP,af,hneg,f1,f3,aM];rw[hs0,hk0]; rfl
   ·have:decide ((aI c i').1=(s0:Int))=false:=by
     have:=hno i' hi';rw[hs0]at this
     simp[this]
    rw[this]; simp[bY]
theorem yr (hv:ba c=true)(hr:RepOk c.1.length l):∃ ex seen done w,P41 (c,l)=some (ex,c.1,c.2,done,w)∧OweI c l l.length ex seen done w:=by
 have hc:=cF hv;obtain⟨r,e,hQ⟩:=eb (step:=fun x=>jR x.1 x.2.1 x.2.2.1 x.2.2.2.1 x.2.2.2.2.1 x.2.2.2.2.2.1 x.2.2.2.2.2.2.1 x.2.2.2.2.2.2.2.1 x.2.2.2.2.2.2.2.2.1 x.2.2.2.2.2.2.2.2.2) l.length
  (fun k x=>∃ ex seen done w,x=(ex,l,(l.length:Int),(k:Int),c,c.1,c.2,seen,done,w)∧OweI c l k ex seen done w)
  (fun r=>∃ ex seen done w,r=(ex,c,c.1,c.2,seen,done,w)∧OweI c l l.length ex seen done w)
  ((0:Int),l,(l.length:Int),(0:Int),c,c.1,c.2,[],[],jW c) ⟨_,_,_,_,rfl,OweI.zero hv⟩
  (fun k x hk ⟨ex,seen,done,w,hx,hI⟩=>by
   subst hx;obtain⟨ex',seen',done',w',h1,h2,_⟩:=yq hv hk hr.len (hr.ok _ (jY hk)) hI;exact⟨_,h1,ex',seen',done',w',rfl,h2⟩)
  (fun x ⟨ex,seen,done,w,hx,hI⟩=>by
   subst hx;exact⟨_,by simp only[yF,jR,lh,aE,cond_false],ex,seen,done,w,rfl,hI⟩) (by have:=hr.len; omega)
 obtain⟨ex,seen,done,w,rfl,hI⟩:=hQ;refine⟨ex,seen,done,w,?_,hI⟩;have e':xf ((0:Int),l,(l.length:Int),(0:Int),c,c.1,c.2,[],[],jW c)=some (ex,c,c.1,c.2,seen,done,w):=e;simp only[u2,P41,OK,MI,FS c (by omega),af,e']
end
theorem FE (s:List oL)(h:s.length < 1000000):tt s=some s:=by
 have f:bN 24 (List.length ([]:List oL)+s.length)=true:=cM (by simp; omega);simp only[tt,OO,MT,f,bI,List.nil_append];cases hd:decide (s.length=0)with
 | false=>rfl
 | true=>
  have:s=[]:=List.length_eq_zero_iff.1 (of_decide_eq_true hd);rw[this]; simp[zw]
def dd (day:Int)(k:Nat)(s:List oL):List oL:=mV (fun i s=>cond (decide ((ix s i).1 < day)) (s.set i ((ix s i).1,(ix s i).2.1,0)) s) k s
def ll (day:Int)(s:oL):oL:=cond (decide (s.1 < day)) (s.1,s.2.1,0) s
theorem jU (day:Int)(s:List oL):∀ k,k≤s.length→(dd day k s).length=s.length∧∀ j,j < s.length→(dd day k s).getD j default=if j < k then ll day (s.getD j default)else s.getD j default
 | 0,_=>⟨rfl,fun j hj=>rfl⟩
 | k+1,hk=>by
  obtain⟨h1,h2⟩:=jU day s k (by omega);have e:dd day (k+1) s=cond (decide ((ix (dd day k s) k).1 < day)) ((dd day k s).set k ((ix (dd day k s) k).1,(ix (dd day k s) k).2.1,0)) (dd day k s):=rfl;have hk':=h2 k (by omega);rw[if_neg (Nat.lt_irrefl k)]at hk';rw[e,bk,hk'];cases hd:decide ((s.getD k default).1 < day)with
  | false=>
   refine⟨h1,fun j hj=>?_⟩;rw[cond_false,h2 j hj];by_cases ej:j=k
   ·subst ej;rw[if_neg (Nat.lt_irrefl j),if_pos (Nat.lt_succ_self j)];unfold ll; rw[hd]; rfl
   ·by_cases hjk:j < k
    ·rw[if_pos hjk,if_pos (by omega)]
    ·rw[if_neg hjk,if_neg (by omega)]
  | true=>
   refine⟨by rw[cond_true,List.length_set]; exact h1,fun j hj=>?_⟩;rw[cond_true,oO _ _ _ _ _ (by rw[h1]; exact hj)];by_cases ej:j=k
   ·subst ej;rw[if_pos rfl,if_pos (Nat.lt_succ_self j)];unfold ll; rw[hd]; rfl
   ·rw[if_neg ej,h2 j hj];by_cases hjk:j < k
    ·rw[if_pos hjk,if_pos (by omega)]
    ·rw[if_neg hjk,if_neg (by omega)]
def dz (day:Int)(c:dk):dk:=(dd day c.1.length c.1,c.2)
theorem kO (day:Int)(c:dk):(dz day c).1.length=c.1.length:=(jU day c.1 _ (Nat.le_refl _)).1
theorem mZ (day:Int)(c:dk){k:Nat}(hk:k < c.1.length):ix (dz day c).1 (k:Int)=ll day (dU c k):=by
 have:=(jU day c.1 _ (Nat.le_refl _)).2 k hk;rw[if_pos hk]at this;rw[bk]; exact this
section
variable {c:dk} {l:List gF}
theorem oE (hv:ba c=true){m:Nat}{ex:Int}{seen done:dF}{w:List Int}(h:OweI c l m ex seen done w)(day:Int):Good (dz day c) w:=by
 have hl:=cF hv;refine⟨by rw[kO]; exact hl.1,hl.2,by rw[h.wl]; exact hl.2,fun i hi=>?_,fun k hk=>?_⟩
 ·rw[h.wl]at hi;have h1:=ib (l:=l) hv m hi;have h2:=b9 hv hi;rw[h.wa i hi]; omega
 ·rw[kO]at hk;rw[mZ day c hk];have:=oM hv hk;simp only[tW,Bool.and_eq_true,hN]at this;unfold ll;cases decide ((dU c k).1 < day)with
  | true=>simp
  | false=>exact this.2.2
theorem FF (hv:ba c=true)(hr:RepOk c.1.length l)(day:Int)(hd:0≤day∧day≤99):∃ ex seen done w,P19 (c,l,day)=some (gA (dz day c) done w,0)∧OweI c l l.length ex seen done w:=by
 have hl:=cF hv;obtain⟨ex,seen,done,w,h41,hI⟩:=yr hv hr;refine⟨ex,seen,done,w,?_,hI⟩;have e0:oq (day,(c.1.length:Int),0,c.2,c.1,done,w)=some (c.2,dd day c.1.length c.1,done,w):=by
  refine aJ c.1.length (fun k=>(day,(c.1.length:Int),(k:Int),c.2,dd day k c.1,done,w)) _ (fun k hk=>?_) ?_ (by omega)
  ·have hlen:=(jU day c.1 k (by omega)).1;have hin:aZ (k:Int) (dd day k c.1).length=true:=ak (by rw[hlen]; exact hk);have e:dd day (k+1) c.1=cond (decide ((ix (dd day k c.1) k).1 < day)) ((dd day k c.1).set k ((ix (dd day k c.1) k).1,(ix (dd day k c.1) k).2.1,0)) (dd day k c.1):=rfl;simp only[u7,xh,tu,ay hk,cond_true,hin,bI,an (show k < 9223372036854775807 by omega),aM,e,Int.toNat_natCast];cases decide ((ix (dd day k c.1) k).1 < day) <;> rfl
  ·simp only[u7,xh,tu,aE,cond_false]
 have hr':=jZ.2 hr;have hw:wi day 0 99=true:=hN.2 hd;have h45:=FX (d:=done) (oE hv hI day);simp only[u3,P19,OP,Ac,sj,hv,hr',cond_true,af,decide_true,Bool.not_true,cond_false,gz,hw,h41,FE c.1 (by omega),e0];have:(((dd day c.1.length c.1,c.2,done,w):List oL×List qT×dF×List Int))=((dz day c).1,(dz day c).2,done,w):=rfl;rw[this,h45]; rfl
theorem FG (hv:ba c=true)(hr:RepOk c.1.length l):∃ seen done w,P17 (c,l)=some (dB c l l.length,0,w)∧OweI c l l.length (dB c l l.length) seen done w:=by
 obtain⟨ex,seen,done,w,h41,hI⟩:=yr hv hr;have hr':=jZ.2 hr;have he:=hI.ex;subst he;refine⟨seen,done,w,?_,hI⟩;simp only[u2,P17,OM,Fq,sj,hv,hr',cond_true,af,decide_true,Bool.not_true,cond_false,h41]
theorem rY {a b:List Int}(hl:a.length=b.length)(h:∀ i,i < a.length→ix a (i:Nat)=ix b (i:Nat)):a=b:=by
 refine List.ext_getElem hl fun i h1 h2=>?_;have:=h i h1;rw[bk,bk,jV _ _ h1,jV _ _ h2]at this;exact this
end
abbrev SetB:=Nat→Bool
def aG (n:Nat)(A:SetB):Int:=sumN n fun i=>bY (A i)
def rZ (n:Nat)(S:SetB)(s:Int×SetB):Int:=min s.1 (aG n fun i=>S i&&s.2 i)
def ctL (n:Nat)(S:SetB):List (Int×SetB)→Int
 | []=>0
 | s::l=>rZ n S s+ctL n S l
def m5 (n:Nat)(t:Nat→Int)(S:SetB):Int:=sumN n fun i=>cond (S i) 0 (t i)
def m6 (n:Nat)(l:List (Int×SetB))(t:Nat→Int)(S:SetB):Int:=m5 n t S+ctL n S l
def redB (t:Nat→Int)(A:SetB)(i:Nat):Int:=cond (A i&&decide (0 < t i)) (t i-1) (t i)
def xJ (n:Nat)(s:Int×SetB)(A:SetB):Prop:=(∀ i,i < n→A i=true→s.2 i=true)∧aG n A≤s.1
inductive LeftB (n:Nat):List (Int×SetB)→(Nat→Int)→(Nat→Int)→Prop
 | nil (t:Nat→Int):LeftB n [] t t
 | cons {s:Int×SetB} {l:List (Int×SetB)} {t u:Nat→Int} (A:SetB) (h:xJ n s A) (k:LeftB n l (redB t A) u):LeftB n (s::l) t u
theorem eR (f g:Nat→Int):∀ n,sumN n (fun i=>f i+g i)=sumN n f+sumN n g
 | 0=>rfl
 | n+1=>by simp only[aC]; rw[eR f g n]; omega
theorem kP {f g f' g':Nat→Int}(n:Nat)(h:∀ i,i < n→f i+g i=f' i+g' i):sumN n f+sumN n g=sumN n f'+sumN n g':=by
 rw[← eR,← eR]; exact bD h
theorem AI (n:Nat)(A:SetB):0≤aG n A:=by
 have:=jX (f:=fun _=>0) (g:=fun i=>bY (A i)) (n:=n) fun k _=>(fq _).1;have e:∀ n,sumN n (fun _=>0)=0:=fun n=>by induction n with
  | zero=>rfl
  | succ n ih=>rw[aC,ih]; rfl
 rw[e]at this;exact this
theorem gy {n:Nat}{A B:SetB}(h:∀ i,i < n→A i=true→B i=true):aG n A≤aG n B:=jX fun k hk=>by
 try dsimp only
 have:=h k hk;cases ha:A k with
 | false=>exact(fq _).1
 | true=>rw[this ha]; exact Int.le_refl _
theorem oF (n:Nat)(A S T:SetB):aG n (fun i=>(S i||T i)&&A i)+aG n (fun i=>(S i&&T i)&&A i)=aG n (fun i=>S i&&A i)+aG n (fun i=>T i&&A i):=kP n fun i _=>by
 try dsimp only
 cases S i <;> cases T i <;> cases A i <;> rfl
theorem AJ (n:Nat)(S T:SetB)(s:Int×SetB):rZ n (fun i=>S i||T i) s+rZ n (fun i=>S i&&T i) s≤rZ n S s+rZ n T s:=by
 have h1:=oF n s.2 S T;have h2:aG n (fun i=>(S i&&T i)&&s.2 i)≤aG n (fun i=>S i&&s.2 i):=gy fun i _ h=>by revert h; cases S i <;> cases T i <;> simp
 have h3:aG n (fun i=>(S i&&T i)&&s.2 i)≤aG n (fun i=>T i&&s.2 i):=gy fun i _ h=>by revert h; cases S i <;> cases T i <;> simp
 unfold rZ
 dsimp only
 omega
theorem tS (n:Nat)(S T:SetB):∀ l,ctL n (fun i=>S i||T i) l+ctL n (fun i=>S i&&T i) l≤ctL n S l+ctL n T l
 | []=>Int.le_refl _
 | s::l=>by have:=tS n S T l; have:=AJ n S T s; simp only[ctL]; omega
theorem qL {n:Nat}{S T:SetB}(h:∀ i,i < n→S i=true→T i=true):∀ l,ctL n S l≤ctL n T l
 | []=>Int.le_refl _
 | s::l=>by
  have:=qL h l;have:aG n (fun i=>S i&&s.2 i)≤aG n (fun i=>T i&&s.2 i):=gy fun i hi q=>by
   rw[Bool.and_eq_true]at q ⊢; exact⟨h i hi q.1,q.2⟩
  simp only[ctL,rZ]; omega
theorem AK (n:Nat)(t:Nat→Int)(S T:SetB):m5 n t (fun i=>S i||T i)+m5 n t (fun i=>S i&&T i)=m5 n t S+m5 n t T:=kP n fun i _=>by
 try dsimp only
 cases S i <;> cases T i <;> simp
theorem AL (n:Nat)(l:List (Int×SetB))(t:Nat→Int)(S T:SetB):m6 n l t (fun i=>S i||T i)+m6 n l t (fun i=>S i&&T i)≤m6 n l t S+m6 n l t T:=by
 have:=AK n t S T; have:=tS n S T l; unfold m6; omega
theorem oG {n:Nat}{A:SetB}{a:Nat}(ha:a < n)(h:A a=true)(S:SetB):aG n (fun i=>S i&&(A i&&!decide (i=a)))=aG n (fun i=>S i&&A i)-bY (S a):=by
 have key:∀ m,sumN m (fun i=>bY (S i&&(A i&&!decide (i=a))))=sumN m (fun i=>bY (S i&&A i))-(if a < m then bY (S a)else 0):=by
  intro m
  induction m with
  | zero=>rw[if_neg (by omega)]; rfl
  | succ m ih=>
   rw[aC,aC,ih];by_cases e:m=a
   ·subst e;rw[if_neg (by omega),if_pos (by omega),h];simp only[decide_true,Bool.not_true,Bool.and_false,Bool.and_true];show _-0+0=_; omega
   ·rw[decide_eq_false e,Bool.not_false,Bool.and_true];by_cases c:a < m
    ·rw[if_pos c,if_pos (by omega)]; omega
    ·rw[if_neg c,if_neg (by omega)]; omega
 have:=key n;rw[if_pos ha]at this;exact this
theorem xK {n:Nat}{h:SetB→Int}(hs:∀ S T:SetB,h (fun i=>S i||T i)+h (fun i=>S i&&T i)≤h S+h T){M r:Int}(hr:0≤r)(hM:∀ S:SetB,M≤h S+r):
  ∀ (k:Nat) (A:SetB),aG n A≤k→(∀ S:SetB,M≤aG n (fun i=>S i&&A i)+h S)→∃ B:SetB,(∀ i,i < n→B i=true→A i=true)∧aG n B≤r∧∀ S:SetB,M≤aG n (fun i=>S i&&B i)+h S
 | 0,A,hk,hA=>⟨A,fun _ _ q=>q,by omega,hA⟩
 | k+1,A,hk,hA=>by
  by_cases c:aG n A≤r
  ·exact⟨A,fun _ _ q=>q,c,hA⟩
  by_cases e:∃ a,a < n∧A a=true∧∀ S:SetB,M≤aG n (fun i=>S i&&(A i&&!decide (i=a)))+h S
  ·obtain⟨a,ha,hAa,q⟩:=e;have hc:=oG ha hAa (fun _=>true);have h1:aG n (fun i=>A i&&!decide (i=a))=aG n A-1:=hc;obtain⟨B,b1,b2,b3⟩:=xK hs hr hM k (fun i=>A i&&!decide (i=a)) (by omega) q;exact⟨B,fun i hi hb=>by have:=b1 i hi hb; rw[Bool.and_eq_true]at this; exact this.1,b2,b3⟩
  ·exfalso
   have tight:∀ a,a < n→A a=true→∃ S:SetB,S a=true∧aG n (fun i=>S i&&A i)+h S≤M:=fun a ha hAa=>by
    have:∃ S:SetB,¬ M≤aG n (fun i=>S i&&(A i&&!decide (i=a)))+h S:=Classical.byContradiction fun q=>e ⟨a,ha,hAa,fun S=>Classical.byContradiction fun q'=>q ⟨S,q'⟩⟩;obtain⟨S,hS⟩:=this;rw[oG ha hAa S]at hS;have:=hA S;cases hb:S a with
    | false=>rw[hb]at hS; exact absurd this (by have:bY false=0:=rfl; omega)
    | true=>rw[hb]at hS; exact⟨S,hb,by have:bY true=1:=rfl; omega⟩
   have join:∀ m,m≤n→(∀ a,a < m→A a=false)∨∃ T:SetB,(∀ a,a < m→A a=true→T a=true)∧aG n (fun i=>T i&&A i)+h T≤M:=by
    intro m
    induction m with
    | zero=>intro _; left; intro a ha; omega
    | succ m ih=>
     intro hm;cases ham:A m with
     | false=>
      rcases ih (by omega)with q | ⟨T,t1,t2⟩
      ·left; intro a ha;by_cases ea:a=m
       ·rw[ea]; exact ham
       ·exact q a (by omega)
      ·right;refine⟨T,fun a ha hAa=>?_,t2⟩;by_cases ea:a=m
       ·rw[ea,ham]at hAa; cases hAa
       ·exact t1 a (by omega) hAa
     | true=>
      obtain⟨S,s1,s2⟩:=tight m (by omega) ham;right;rcases ih (by omega)with q | ⟨T,t1,t2⟩
      ·refine⟨S,fun a ha hAa=>?_,s2⟩;by_cases ea:a=m
       ·rw[ea]; exact s1
       ·rw[q a (by omega)]at hAa; cases hAa
      ·refine⟨fun i=>S i||T i,fun a ha hAa=>?_,?_⟩
       ·by_cases ea:a=m
        ·show(S a||T a)=true; rw[ea,s1]; rfl
        ·show(S a||T a)=true; rw[t1 a (by omega) hAa,Bool.or_true]
       ·have h1:=hs S T;have h2:=oF n A S T;have h3:M≤aG n (fun i=>(S i&&T i)&&A i)+h (fun i=>S i&&T i):=hA (fun i=>S i&&T i);show aG n (fun i=>(S i||T i)&&A i)+h (fun i=>S i||T i)≤M;omega
   rcases join n (Nat.le_refl _)with q | ⟨T,t1,t2⟩
   ·have:aG n A≤aG n (fun _=>false):=gy fun i hi hA=>by rw[q i hi]at hA; cases hA
    have e0:aG n (fun _=>false)=0:=by
     unfold aG;generalize n=m
     induction m with
     | zero=>rfl
     | succ m ih=>rw[aC,ih]; rfl
    omega
   ·have h1:=hM T;have h2:aG n A≤aG n (fun i=>T i&&A i):=gy fun i hi hA=>by rw[t1 i hi hA,hA]; rfl
    omega
theorem qM {n:Nat}(t:Nat→Int)(A S:SetB)(hp:∀ i,i < n→A i=true→0 < t i):m5 n (redB t A) S=m5 n t S-aG n A+aG n (fun i=>S i&&A i):=by
 have:m5 n (redB t A) S+aG n A=m5 n t S+aG n (fun i=>S i&&A i):=kP n fun i hi=>by
  try dsimp only
  unfold redB;cases ha:A i with
  | false=>cases S i <;> rfl
  | true=>
   rw[decide_eq_true (hp i hi ha)];cases S i
   ·show t i-1+1=t i+0; omega
   ·rfl
 omega
theorem tT {n:Nat}:∀ (l:List (Int×SetB)) (t:Nat→Int) (M:Int),(∀ s∈l,0≤s.1)→(∀ i,i < n→0≤t i)→(∀ S:SetB,M≤m6 n l t S)→∃ u,LeftB n l t u∧M≤sumN n t-sumN n u
 | [],t,M,_,ht,hM=>⟨t,.nil t,by
  have:=hM fun _=>true;have e:m6 n [] t (fun _=>true)=0:=by
   unfold m6 m5 ctL;have:∀ m,sumN m (fun i=>cond true 0 (t i))=0:=fun m=>by induction m with
    | zero=>rfl
    | succ m ih=>rw[aC,ih]; rfl
   rw[this]; rfl
  omega⟩
 | s::l,t,M,hr,ht,hM=>by
  have hs1:=hr s (by simp);obtain⟨A,a1,a2,a3⟩:=xK (n:=n) (h:=m6 n l t) (AL n l t) (M:=M) (r:=s.1) hs1 (fun S=>by
   have:=hM S;unfold m6 ctL rZ at this;unfold m6;omega) (aG n fun i=>s.2 i&&decide (0 < t i)).toNat (fun i=>s.2 i&&decide (0 < t i)) (by have:=AI n fun i=>s.2 i&&decide (0 < t i); omega) (fun S=>by
   have h1:=hM fun i=>S i&&decide (0 < t i);have h2:m5 n t (fun i=>S i&&decide (0 < t i))=m5 n t S:=bD fun i hi=>by
    try dsimp only
    have:=ht i hi;by_cases c:0 < t i
    ·rw[decide_eq_true c,Bool.and_true]
    ·rw[decide_eq_false c,Bool.and_false,show t i=0 by omega]; cases S i <;> rfl
   have h3:ctL n (fun i=>S i&&decide (0 < t i)) l≤ctL n S l:=qL (fun i _ q=>by rw[Bool.and_eq_true]at q; exact q.1) l;have h4:aG n (fun i=>(S i&&decide (0 < t i))&&s.2 i)=aG n (fun i=>S i&&(s.2 i&&decide (0 < t i))):=bD fun i _=>by
    dsimp only
    cases S i <;> cases s.2 i <;> cases decide (0 < t i) <;> rfl
   unfold m6 ctL rZ at h1;unfold m6;simp only at h1;omega)
  have hpos:∀ i,i < n→A i=true→0 < t i:=fun i hi q=>by have:=a1 i hi q; rw[Bool.and_eq_true,decide_eq_true_eq]at this; exact this.2
  have hred:∀ S:SetB,m5 n (redB t A) S=m5 n t S-aG n A+aG n (fun i=>S i&&A i):=fun S=>qM t A S hpos;obtain⟨u,u1,u2⟩:=tT l (redB t A) (M-aG n A) (fun x hx=>hr x (List.mem_cons_of_mem _ hx)) (fun i hi=>by
   unfold redB;cases ha:A i with
   | false=>exact ht i hi
   | true=>rw[decide_eq_true (hpos i hi ha)]; have:=hpos i hi ha; show 0≤t i-1; omega) (fun S=>by
   have:=a3 S;have:=hred S;unfold m6 at *;omega)
  refine⟨u,.cons A ⟨fun i hi q=>by have:=a1 i hi q; rw[Bool.and_eq_true]at this; exact this.1,a2⟩ u1,?_⟩;have e:=hred fun _=>false;have e1:m5 n (redB t A) (fun _=>false)=sumN n (redB t A):=rfl;have e2:m5 n t (fun _=>false)=sumN n t:=rfl;have e3:aG n (fun i=>false&&A i)=0:=by
   unfold aG;generalize n=m
   induction m with
   | zero=>rfl
   | succ m ih=>rw[aC,ih]; rfl
  omega
theorem AM {n:Nat}{l:List (Int×SetB)}{t u:Nat→Int}(h:LeftB n l t u)(ht:∀ i,i < n→0≤t i)(hr:∀ s∈l,0≤s.1)(S:SetB):(∀ i,i < n→0≤u i)∧sumN n t-sumN n u≤m6 n l t S:=by
 induction h with
 | nil t=>
  refine⟨ht,?_⟩;have:0≤m5 n t S:=by
   have:=jX (f:=fun _=>0) (g:=fun i=>cond (S i) 0 (t i)) (n:=n) fun k hk=>by have:=ht k hk; cases S k <;> simp <;> omega
   have e:∀ n,sumN n (fun _=>0)=0:=fun n=>by induction n with
    | zero=>rfl
    | succ n ih=>rw[aC,ih]; rfl
   rw[e]at this;exact this
  unfold m6 ctL; omega
 | @cons s l t u A hA k ih=>
  have ht':∀ i,i < n→0≤redB t A i:=fun i hi=>by
   have:=ht i hi;unfold redB;by_cases c:0 < t i
   ·rw[decide_eq_true c,Bool.and_true]; cases A i
    ·exact this
    ·show 0≤t i-1; omega
   ·rw[decide_eq_false c,Bool.and_false]; exact this
  obtain⟨i1,i2⟩:=ih ht' fun x hx=>hr x (List.mem_cons_of_mem _ hx);refine⟨i1,?_⟩;have e:redB t A=redB t (fun i=>A i&&decide (0 < t i)):=funext fun i=>by unfold redB; dsimp only; cases A i <;> cases decide (0 < t i) <;> rfl
  have hc:=fun S=>qM (n:=n) t (fun i=>A i&&decide (0 < t i)) S fun i _ q=>by rw[Bool.and_eq_true,decide_eq_true_eq]at q; exact q.2
  have h1:=hc S;have h2:=hc fun _=>false;rw[← e]at h1 h2;have e1:m5 n (redB t A) (fun _=>false)=sumN n (redB t A):=rfl;have e2:m5 n t (fun _=>false)=sumN n t:=rfl;have e3:aG n (fun i=>false&&(A i&&decide (0 < t i)))=0:=by
   unfold aG;generalize n=m
   induction m with
   | zero=>rfl
   | succ m ih=>rw[aC,ih]; rfl
  have h3:aG n (fun i=>S i&&(A i&&decide (0 < t i)))≤aG n (fun i=>S i&&s.2 i):=gy fun i hi q=>by
   simp only[Bool.and_eq_true]at q ⊢;exact⟨q.1,hA.1 i hi q.2.1⟩
  have h4:aG n (fun i=>S i&&(A i&&decide (0 < t i)))≤aG n A:=gy fun i hi q=>by
   simp only[Bool.and_eq_true]at q;exact q.2.1
  have h5:=hA.2;have e4:m6 n (s::l) t S=m5 n t S+(min s.1 (aG n fun i=>S i&&s.2 i)+ctL n S l):=rfl;have e5:m6 n l (redB t A) S=m5 n (redB t A) S+ctL n S l:=rfl;omega
theorem AN (n:Nat)(hn:n≤4)(S:SetB):∃ x:Nat,x < 2^n∧∀ i,i < n→dE (x:Int) (i:Int)=S i:=by
 have key:∀ a b c d:Bool,∃ x:Nat,x < 16∧dE (x:Int) 0=a∧dE (x:Int) 1=b∧dE (x:Int) 2=c∧dE (x:Int) 3=d:=by
  intro a b c d;cases a <;> cases b <;> cases c <;> cases d
  ·exact⟨0,by decide +kernel⟩
  ·exact⟨8,by decide +kernel⟩
  ·exact⟨4,by decide +kernel⟩
  ·exact⟨12,by decide +kernel⟩
  ·exact⟨2,by decide +kernel⟩
  ·exact⟨10,by decide +kernel⟩
  ·exact⟨6,by decide +kernel⟩
  ·exact⟨14,by decide +kernel⟩
  ·exact⟨1,by decide +kernel⟩
  ·exact⟨9,by decide +kernel⟩
  ·exact⟨5,by decide +kernel⟩
  ·exact⟨13,by decide +kernel⟩
  ·exact⟨3,by decide +kernel⟩
  ·exact⟨11,by decide +kernel⟩
  ·exact⟨7,by decide +kernel⟩
  ·exact⟨15,by decide +kernel⟩
 have low:∀ n:Nat,n < 5→∀ x:Nat,x < 16→(∀ i:Nat,i < 4→n≤i→dE (x:Int) (i:Int)=false)→x < 2^n:=by decide +kernel
 obtain⟨x,h0,h1,h2,h3,h4⟩:=key (decide (0 < n)&&S 0) (decide (1 < n)&&S 1) (decide (2 < n)&&S 2) (decide (3 < n)&&S 3);have hx:∀ i:Nat,i < 4→dE (x:Int) (i:Int)=(decide (i < n)&&S i):=fun i hi=>by
  have:i=0∨i=1∨i=2∨i=3:=by omega
  rcases this with rfl | rfl | rfl | rfl
  ·exact h1
  ·exact h2
  ·exact h3
  ·exact h4
 refine⟨x,low n (by omega) x h0 fun i hi hni=>?_,fun i hi=>?_⟩
 ·rw[hx i hi,decide_eq_false (by omega),Bool.false_and]
 ·rw[hx i (by omega),decide_eq_true hi,Bool.true_and]
def hY (n:Nat)(f:Nat→Int×SetB):Nat→Nat→List (Int×SetB)
 | _,0=>[]
 | k,m+1=>f k::hY n f (k+1) m
theorem qN {n:Nat}{S:SetB}{f:Nat→Int×SetB}:∀ m k,sumN k (fun j=>rZ n S (f j))+ctL n S (hY n f k m)=sumN (k+m) (fun j=>rZ n S (f j))
 | 0,k=>by simp only[hY,ctL,Nat.add_zero]; omega
 | m+1,k=>by
  have:=qN (n:=n) (S:=S) (f:=f) m (k+1);rw[aC]at this;rw[show k+(m+1)=k+1+m by omega,← this];simp only[hY,ctL];omega
def FH (c:dk)(d:dF)(k:Nat):Int×SetB:=((ix c.1 (k:Int)).2.2,fun i=>lm c d i k)
def DT (c:dk)(d:dF):List (Int×SetB):=hY c.2.length (FH c d) 0 c.1.length
theorem tU {c:dk}{d:dF}{w:List Int}(hw:w.length=c.2.length)(x:Int):fT c d w x=m6 c.2.length (DT c d) (fun i=>ix w (i:Nat)) (fun i=>dE x (i:Nat)):=by
 have h:=qN (n:=c.2.length) (S:=fun i=>dE x (i:Nat)) (f:=FH c d) c.1.length 0;rw[show sumN 0 (fun j=>rZ c.2.length (fun i=>dE x (i:Nat)) (FH c d j))=0 from rfl,Nat.zero_add,Int.zero_add]at h;unfold fT m6 DT;rw[h,hw];rfl
theorem vh {n:Nat}{t:Nat→Int}{S T:SetB}(h:∀ i,i < n→S i=T i):∀ l,m6 n l t S=m6 n l t T:=fun l=>by
 have e1:m5 n t S=m5 n t T:=bD fun i hi=>by first | rw[h i hi] | (dsimp only; rw[h i hi])
 have e2:ctL n S l=ctL n T l:=by
  induction l with
  | nil=>rfl
  | cons s l ih=>
   have:rZ n S s=rZ n T s:=by
    have:aG n (fun i=>S i&&s.2 i)=aG n (fun i=>T i&&s.2 i):=bD fun i hi=>by first | rw[h i hi] | (dsimp only; rw[h i hi])
    unfold rZ; rw[this]
   simp only[ctL,this,ih]
 unfold m6; rw[e1,e2]
theorem qO {n:Nat}{f:Nat→Int×SetB}{s:Int×SetB}:∀ m k,s∈hY n f k m→∃ j,k≤j∧j < k+m∧s=f j
 | 0,k,h=>by cases h
 | m+1,k,h=>by
  rcases List.mem_cons.1 h with rfl | h
  ·exact⟨k,by omega,by omega,rfl⟩
  ·obtain⟨j,h1,h2,h3⟩:=qO m (k+1) h;exact⟨j,by omega,by omega,h3⟩
theorem sa {c:dk}{d:dF}{w:List Int}(g:Good c w)(hw:w.length=c.2.length)(hn:c.2.length≤4):
  (∃ u,LeftB c.2.length (DT c d) (fun i=>ix w (i:Nat)) u∧gA c d w≤sumN c.2.length (fun i=>ix w (i:Nat))-sumN c.2.length u)
  ∧ ∀ u,LeftB c.2.length (DT c d) (fun i=>ix w (i:Nat)) u→sumN c.2.length (fun i=>ix w (i:Nat))-sumN c.2.length u≤gA c d w:=by
 have ht:∀ i,i < c.2.length→0≤ix w ((i:Nat):Int):=fun i hi=>(g.t i (by omega)).1;have hr:∀ s∈DT c d,0≤s.1:=fun s hs=>by
  obtain⟨j,_,h2,rfl⟩:=qO _ _ hs;exact(g.r j (by omega)).1
 refine⟨tT (DT c d) _ (gA c d w) hr ht fun S=>?_,fun u hu=>?_⟩
 ·obtain⟨x,h1,h2⟩:=AN c.2.length hn S;have:=yl (c:=c) (d:=d) (w:=w) (k:=x) h1;rw[tU hw]at this;rw[vh (T:=fun i=>dE (x:Int) (i:Nat)) fun i hi=>(h2 i hi).symm];exact this
 ·obtain⟨k,_,h2⟩:=ym (c:=c) (d:=d) (w:=w);rw[h2,tU hw];exact(AM hu ht hr _).2
abbrev Mat:=List (List Int)
def qP (M:Mat)(k i:Nat):Int:=ix (ix M (k:Int)) (i:Int)
theorem pB {α:Type}[Inhabited α](n k:Nat)(x:α)(h:k < n):ix (List.replicate n x) (k:Int)=x:=by
 rw[cC,qB (by simpa using h),List.getElem_replicate]
theorem FI (c:dk)(h1:c.1.length≤1000)(h2:c.2.length≤1000):P49 c=some (List.replicate c.1.length (List.replicate c.2.length 0)):=by
 have e:tE (0,c,[])=some (c,List.replicate c.1.length (List.replicate c.2.length 0)):=by
  refine aJ (step:=fun x=>CU x.1 x.2.1 x.2.2) c.1.length (fun k=>((k:Int),c,List.replicate k (List.replicate c.2.length 0))) _ (fun k hk=>?_) ?_ (by omega)
  ·show ot (k:Int) c (List.replicate k (List.replicate c.2.length 0))=_;unfold ot;rw[ay hk,cond_true,al (decide_eq_true (by omega)),al (decide_eq_true (by omega)),al (cM (by simp; omega)),al (an (by omega)),← List.replicate_append_replicate];rfl
  ·show ot (c.1.length:Int) c _=_;unfold ot;rw[aE,cond_false]
 show Ll tE c=_;unfold Ll;rw[e];rfl
section
variable {c:dk} {l:List gF}
def cw (c:dk)(s:Int)(k0 i:Nat):Bool:=decide ((aI c i).1=s)&&b8 (aI c i) (dU c k0)
def jm (n:Nat)(f:Nat→Bool):Bool:=!(bK n fun i=>!f i)
theorem qQ {n:Nat}{f:Nat→Bool}:jm n f=true↔∃ i,i < n∧f i=true:=by
 unfold jm;rw[Bool.not_eq_true',← Bool.not_eq_true,bp];constructor
 ·intro h;refine Classical.byContradiction fun q=>h fun k hk=>?_;cases hf:f k with
  | false=>rfl
  | true=>exact absurd ⟨k,hk,hf⟩ q
 ·rintro⟨i,hi,hf⟩ h;have:=h i hi;rw[hf]at this; cases this
theorem m8 {m:Nat}(hs:aH l m (be l m).2.2 (be l m).2.1=true)(s k:Int):aH l (m+1) s k=aH l m s k:=by
 rw[cZ];cases hd:(decide ((be l m).2.2=s)&&decide ((be l m).2.1=k))with
 | false=>simp
 | true=>
  simp only[Bool.and_eq_true,decide_eq_true_eq]at hd;rw[← hd.1,← hd.2,hs]; rfl
theorem AO {m s0 k0:Nat}(hs0:(be l m).2.2=(s0:Int))(hk0:(be l m).2.1=(k0:Int))(hk:k0 < c.1.length)(hn:aH l m s0 k0=false)(i:Nat):
  bV c l (m+1) i=bV c l m i+bY (cw c s0 k0 i):=by
 have e:∀ s k:Int,aH l (m+1) s k=(aH l m s k||(decide ((s0:Int)=s)&&decide ((k0:Int)=k))):=fun s k=>by rw[cZ,hs0,hk0]
 have h1:=dA (f:=fun k=>bY (b8 (aI c i) (dU c k)&&aH l m (aI c i).1 k)) (g:=fun k=>bY (b8 (aI c i) (dU c k)&&aH l (m+1) (aI c i).1 k)) (j:=k0) (d:=bY (cw c s0 k0 i))
  (fun k hk=>by
   have:decide ((k0:Int)=(k:Int))=false:=by simp; omega
   simp only[e,this,Bool.and_false,Bool.or_false])
  (by
   unfold cw;by_cases hi2:(aI c i).1=s0
   ·simp only[e,hi2,hn]
    simp[bY]
   ·have:decide ((s0:Int)=(aI c i).1)=false:=by simp; exact fun h=>hi2 h.symm
    simp[e,this,hi2,bY])
  c.1.length
 rw[if_pos hk]at h1;exact h1
theorem AP {m s0 k0:Nat}(hs0:(be l m).2.2=(s0:Int))(hk0:(be l m).2.1=(k0:Int))(hs:s0 < 100)(hk:k0 < c.1.length)(hn:aH l m s0 k0=false):fV c l (m+1)=fV c l m+1:=by
 have e:∀ s k:Int,aH l (m+1) s k=(aH l m s k||(decide ((s0:Int)=s)&&decide ((k0:Int)=k))):=fun s k=>by rw[cZ,hs0,hk0]
 have h1:=dA (f:=fun s=>sumN c.1.length fun k=>bY (aH l m (s:Nat) k)) (g:=fun s=>sumN c.1.length fun k=>bY (aH l (m+1) (s:Nat) k)) (j:=s0) (d:=1)
  (fun s hs=>by
   have:decide ((s0:Int)=(s:Int))=false:=by simp; omega
   simp only[e,this,Bool.false_and,Bool.or_false])
  (by
   have h2:=dA (f:=fun k=>bY (aH l m (s0:Nat) k)) (g:=fun k=>bY (aH l (m+1) (s0:Nat) k)) (j:=k0) (d:=1)
    (fun k hk=>by
     have:decide ((k0:Int)=(k:Int))=false:=by simp; omega
     simp only[e,this,Bool.and_false,Bool.or_false])
    (by simp[e,hn,bY])
    c.1.length
   rw[if_pos hk]at h2;exact h2)
  100
 rw[if_pos hs]at h1;exact h1
theorem AQ (hv:ba c=true)(s0 k0:Nat):sumN c.2.length (fun i=>bY (cw c s0 k0 i))=bY (jm c.2.length (cw c s0 k0)):=by
 cases ha:jm c.2.length (cw c s0 k0)with
 | false=>
  have h0:∀ i,i < c.2.length→cw c s0 k0 i=false:=fun i hi=>by
   cases hh:cw c s0 k0 i with
   | false=>rfl
   | true=>rw[qQ.2 ⟨i,hi,hh⟩]at ha; cases ha
  have:sumN c.2.length (fun i=>bY (cw c s0 k0 i))=sumN c.2.length (fun _=>0):=bD fun i hi=>by rw[h0 i hi]; rfl
  rw[this];generalize c.2.length=n
  induction n with
  | zero=>rfl
  | succ n ih=>rw[aC,ih]; rfl
 | true=>
  obtain⟨j,hj,hh⟩:=qQ.1 ha;have z:∀ n,sumN n (fun _=>(0:Int))=0:=fun n=>by induction n with
   | zero=>rfl
   | succ n ih=>rw[aC,ih]; rfl
  have h1:=dA (f:=fun _=>0) (g:=fun i=>bY (decide (i=j))) (j:=j) (d:=1) (fun k hk=>by simp[hk,bY]) (by simp[bY]) c.2.length;rw[if_pos hj,z]at h1;have:sumN c.2.length (fun i=>bY (cw c s0 k0 i))=sumN c.2.length (fun i=>bY (decide (i=j))):=bD fun i hi=>by
   by_cases e:i=j
   ·rw[e,hh]; simp
   ·have:cw c s0 k0 i=false:=by
     cases hq:cw c s0 k0 i with
     | false=>rfl
     | true=>
      unfold cw at hq hh;simp only[Bool.and_eq_true,decide_eq_true_eq]at hq hh;exact absurd (qV hv hi hj (by rw[hq.1,hh.1])) e
    rw[this]; simp[e]
  rw[this,h1];rfl
structure ShI (c:dk) (l:List gF) (m:Nat) (no:Int) (M:Mat):Prop where
 len:M.length=c.1.length
 row:∀ k:Nat,k < c.1.length→(ix M (k:Int)).length=c.2.length
 en:∀ i k:Nat,i < c.2.length→k < c.1.length→qP M k i=bY (b8 (aI c i) (dU c k)&&aH l m (aI c i).1 k)
 nn:no=fV c l m-sumN c.2.length (fun i=>bV c l m i)
theorem xL (no:Int)(m:Nat)(hm:m < l.length)(hl:l.length≤1000)(M:Mat):L46_1 (l,no,(m:Int),false,0,c,M)=some (l,no,(m:Int),aH l m (be l m).2.2 (be l m).2.1,c,M):=by
 have hg:∀ k:Nat,ix l (k:Int)=be l k:=fun k=>bk _ _;refine aJ (step:=fun x=>C2 x.1 x.2.1 x.2.2.1 x.2.2.2.1 x.2.2.2.2.1 x.2.2.2.2.2.1 x.2.2.2.2.2.2) m (fun k=>(l,no,(m:Int),aH l k (be l m).2.2 (be l m).2.1,(k:Int),c,M)) _ (fun k hk=>?_) ?_ (by omega)
 ·show ou P49 P55 l no (m:Int) (aH l k (be l m).2.2 (be l m).2.1) (k:Int) c M=_;unfold ou;rw[ay hk,cond_true,cZ];cases hs:aH l k (be l m).2.2 (be l m).2.1 with
  | true=>rw[cond_true,al (an (by omega))]; rfl
  | false=>
   rw[cond_false,al (ak (by omega)),al (ak hm),hg,hg,Bool.false_or];by_cases e:(be l k).2.1=(be l m).2.1
   ·rw[decide_eq_true e,cond_true,al (ak (by omega)),al (ak hm),al (an (by omega)),Bool.and_true]; rfl
   ·rw[decide_eq_false e,cond_false,al (an (by omega)),Bool.and_false]; rfl
 ·show ou P49 P55 l no (m:Int) _ (m:Int) c M=_;unfold ou;rw[aE,cond_false]
theorem AR {M:Mat}{k0 i0:Nat}(hk:k0 < M.length)(hi:i0 < (ix M (k0:Int)).length)(v:Int)(k i:Nat):
  qP (List.set M k0 (List.set (ix M (k0:Int)) i0 v)) k i=if k=k0∧i=i0 then v else qP M k i:=by
 unfold qP;simp only[cC]at hi ⊢;rw[pw _ _ _ _ hk];by_cases e:k=k0
 ·subst e;rw[if_pos rfl,pw _ _ _ _ hi];by_cases e2:i=i0
  ·rw[if_pos e2.symm,if_pos ⟨rfl,e2⟩]
  ·rw[if_neg (fun q=>e2 q.symm),if_neg (fun q=>e2 q.2)]
 ·rw[if_neg (fun q=>e q.symm),if_neg (fun q=>e q.1)]
theorem xM (no:Int){m s0 k0:Nat}(hm:m < l.length)(hs0:(be l m).2.2=(s0:Int))(hk0:(be l m).2.1=(k0:Int))(hk:k0 < c.1.length)(hc:c.2.length≤1000){M:Mat}(hM:M.length=c.1.length)(hr:∀ k:Nat,k < c.1.length→(ix M (k:Int)).length=c.2.length):
  ∃ M',L46_2 (l,no,(m:Int),false,0,c,M)=some (l,no,(m:Int),jm c.2.length (cw c s0 k0),c,M')∧M'.length=c.1.length∧(∀ k:Nat,k < c.1.length→(ix M' (k:Int)).length=c.2.length)
   ∧ ∀ i k:Nat,i < c.2.length→k < c.1.length→qP M' k i=if k=k0∧cw c s0 k0 i=true then 1 else qP M k i:=by
 have hg:ix l (m:Int)=be l m:=bk _ _;obtain⟨r,e,M',he,h1,h2,h3⟩:=eb (step:=fun x=>C4 x.1 x.2.1 x.2.2.1 x.2.2.2.1 x.2.2.2.2.1 x.2.2.2.2.2.1 x.2.2.2.2.2.2) c.2.length
  (fun k x=>∃ M',x=(l,no,(m:Int),jm k (cw c s0 k0),(k:Int),c,M')∧M'.length=c.1.length∧(∀ k:Nat,k < c.1.length→(ix M' (k:Int)).length=c.2.length)
   ∧ ∀ i j:Nat,i < c.2.length→j < c.1.length→qP M' j i=if j=k0∧i < k∧cw c s0 k0 i=true then 1 else qP M j i)
  (fun r=>∃ M',r=(l,no,(m:Int),jm c.2.length (cw c s0 k0),c,M')∧M'.length=c.1.length∧(∀ k:Nat,k < c.1.length→(ix M' (k:Int)).length=c.2.length)
   ∧ ∀ i j:Nat,i < c.2.length→j < c.1.length→qP M' j i=if j=k0∧cw c s0 k0 i=true then 1 else qP M j i)
  (l,no,(m:Int),false,0,c,M) ⟨M,rfl,hM,hr,fun i j _ _=>by rw[if_neg (by omega)]⟩
  (fun k x hkn ⟨M1,hx,g1,g2,g3⟩=>by
   subst hx;have hp:ix c.2 (k:Int)=aI c k:=bk _ _;have hsw:ix c.1 (k0:Int)=dU c k0:=bk _ _;have es:jm (k+1) (cw c s0 k0)=(jm k (cw c s0 k0)||cw c s0 k0 k):=by
    unfold jm;simp only[bK];cases(bK k fun i=>!cw c s0 k0 i) <;> cases cw c s0 k0 k <;> rfl
   have no_hit:cw c s0 k0 k=false→∃ M',(l,no,(m:Int),jm k (cw c s0 k0),(k:Int)+1,c,M1)=(l,no,(m:Int),jm (k+1) (cw c s0 k0),((k+1:Nat):Int),c,M')∧M'.length=c.1.length∧(∀ k:Nat,k < c.1.length→(ix M' (k:Int)).length=c.2.length)
     ∧ ∀ i j:Nat,i < c.2.length→j < c.1.length→qP M' j i=if j=k0∧i < k+1∧cw c s0 k0 i=true then 1 else qP M j i:=fun hh=>by
    refine⟨M1,by rw[es,hh,Bool.or_false]; rfl,g1,g2,fun i j hi hj=>?_⟩;rw[g3 i j hi hj];by_cases q:i=k
    ·subst q; rw[if_neg (by omega),if_neg (by rw[hh]; simp)]
    ·by_cases q2:j=k0∧i < k∧cw c s0 k0 i=true
     ·rw[if_pos q2,if_pos ⟨q2.1,by omega,q2.2.2⟩]
     ·rw[if_neg q2,if_neg fun q3=>q2 ⟨q3.1,by omega,q3.2.2⟩]
   show ∃ y,q46_2 P49 P55 l no (m:Int) (jm k (cw c s0 k0)) (k:Int) c M1=_∧_;unfold q46_2;rw[ay hkn,cond_true,al (ak hkn),al (ak hm),hg,hp,hs0];by_cases e1:(aI c k).1=(s0:Int)
   ·rw[decide_eq_true e1,cond_true,al (ak hkn),al (ak hm),hk0,al (ak hk),ya,af,hsw];cases hf:b8 (aI c k) (dU c k0)with
    | true=>
     have hh:cw c s0 k0 k=true:=by unfold cw; rw[hf,decide_eq_true e1]; rfl
     rw[cond_true,al (ak hm),al (ak (by omega)),al (ak (by rw[g2 k0 hk]; exact hkn)),al (an (by omega))];refine⟨_,rfl,List.set M1 k0 (List.set (ix M1 (k0:Int)) k 1),?_,?_,?_,?_⟩
     ·rw[es,hh,Bool.or_true]; rfl
     ·rw[List.length_set,g1]
     ·intro j hj;rw[cC,pw _ _ _ _ (by omega)];by_cases q:k0=j
      ·rw[if_pos q,List.length_set,g2 k0 hk]
      ·rw[if_neg q,← cC,g2 j hj]
     ·intro i j hi hj;rw[AR (by omega) (by rw[g2 k0 hk]; exact hkn),g3 i j hi hj];by_cases q:j=k0∧i=k
      ·rw[if_pos q,if_pos ⟨q.1,by omega,by rw[q.2]; exact hh⟩]
      ·rw[if_neg q];by_cases q2:j=k0∧i < k∧cw c s0 k0 i=true
       ·rw[if_pos q2,if_pos ⟨q2.1,by omega,q2.2.2⟩]
       ·rw[if_neg q2,if_neg fun q3=>q2 ⟨q3.1,by have:=q3.2.1; have:i≠k:=fun h=>q ⟨q3.1,h⟩; omega,q3.2.2⟩]
    | false=>
     rw[cond_false,al (an (by omega))];exact⟨_,rfl,no_hit (by unfold cw; rw[hf,Bool.and_false])⟩
   ·rw[decide_eq_false e1,cond_false,al (an (by omega))];exact⟨_,rfl,no_hit (by unfold cw; rw[decide_eq_false e1,Bool.false_and])⟩)
  (fun x ⟨M1,hx,g1,g2,g3⟩=>by
   subst hx;show ∃ r,q46_2 P49 P55 l no (m:Int) _ (c.2.length:Int) c M1=_∧_;unfold q46_2;rw[aE,cond_false];refine⟨_,rfl,M1,rfl,g1,g2,fun i j hi hj=>?_⟩;rw[g3 i j hi hj];by_cases q:j=k0∧cw c s0 k0 i=true
   ·rw[if_pos q,if_pos ⟨q.1,hi,q.2⟩]
   ·rw[if_neg q,if_neg fun q3=>q ⟨q3.1,q3.2.2⟩]) (by omega)
 subst he;exact⟨M',e,h1,h2,h3⟩
theorem sc (m i:Nat):0≤bV c l m i∧bV c l m i≤c.1.length:=t7 m i
theorem xN (hv:ba c=true)(hr:RepOk c.1.length l):∃ no M,P46 (c,l)=some (no,M)∧ShI c l l.length no M:=by
 have hc:=cF hv;have hl30:=hr.len;have z:∀ n,sumN n (fun _=>(0:Int))=0:=fun n=>by induction n with
  | zero=>rfl
  | succ n ih=>rw[aC,ih]; rfl
 have sb:∀ k i,aH l 0 k i=false:=fun _ _=>rfl;obtain⟨r,e,no,M,he,hI⟩:=eb (step:=fun x=>C6 x.1 x.2.1 x.2.2.1 x.2.2.2.1 x.2.2.2.2) l.length
  (fun k x=>∃ no M,x=(l,no,(k:Int),c,M)∧(0≤no∧no≤k)∧ShI c l k no M)
  (fun r=>∃ no M,r=(no,c,M)∧ShI c l l.length no M)
  (l,0,0,c,List.replicate c.1.length (List.replicate c.2.length 0)) ⟨0,_,rfl,⟨by omega,by omega⟩,by simp,fun k hk=>by rw[pB _ _ _ hk]; simp,fun i k hi hk=>by
   unfold qP;rw[pB _ _ _ hk,pB _ _ _ hi,sb,Bool.and_false]; rfl,by
   have e1:fV c l 0=0:=by
    unfold fV;simp only[sb];have:(fun s:Nat=>sumN c.1.length fun k=>bY false)=fun _=>0:=funext fun s=>z _;rw[this,z]
   have e2:sumN c.2.length (fun i=>bV c l 0 i)=0:=by
    have:(fun i=>bV c l 0 i)=fun _=>0:=funext fun i=>by
     unfold bV;simp only[sb,Bool.and_false];exact z _
    rw[this,z]
   rw[e1,e2]; rfl⟩
  (fun m x hm ⟨no,M,hx,hno,hI⟩=>by
   subst hx;obtain⟨s0,k0,hs0,hk0,hs,hk⟩:=ua (hr.ok _ (jY hm));show ∃ y,q46_0 P49 P55 L46_1 L46_2 l no (m:Int) c M=_∧_;unfold q46_0;rw[ay hm,cond_true,xL no m hm (by omega) M,af]
   dsimp only
   cases hseen:aH l m (be l m).2.2 (be l m).2.1 with
   | true=>
    rw[cond_true,al (an (by omega))];refine⟨_,rfl,no,M,rfl,⟨by omega,by omega⟩,hI.len,hI.row,fun i k hi hk=>by rw[m8 hseen]; exact hI.en i k hi hk,?_⟩;have e1:∀ i,bV c l (m+1) i=bV c l m i:=fun i=>by simp only[bV,m8 hseen]
    have e2:fV c l (m+1)=fV c l m:=by simp only[fV,m8 hseen]
    rw[e2,hI.nn];simp only[e1]
   | false=>
    have hn:aH l m (s0:Int) (k0:Int)=false:=by rw[← hs0,← hk0]; exact hseen
    obtain⟨M',h1,h2,h3,h4⟩:=xM (l:=l) no hm hs0 hk0 hk (by omega) hI.len hI.row;rw[cond_false,h1,af]
    dsimp only
    have hen:∀ i k:Nat,i < c.2.length→k < c.1.length→qP M' k i=bY (b8 (aI c i) (dU c k)&&aH l (m+1) (aI c i).1 k):=fun i k hi hk'=>by
     rw[h4 i k hi hk',hI.en i k hi hk',cZ,hs0,hk0];unfold cw;by_cases q:k=k0
     ·subst q;by_cases q2:(aI c i).1=(s0:Int)
      ·rw[q2,decide_eq_true rfl,decide_eq_true rfl,Bool.true_and,Bool.true_and,Bool.or_true,Bool.and_true];cases b8 (aI c i) (dU c k)with
       | true=>rw[if_pos ⟨rfl,rfl⟩]; rfl
       | false=>rw[if_neg (by simp),Bool.false_and]
      ·rw[decide_eq_false q2,if_neg (by simp),decide_eq_false (fun h=>q2 h.symm),Bool.false_and,Bool.or_false]
     ·rw[if_neg (fun h=>q h.1),decide_eq_false (show ¬ ((k0:Nat):Int)=(k:Int)by omega),Bool.and_false,Bool.or_false]
    have hsum:sumN c.2.length (fun i=>bV c l (m+1) i)=sumN c.2.length (fun i=>bV c l m i)+bY (jm c.2.length (cw c s0 k0)):=by
     rw[← AQ hv,← eR];exact bD fun i hi=>AO hs0 hk0 hk hn i
    have hdis:=AP (c:=c) (l:=l) hs0 hk0 hs hk hn;have hnn:=hI.nn;cases ha:jm c.2.length (cw c s0 k0)with
    | false=>
     rw[ha]at hsum;have:bY false=0:=rfl;rw[Bool.not_false,cond_true,al (cg (by omega) (by omega)),al (an (by omega))];exact⟨_,rfl,no+1,M',rfl,⟨by omega,by omega⟩,h2,h3,hen,by omega⟩
    | true=>
     rw[ha]at hsum;have:bY true=1:=rfl;rw[Bool.not_true,cond_false,al (an (by omega))];exact⟨_,rfl,no,M',rfl,⟨by omega,by omega⟩,h2,h3,hen,by omega⟩)
  (fun x ⟨no,M,hx,hno,hI⟩=>by
   subst hx;show ∃ r,q46_0 P49 P55 L46_1 L46_2 l no (l.length:Int) c M=_∧_;unfold q46_0;rw[aE,cond_false];exact⟨_,rfl,no,M,rfl,hI⟩) (by omega)
 subst he;refine⟨no,M,?_,hI⟩;show Lm P49 P55 tF c l=_;unfold Lm;rw[FI c (by omega) (by omega),af,show tF (l,0,0,c,List.replicate c.1.length (List.replicate c.2.length 0))=_ from e];rfl
def fR (c:dk)(l:List gF):Nat→List Int
 | 0=>[]
 | k+1=>fR c l k++[cp c l l.length k]
theorem dQ:∀ k,(fR c l k).length=k
 | 0=>rfl
 | k+1=>by rw[fR,List.length_append,dQ k]; rfl
theorem m9:∀ k i:Nat,i < k→ix (fR c l k) (i:Int)=cp c l l.length i
 | k+1,i,h=>by
  rw[cC,fR,uV,dQ];by_cases e:i < k
  ·rw[if_pos e,← cC,m9 k i e]
  ·rw[if_neg e,show i=k by omega,Nat.sub_self]; rfl
theorem xO (hv:ba c=true)(hr:RepOk c.1.length l):pF (c,l)=some (dB c l l.length,fR c l c.2.length):=by
 have hc:=cF hv;obtain⟨no,M,e46,hI⟩:=xN hv hr;have hno:no=fV c l l.length-sumN c.2.length (fun i=>bV c l l.length i):=hI.nn;have hsb:∀ k,k≤c.2.length→0≤sumN k (fun i=>bV c l l.length i)∧sumN k (fun i=>bV c l l.length i)≤8*k:=fun k hk=>by
  have:=bR (f:=fun i=>bV c l l.length i) (a:=0) (b:=8) (n:=k) fun i hi=>by have:=sc (c:=c) (l:=l) l.length i; omega
  omega
 have hdb:=t8 (c:=c) (l:=l) l.length;have hxb:∀ k,k≤c.2.length→0≤sumN k (fun i=>max 0 (bV c l l.length i-(aI c i).2.1))∧sumN k (fun i=>max 0 (bV c l l.length i-(aI c i).2.1))≤8*k:=fun k hk=>by
  have:=bR (f:=fun i=>max 0 (bV c l l.length i-(aI c i).2.1)) (a:=0) (b:=8) (n:=k) fun i hi=>by
   have:=sc (c:=c) (l:=l) l.length i;have:=b9 hv (show i < c.2.length by omega);omega
  omega
 have inner:∀ (no':Int) (i:Nat) (o:List Int),i < c.2.length→qI (no',(i:Int),(aI c i).2.1,0,c,M,o)=some (no',(i:Int),(aI c i).2.1-bV c l l.length i,c,M,o):=fun no' i o hi=>by
  have ht:=b9 hv hi;have key:=aJ (step:=fun x=>Dc x.1 x.2.1 x.2.2.1 x.2.2.2.1 x.2.2.2.2.1 x.2.2.2.2.2.1 x.2.2.2.2.2.2) c.1.length (fun k=>(no',(i:Int),(aI c i).2.1-sumN k (fun k=>bY (b8 (aI c i) (dU c k)&&aH l l.length (aI c i).1 k)),(k:Int),c,M,o)) (no',(i:Int),(aI c i).2.1-bV c l l.length i,c,M,o)
   (fun k hk=>by
    show ov P46 no' (i:Int) ((aI c i).2.1-sumN k (fun k=>bY (b8 (aI c i) (dU c k)&&aH l l.length (aI c i).1 k))) (k:Int) c M o=_;unfold ov;have hb:=bR (f:=fun k=>bY (b8 (aI c i) (dU c k)&&aH l l.length (aI c i).1 k)) (a:=0) (b:=1) (n:=k) fun k _=>fq _;have e1:ix (ix M (k:Int)) (i:Int)=bY (b8 (aI c i) (dU c k)&&aH l l.length (aI c i).1 k):=hI.en i k hi hk;have hb1:=fq (b8 (aI c i) (dU c k)&&aH l l.length (aI c i).1 k);have hlM:=hI.len;rw[show decide ((k:Int) < (↑(List.length M):Int))=true from ay (by omega),cond_true,al (ak (by omega)),al (ak (by rw[hI.row k hk]; exact hi)),e1,al (cg (by omega) (by omega)),al (an (by omega)),aC,Int.sub_sub];rfl)
   (by
    show ov P46 no' (i:Int) _ (c.1.length:Int) c M o=_;unfold ov;have hlM:=hI.len;rw[show decide ((c.1.length:Int) < (↑(List.length M):Int))=false from decide_eq_false (by omega),cond_false];rfl)
   (by omega)
  have e0:(aI c i).2.1-sumN 0 (fun k=>bY (b8 (aI c i) (dU c k)&&aH l l.length (aI c i).1 k))=(aI c i).2.1:=by show(aI c i).2.1-0=_; omega
  rw[show((no',(i:Int),(aI c i).2.1,0,c,M,o):Int×Int×Int×Int×dk×Mat×List Int)=(no',(i:Int),(aI c i).2.1-sumN 0 (fun k=>bY (b8 (aI c i) (dU c k)&&aH l l.length (aI c i).1 k)),((0:Nat):Int),c,M,o)by rw[e0]; rfl];exact key
 have outer:=aJ (step:=fun x=>De x.1 x.2.1 x.2.2.1 x.2.2.2.1 x.2.2.2.2) c.2.length (fun k=>(no+sumN k (fun i=>max 0 (bV c l l.length i-(aI c i).2.1)),(k:Int),c,M,fR c l k)) (dB c l l.length,c,M,fR c l c.2.length)
  (fun k hk=>by
   show ow P46 qI (no+sumN k (fun i=>max 0 (bV c l l.length i-(aI c i).2.1))) (k:Int) c M (fR c l k)=_;unfold ow;have hp:ix c.2 (k:Int)=aI c k:=bk _ _;have hb:=hxb k (by omega);have hb':=hxb (k+1) (by omega);have hs:=hsb c.2.length (Nat.le_refl _);have hcn:=sc (c:=c) (l:=l) l.length k;have ht:=b9 hv hk;rw[aC]at hb';rw[ay hk,cond_true,al (ak hk),hp,inner _ k _ hk,af]
   dsimp only
   rw[al (cM (by rw[dQ]; simp; omega)),al (cg (by omega) (by omega)),al (cg (by omega) (by omega)),al (an (by omega)),aC];have e1:max 0 (0-((aI c k).2.1-bV c l l.length k))=max 0 (bV c l l.length k-(aI c k).2.1):=by omega
   rw[e1,Int.add_assoc];rfl)
  (by
   show ow P46 qI _ (c.2.length:Int) c M _=_;unfold ow;rw[aE,cond_false];have e2:no+sumN c.2.length (fun i=>max 0 (bV c l l.length i-(aI c i).2.1))=dB c l l.length:=by
    have e3:=eR (fun i=>(aI c i).2.1-cp c l l.length i) (fun i=>max 0 (bV c l l.length i-(aI c i).2.1)) c.2.length;have e4:sumN c.2.length (fun i=>((aI c i).2.1-cp c l l.length i)+max 0 (bV c l l.length i-(aI c i).2.1))=sumN c.2.length (fun i=>bV c l l.length i):=bD fun i hi=>by
     show _=bV c l l.length i;unfold cp;omega
    rw[e4]at e3;unfold dB ia;omega
   rw[e2])
  (by omega)
 show Ln P46 tG c l=_;unfold Ln;have e0:no+sumN 0 (fun i=>max 0 (bV c l l.length i-(aI c i).2.1))=no:=Int.add_zero no;rw[e46,af]
 dsimp only
 rw[show((no,(0:Int),c,M,([]:List Int)):Int×Int×dk×Mat×List Int)=(no+sumN 0 (fun i=>max 0 (bV c l l.length i-(aI c i).2.1)),((0:Nat):Int),c,M,fR c l 0)by rw[e0]; rfl,
  show tG (no+sumN 0 (fun i=>max 0 (bV c l l.length i-(aI c i).2.1)),((0:Nat):Int),c,M,fR c l 0)=_ from outer]
 rfl
end
def RowP (n:Nat)(F:Nat→Bool)(from':Nat)(room:Int)(x:List Int):Prop:=x.Pairwise (· < ·)∧(∀ y∈x,(from':Int)≤y∧y < n∧F y.toNat=true)∧(x.length:Int)≤max 0 room
theorem na (n:Nat)(F:Nat→Bool)(a:Nat)(room:Int):RowP n F a room []:=⟨.nil,fun y h=>(by cases h),by simp; omega⟩
theorem oH {n:Nat}{F:Nat→Bool}{a:Nat}{room:Int}{i:Nat}{r:List Int}(hr:0 < room)(ha:a≤i)(hi:i < n)(hF:F i=true):RowP n F (i+1) (room-1) r↔RowP n F a room ((i:Int)::r):=by
 unfold RowP;rw[List.pairwise_cons,List.length_cons];constructor
 ·rintro⟨h1,h2,h3⟩;refine⟨⟨fun y hy=>by have:=(h2 y hy).1; omega,h1⟩,fun y hy=>?_,by omega⟩;rcases List.mem_cons.1 hy with rfl | hy
  ·exact⟨by omega,by omega,by rw[Int.toNat_natCast]; exact hF⟩
  ·have:=h2 y hy; exact⟨by omega,this.2.1,this.2.2⟩
 ·rintro⟨⟨h0,h1⟩,h2,h3⟩;exact⟨h1,fun y hy=>by have:=h0 y hy; have h4:=h2 y (List.mem_cons_of_mem _ hy); exact⟨by omega,h4.2⟩,by omega⟩
theorem xP (F:dk×Int×Int×Int×Int×Mat→Option (Mat×Mat))(k:Nat)(room:Int)(i:Nat)(M:Mat)(c:dk)(out rest:Mat)(h1:out.length+rest.length≤1000)(h2:∀ r∈rest,r.length≤1000):
  L60v1_1 F ((k:Int),room,(k:Int),(i:Int),0,M,c,out,rest)=some ((k:Int),room,(k:Int),(i:Int),M,c,rest,out++rest.map fun r=>(i:Int)::r):=by
 have key:=aJ (step:=fun x=>tM F x.1 x.2.1 x.2.2.1 x.2.2.2.1 x.2.2.2.2.1 x.2.2.2.2.2.1 x.2.2.2.2.2.2.1 x.2.2.2.2.2.2.2.1 x.2.2.2.2.2.2.2.2) rest.length (fun j=>((k:Int),room,(k:Int),(i:Int),(j:Int),M,c,out++(rest.take j).map (fun r=>(i:Int)::r),rest)) ((k:Int),room,(k:Int),(i:Int),M,c,rest,out++rest.map fun r=>(i:Int)::r)
  (fun j hj=>by
   show iy P55 F (k:Int) room (k:Int) (i:Int) (j:Int) M c (out++(rest.take j).map (fun r=>(i:Int)::r)) rest=_;unfold iy;have hm:ix rest (j:Int)∈rest:=by rw[cC]; exact eQ hj
   have:=h2 _ hm;rw[ay hj,cond_true,al (ak hj),al (cM (by simp; omega)),al (cM (by simp; omega)),al (an (by omega)),List.take_add_one,List.getElem?_eq_getElem hj,cC,qB hj];simp only[Option.toList,List.map_append,List.map_cons,List.map_nil,← List.append_assoc];rfl)
  (by
   show iy P55 F (k:Int) room (k:Int) (i:Int) (rest.length:Int) M c _ rest=_;unfold iy;rw[aE,cond_false,List.take_length];rfl)
  (by omega)
 have e:out++(rest.take 0).map (fun r=>(i:Int)::r)=out:=by simp
 rw[e]at key;exact key
section
variable {c:dk} {M:Mat}
def fS (c:dk)(M:Mat)(k i:Nat):Bool:=b8 (aI c i) (dU c k)&&!decide (qP M k i=1)
theorem xQ (d:Nat):2^(d+1)=2^d+2^d:=by rw[Nat.pow_succ]; omega
theorem tV {d:Nat}(h:d≤6):2^d≤64:=Nat.le_trans (Nat.pow_le_pow_right (by decide) h) (by decide)
theorem FJ {k:Nat}(hk:k < c.1.length)(hn:c.2.length≤6)(hM:(ix M (k:Int)).length=c.2.length):∀ (d a N:Nat) (room:Int),a+d=c.2.length→d < N→room≤100 →
  ∃ rows,R60v1 N (c,(k:Int),(a:Int),room,(k:Int),M)=some (M,rows)∧rows.length≤2^d∧∀ x,x∈rows↔RowP c.2.length (fS c M k) a room x:=by
 intro d
 induction d using Nat.strongRecOn with
 | _ d ih=>
 intro a N room had hdN hroom;obtain⟨N,rfl⟩:∃ N',N=N'+1:=⟨N-1,by omega⟩;have fin:∀ out,(∃ q,jT (R60v1 N) ((k:Int),room,(k:Int),(a:Int),M,c,[[]])=some q∧q=(M,c,out))→R60v1 (N+1) (c,(k:Int),(a:Int),room,(k:Int),M)=some (M,out):=fun out ⟨q,h1,h2⟩=>by
  subst h2;show tO P55 (R60v1 N) (jT (R60v1 N)) c (k:Int) (a:Int) room (k:Int) M=_;unfold tO;rw[show jT (R60v1 N) ((k:Int),room,(↑(Int.toNat (k:Int)):Int),(a:Int),M,c,[[]])=some (M,c,out)from h1];rfl
 by_cases hr0:room≤0
 ·refine⟨[[]],fin _ ⟨_,?_,rfl⟩,Nat.pow_pos (by decide),fun x=>?_⟩
  ·refine aJ (step:=fun x=>pA (R60v1 N) x.1 x.2.1 x.2.2.1 x.2.2.2.1 x.2.2.2.2.1 x.2.2.2.2.2.1 x.2.2.2.2.2.2) 0 (fun _=>((k:Int),room,(k:Int),(a:Int),M,c,[[]])) _ (fun i hi=>by omega) ?_ (by omega);show q60v1_0 P55 (R60v1 N) (L60v1_1 (R60v1 N)) (k:Int) room (k:Int) (a:Int) M c [[]]=_;unfold q60v1_0;cases decide ((a:Int) < (↑(List.length c.2):Int))with
   | false=>rfl
   | true=>rw[cond_true,decide_eq_false (by omega)]; rfl
  ·rw[List.mem_singleton];constructor
   ·rintro rfl; exact na _ _ _ _
   ·intro h;have:=h.2.2;exact List.eq_nil_of_length_eq_zero (by omega)
 ·obtain⟨q,e,out,he,hl,hmem⟩:=eb (step:=fun x=>pA (R60v1 N) x.1 x.2.1 x.2.2.1 x.2.2.2.1 x.2.2.2.2.1 x.2.2.2.2.2.1 x.2.2.2.2.2.2) d
   (fun j x=>∃ out,x=((k:Int),room,(k:Int),((a+j:Nat):Int),M,c,out)∧out.length+2^(d-j)≤2^d+1∧∀ x,x∈out↔RowP c.2.length (fS c M k) a room x∧∀ y,x.head?=some y→y < ((a+j:Nat):Int))
   (fun r=>∃ out,r=(M,c,out)∧out.length≤2^d∧∀ x,x∈out↔RowP c.2.length (fS c M k) a room x)
   ((k:Int),room,(k:Int),(a:Int),M,c,[[]]) ⟨[[]],rfl,by simp; omega,fun x=>by
    rw[List.mem_singleton];constructor
    ·rintro rfl; exact⟨na _ _ _ _,fun y h=>(by cases h)⟩
    ·rintro⟨h1,h2⟩;cases x with
     | nil=>rfl
     | cons y x=>
      have:=h2 y rfl;have:=(h1.2.1 y (by simp)).1;omega⟩
   (fun j x hj ⟨out,hx,hl,hmem⟩=>by
    subst hx;have hp:ix c.2 ((a+j:Nat):Int)=aI c (a+j):=bk _ _;have hsw:ix c.1 (k:Int)=dU c k:=bk _ _;have haj:a+j < c.2.length:=by omega
    have hd1:d-j=(d-(j+1))+1:=by omega
    have h2:=xQ (d-(j+1));have h64:=tV (d:=d) (by omega);rw[hd1,h2]at hl;have hpos:0 < 2^(d-(j+1)):=Nat.pow_pos (by decide);have no_fit:fS c M k (a+j)=false→∃ out',((k:Int),room,(k:Int),((a+j:Nat):Int)+1,M,c,out)=((k:Int),room,(k:Int),((a+(j+1):Nat):Int),M,c,out')∧out'.length+2^(d-(j+1))≤2^d+1∧∀ x,x∈out'↔RowP c.2.length (fS c M k) a room x∧∀ y,x.head?=some y→y < ((a+(j+1):Nat):Int):=fun hf=>by
     refine⟨out,rfl,by omega,fun x=>?_⟩;rw[hmem x];constructor
     ·rintro⟨g1,g2⟩; exact⟨g1,fun y hy=>by have:=g2 y hy; omega⟩
     ·rintro⟨g1,g2⟩;refine⟨g1,fun y hy=>?_⟩;have:=g2 y hy;have hyx:y∈x:=by cases x with
       | nil=>cases hy
       | cons z x=>cases hy; simp
      have h5:=(g1.2.1 y hyx).2.2;by_cases q:y=((a+j:Nat):Int)
      ·rw[q,Int.toNat_natCast,hf]at h5; cases h5
      ·omega
    show ∃ y,q60v1_0 P55 (R60v1 N) (L60v1_1 (R60v1 N)) (k:Int) room (k:Int) ((a+j:Nat):Int) M c out=_∧_;unfold q60v1_0;rw[ay haj,cond_true,decide_eq_true (show(0:Int) < room by omega),cond_true,al (ak haj),al (ak hk),hp,hsw,ya,af];cases hf:b8 (aI c (a+j)) (dU c k)with
    | false=>
     rw[Bool.not_false,cond_true,al (an (by omega))];exact⟨_,rfl,no_fit (by unfold fS; rw[hf]; rfl)⟩
    | true=>
     rw[Bool.not_true,cond_false,al (ak (by rw[hM]; exact haj))];by_cases hb:ix (ix M (k:Int)) ((a+j:Nat):Int)=1
     ·rw[decide_eq_true hb,cond_true,al (an (by omega))];exact⟨_,rfl,no_fit (by unfold fS qP; rw[decide_eq_true hb,Bool.not_true,Bool.and_false])⟩
     ·have hF:fS c M k (a+j)=true:=by unfold fS qP; rw[hf,decide_eq_false hb]; rfl
      obtain⟨rest,r1,r2,r3⟩:=ih (d-(j+1)) (by omega) (a+j+1) N (room-1) (by omega) (by omega) (by omega);rw[decide_eq_false hb,cond_false,al (an (by omega)),al (cg (by omega) (by omega)),show R60v1 N (c,(k:Int),((a+j:Nat):Int)+1,room-1,(↑(Int.toNat (k:Int)):Int),M)=_ from r1,af]
      dsimp only
      rw[show L60v1_1 (R60v1 N) ((k:Int),room,(↑(Int.toNat (k:Int)):Int),((a+j:Nat):Int),0,M,c,out,rest)=_ from xP (R60v1 N) k room (a+j) M c out rest (by omega) (fun r hr=>by
       have:=((r3 r).1 hr).2.2; omega),af]
      dsimp only
      rw[al (an (by omega))];refine⟨_,rfl,out++rest.map (fun r=>((a+j:Nat):Int)::r),rfl,by rw[List.length_append,List.length_map]; omega,fun x=>?_⟩;rw[List.mem_append,List.mem_map,hmem x];constructor
      ·rintro(⟨g1,g2⟩ | ⟨r,g1,rfl⟩)
       ·exact⟨g1,fun y hy=>by have:=g2 y hy; omega⟩
       ·exact⟨(oH (by omega) (by omega) haj hF).1 ((r3 r).1 g1),fun y hy=>by
         have:((a+j:Nat):Int)=y:=Option.some.inj hy;omega⟩
      ·rintro⟨g1,g2⟩;cases x with
       | nil=>left; exact⟨g1,fun y h=>(by cases h)⟩
       | cons y x=>
        have g3:=g2 y rfl;by_cases q:y=((a+j:Nat):Int)
        ·right;subst q;exact⟨x,(r3 x).2 ((oH (by omega) (by omega) haj hF).2 g1),rfl⟩
        ·left;exact⟨g1,fun z hz=>by have:y=z:=Option.some.inj hz; omega⟩)
   (fun x ⟨out,hx,hl,hmem⟩=>by
    subst hx;show ∃ r,q60v1_0 P55 (R60v1 N) (L60v1_1 (R60v1 N)) (k:Int) room (k:Int) ((a+d:Nat):Int) M c out=_∧_;unfold q60v1_0;rw[had,aE,cond_false];refine⟨_,rfl,out,rfl,by rw[Nat.sub_self]at hl; omega,fun x=>?_⟩;rw[hmem x];constructor
    ·exact fun h=>h.1
    ·intro h;refine⟨h,fun y hy=>?_⟩;have hyx:y∈x:=by cases x with
      | nil=>cases hy
      | cons z x=>cases hy; simp
     have:=(h.2.1 y hyx).2.1;omega) (by have:=tV (d:=d) (by omega); omega)
  exact⟨out,fin out ⟨q,e,he⟩,hl,hmem⟩
theorem FK {k:Nat}(hk:k < c.1.length)(hn:c.2.length≤6)(hM:(ix M (k:Int)).length=c.2.length)(room:Int)(hr:room≤100):
  ∃ rows,P60v1 (c,(k:Int),0,room,(k:Int),M)=some (M,rows)∧rows.length≤2^c.2.length∧∀ x,x∈rows↔RowP c.2.length (fS c M k) 0 room x:=
 FJ hk hn hM c.2.length 0 18446744073709551616 room (by omega) (by omega) hr
end
def GI (w:List Int)(o:List Int)(y:Int):List Int:=List.set o y.toNat (min (ix w y) (ix o y+1))
def appl (w x o:List Int):List Int:=x.foldl (GI w) o
def uOf (w o:List Int)(i:Nat):Int:=ix w (i:Int)-ix o (i:Int)
structure OkO (n:Nat) (w o:List Int):Prop where
 len:o.length=n
 bd:∀ i:Nat,i < n→0≤ix o (i:Int)∧ix o (i:Int)≤ix w (i:Int)
theorem xR {l:List Int}{i:Nat}(h:l.length≤i):ix l (i:Int)=0:=by rw[cC,G6 h]; rfl
theorem xS {n:Nat}{w o:List Int}(h:OkO n w o){j:Nat}(hj:j < n)(i:Nat):ix (GI w o (j:Int)) (i:Int)=if i=j then min (ix w (i:Int)) (ix o (i:Int)+1)else ix o (i:Int):=by
 unfold GI;rw[Int.toNat_natCast,cC,pw _ _ _ _ (by rw[h.len]; exact hj)];by_cases e:i=j
 ·rw[if_pos e.symm,if_pos e,e]
 ·rw[if_neg (fun q=>e q.symm),if_neg e,cC]
theorem FL {n:Nat}{w o:List Int}(h:OkO n w o){j:Nat}(hj:j < n):OkO n w (GI w o (j:Int)):=by
 refine⟨by unfold GI; rw[List.length_set,h.len],fun i hi=>?_⟩;rw[xS h hj];have:=h.bd i hi;split <;> omega
theorem iz {n:Nat}{w:List Int}:∀ {x o:List Int},OkO n w o→x.Pairwise (· < ·)→(∀ y∈x,(0:Int)≤y∧y < n) →
  OkO n w (appl w x o)∧∀ i:Nat,i < n→ix (appl w x o) (i:Int)=if(i:Int)∈x then min (ix w (i:Int)) (ix o (i:Int)+1)else ix o (i:Int)
 | [],o,h,_,_=>⟨h,fun i _=>by rw[if_neg (by simp)]; rfl⟩
 | y::x,o,h,hp,hx=>by
  rw[List.pairwise_cons]at hp;obtain⟨j,rfl⟩:∃ j:Nat,y=(j:Int):=⟨y.toNat,by have:=hx y (by simp); omega⟩;have hj:j < n:=by have:=hx (j:Int) (by simp); omega
  obtain⟨h1,h2⟩:=iz (FL h hj) hp.2 fun z hz=>hx z (List.mem_cons_of_mem _ hz);refine⟨h1,fun i hi=>?_⟩;show ix (appl w x (GI w o (j:Int))) (i:Int)=_;rw[h2 i hi,xS h hj];by_cases e:i=j
  ·subst e;have:(i:Int)∉x:=fun hm=>by have:=hp.1 _ hm; omega
   rw[if_neg this,if_pos rfl,if_pos (by simp)]
  ·rw[if_neg e];by_cases q:(i:Int)∈x
   ·rw[if_pos q,if_pos (List.mem_cons_of_mem _ q)]
   ·rw[if_neg q,if_neg (fun hm=>by
     rcases List.mem_cons.1 hm with h3 | h3
     ·omega
     ·exact q h3)]
theorem pC {n:Nat}{w o:List Int}(hw:w.length=n)(h:OkO n w o){i:Nat}(hi:n≤i):uOf w o i=0:=by
 unfold uOf;rw[xR (by omega),xR (by rw[h.len]; exact hi)];rfl
theorem nc {t:Nat→Int}{A:SetB}{i:Nat}(h:t i=0):redB t A i=0:=by
 unfold redB;rw[h,decide_eq_false (by omega),Bool.and_false];rfl
theorem qR {n:Nat}{w x o:List Int}(hw:w.length=n)(h:OkO n w o)(hp:x.Pairwise (· < ·))(hx:∀ y∈x,(0:Int)≤y∧y < n):uOf w (appl w x o)=redB (uOf w o) (fun i=>decide ((i:Int)∈x)):=by
 obtain⟨h1,h2⟩:=iz h hp hx
 funext i
 by_cases hi:i < n
 ·have hb:=h.bd i hi;have h3:=h2 i hi;unfold redB uOf
  dsimp only
  rw[h3];by_cases q:(i:Int)∈x
  ·rw[if_pos q,decide_eq_true q,Bool.true_and];by_cases c:0 < ix w (i:Int)-ix o (i:Int)
   ·rw[decide_eq_true c,cond_true]; omega
   ·rw[decide_eq_false c,cond_false]; omega
  ·rw[if_neg q,decide_eq_false q,Bool.false_and,cond_false]
 ·rw[pC hw h1 (by omega),nc (pC hw h (by omega))]
theorem sd {n:Nat}{s:Int×SetB}{A:SetB}{l:List (Int×SetB)}{t u:Nat→Int}(h:LeftB n l t u)(hA:xJ n s A):LeftB n (l++[s]) t (redB u A):=by
 induction h with
 | nil t=>exact .cons A hA (.nil _)
 | cons B hB k ih=>exact .cons B hB ih
theorem oI {n:Nat}{s:Int×SetB}:∀ {l:List (Int×SetB)} {t v:Nat→Int},LeftB n (l++[s]) t v→∃ u A,LeftB n l t u∧xJ n s A∧v=redB u A
 | [],t,v,h=>by
  cases h with
  | cons A hA k=>
   cases k;exact⟨t,A,.nil t,hA,rfl⟩
 | a::l,t,v,h=>by
  cases h with
  | cons A hA k=>
   obtain⟨u,B,h1,h2,h3⟩:=oI k;exact⟨u,B,.cons A hA h1,h2,h3⟩
theorem oJ {n:Nat}{f:Nat→Int×SetB}:∀ m k,hY n f k (m+1)=hY n f k m++[f (k+m)]
 | 0,k=>rfl
 | m+1,k=>by
  show f k::hY n f (k+1) (m+1)=f k::(hY n f (k+1) m++[f (k+(m+1))]);rw[oJ m (k+1),show k+1+m=k+(m+1)by omega]
theorem h9 {n:Nat}{f g:Nat→Int×SetB}:∀ {m k:Nat} {t u:Nat→Int},(∀ j,k≤j→j < k+m→(f j).1=(g j).1∧∀ i,i < n→(f j).2 i=(g j).2 i)→LeftB n (hY n f k m) t u→LeftB n (hY n g k m) t u
 | 0,k,t,u,_,h=>h
 | m+1,k,t,u,hc,h=>by
  cases h with
  | cons A hA q=>
   have h0:=hc k (Nat.le_refl _) (by omega);exact .cons A ⟨fun i hi hAi=>by rw[← h0.2 i hi]; exact hA.1 i hi hAi,by rw[← h0.1]; exact hA.2⟩ (h9 (fun j h1 h2=>hc j (by omega) (by omega)) q)
def iS (A:SetB):Nat→List Int
 | 0=>[]
 | m+1=>cond (A m) (iS A m++[(m:Int)]) (iS A m)
theorem iA {A:SetB}{y:Int}:∀ m,y∈iS A m↔∃ i:Nat,i < m∧A i=true∧y=(i:Int)
 | 0=>by
  constructor
  ·intro h; cases h
  ·rintro⟨i,h,_⟩; omega
 | m+1=>by
  have ih:=iA (A:=A) (y:=y) m;rw[iS];cases ha:A m with
  | false=>
   rw[cond_false,ih];constructor
   ·rintro⟨i,h1,h2⟩; exact⟨i,by omega,h2⟩
   ·rintro⟨i,h1,h2,h3⟩;by_cases e:i=m
    ·rw[e,ha]at h2; cases h2
    ·exact⟨i,by omega,h2,h3⟩
  | true=>
   rw[cond_true,List.mem_append,ih,List.mem_singleton];constructor
   ·rintro(⟨i,h1,h2⟩ | rfl)
    ·exact⟨i,by omega,h2⟩
    ·exact⟨m,by omega,ha,rfl⟩
   ·rintro⟨i,h1,h2,h3⟩;by_cases e:i=m
    ·right; rw[h3,e]
    ·left; exact⟨i,by omega,h2,h3⟩
theorem kQ {A:SetB}:∀ m,(iS A m).Pairwise (· < ·)
 | 0=>.nil
 | m+1=>by
  rw[iS];cases A m with
  | false=>exact kQ m
  | true=>
   rw[cond_true,List.pairwise_append];refine⟨kQ m,by simp,fun a ha b hb=>?_⟩;obtain⟨i,h1,_,rfl⟩:=(iA m).1 ha;rw[List.mem_singleton.1 hb];omega
theorem oK {A:SetB}:∀ m,((iS A m).length:Int)=aG m A
 | 0=>rfl
 | m+1=>by
  have:=oK (A:=A) m;unfold aG at *;rw[iS,aC];cases A m with
  | false=>rw[cond_false,this]; show _=_+0; omega
  | true=>rw[cond_true,List.length_append]; show((_+1:Nat):Int)=_+1; omega
theorem xT (y:Int):∀ n,sumN n (fun i=>bY (decide ((i:Int)=y)))≤1∧((n:Int)≤y→sumN n (fun i=>bY (decide ((i:Int)=y)))=0)
 | 0=>⟨by show(0:Int)≤1; decide,fun _=>rfl⟩
 | n+1=>by
  have ih:=xT y n;rw[aC];by_cases e:(n:Int)=y
  ·rw[decide_eq_true e];have:=ih.2 (by omega);have:bY true=1:=rfl;exact⟨by omega,fun h=>by omega⟩
  ·rw[decide_eq_false e];have:bY false=0:=rfl;exact⟨by omega,fun h=>by have:=ih.2 (by omega); omega⟩
theorem qS (n:Nat):∀ x:List Int,aG n (fun i=>decide ((i:Int)∈x))≤x.length
 | []=>by
  have:aG n (fun i=>decide ((i:Int)∈([]:List Int)))=0:=by
   unfold aG
   induction n with
   | zero=>rfl
   | succ n ih=>rw[aC,ih]; rfl
  rw[this]; exact Int.le_refl _
 | y::x=>by
  have ih:=qS n x;have h1:=(xT y n).1;have h2:aG n (fun i=>decide ((i:Int)∈y::x))≤sumN n (fun i=>bY (decide ((i:Int)=y))+bY (decide ((i:Int)∈x))):=jX fun i _=>by
   dsimp only
   by_cases e:(i:Int)=y
   ·have:=fq (decide ((i:Int)∈x));have:=fq (decide ((i:Int)∈y::x));rw[decide_eq_true e];have:bY true=1:=rfl;omega
   ·have:decide ((i:Int)∈y::x)=decide ((i:Int)∈x):=by simp[e]
    rw[this];have:=fq (decide ((i:Int)=y));omega
  rw[eR]at h2;have h3:sumN n (fun i=>bY (decide ((i:Int)∈x)))=aG n (fun i=>decide ((i:Int)∈x)):=rfl;rw[List.length_cons];omega
theorem xU {l:Mat}{o:List Int}{i:Nat}(hi:i < l.length)(hl:(ix l (i:Int)).length=o.length)(ho:o.length≤1000):qK ((i:Int),true,0,l,o)=some ((i:Int),decide (ix l (i:Int)=o),l,o):=by
 have key:=aJ (step:=fun x=>Dn x.1 x.2.1 x.2.2.1 x.2.2.2.1 x.2.2.2.2) o.length (fun k=>((i:Int),bK k (fun j=>decide (ix (ix l (i:Int)) (j:Int)=ix o (j:Int))),(k:Int),l,o)) ((i:Int),bK o.length (fun j=>decide (ix (ix l (i:Int)) (j:Int)=ix o (j:Int))),l,o)
  (fun k hk=>by
   show ox (i:Int) (bK k (fun j=>decide (ix (ix l (i:Int)) (j:Int)=ix o (j:Int)))) (k:Int) l o=_;unfold ox;rw[ay hk,cond_true];simp only[bK];cases bK k (fun j=>decide (ix (ix l (i:Int)) (j:Int)=ix o (j:Int)))with
   | true=>rw[cond_true,al (ak hi),al (ak (by omega)),al (ak hk),al (an (by omega)),Bool.true_and]; rfl
   | false=>rw[cond_false,al (an (by omega)),Bool.false_and]; rfl)
  (by
   show ox (i:Int) _ (o.length:Int) l o=_;unfold ox;rw[aE,cond_false])
  (by omega)
 have e:bK o.length (fun j=>decide (ix (ix l (i:Int)) (j:Int)=ix o (j:Int)))=decide (ix l (i:Int)=o):=by
  rw[Bool.eq_iff_iff,bp,decide_eq_true_eq];constructor
  ·intro h; exact rY hl fun j hj=>of_decide_eq_true (h j (by omega))
  ·intro h j _; rw[h]; exact decide_eq_true rfl
 rw[e]at key;exact key
theorem FM {n:Nat}{l:Mat}{o:List Int}(hl:∀ x∈l,x.length=n)(ho:o.length=n)(hn:n≤1000)(hs:l.length≤100000000):∃ l',P61 (l,o)=some l'∧(∀ x,x∈l'↔x∈l∨x=o)∧l'.length≤l.length+1:=by
 have hrow:∀ i:Nat,i < l.length→(ix l (i:Int)).length=o.length:=fun i hi=>by rw[cC,hl _ (eQ hi),ho]
 rcases rQ (step:=fun x=>Dp x.1 x.2.1 x.2.2) l.length (fun k=>((k:Int),l,o)) (fun k=>decide (ix l (k:Int)=o)) (fun _=>Sum.inl (l,o)) (Sum.inr (l,o))
  (fun k hk _=>by
   show oy qK (k:Int) l o=_;unfold oy;rw[ay hk,cond_true,xU hk (hrow k hk) (by omega),af]
   dsimp only
   cases decide (ix l (k:Int)=o)with
   | true=>rfl
   | false=>rw[cond_false,al (an (by omega))]; rfl)
  (fun _=>by
   show oy qK (l.length:Int) l o=_;unfold oy;rw[aE,cond_false]) (by omega)with⟨k,h1,h2,h3,h4⟩ | ⟨h3,h4⟩
 ·refine⟨l,?_,fun x=>⟨.inl,fun h=>?_⟩,by omega⟩
  ·show GB oz l o=_;unfold GB;rw[show oz (0,l,o)=_ from h4];rfl
  ·rcases h with h | rfl
   ·exact h
   ·rw[← of_decide_eq_true h2,cC]; exact eQ h1
 ·refine⟨l++[o],?_,fun x=>by rw[List.mem_append,List.mem_singleton],by simp⟩;show GB oz l o=_;unfold GB;rw[show oz (0,l,o)=_ from h4];show au (bN 24 (l.length+[o].length)) _=_;rw[al (cM (by simp; omega))]
section
variable {c:dk} {M:Mat} {w:List Int} {n:Nat}
theorem xV (day s:Int)(i k:Nat)(now rows next:Mat){o:List Int}(hw:w.length=n)(hwb:∀ i:Nat,i < n→ix w (i:Int)≤100)(ho:OkO n w o)(hk:k < rows.length)(hp:(ix rows (k:Int)).Pairwise (· < ·))(hx:∀ y∈ix rows (k:Int),(0:Int)≤y∧y < n)(hl:(ix rows (k:Int)).length≤1000):
  L47_4 (day,s,(i:Int),(k:Int),0,w,M,c,now,rows,next,o)=some (day,s,(i:Int),(k:Int),w,M,c,now,rows,next,appl w (ix rows (k:Int)) o):=by
 have key:=aJ (step:=fun x=>DG x.1 x.2.1 x.2.2.1 x.2.2.2.1 x.2.2.2.2.1 x.2.2.2.2.2.1 x.2.2.2.2.2.2.1 x.2.2.2.2.2.2.2.1 x.2.2.2.2.2.2.2.2.1 x.2.2.2.2.2.2.2.2.2.1 x.2.2.2.2.2.2.2.2.2.2.1 x.2.2.2.2.2.2.2.2.2.2.2) (ix rows (k:Int)).length
  (fun j=>(day,s,(i:Int),(k:Int),(j:Int),w,M,c,now,rows,next,appl w ((ix rows (k:Int)).take j) o)) (day,s,(i:Int),(k:Int),w,M,c,now,rows,next,appl w (ix rows (k:Int)) o)
  (fun j hj=>by
   show oB P60v1 P61 day s (i:Int) (k:Int) (j:Int) w M c now rows next (appl w ((ix rows (k:Int)).take j) o)=_
   unfold oB;have hsub:((ix rows (k:Int)).take j).Sublist (ix rows (k:Int)):=List.take_sublist _ _;have hok:=(iz ho (hp.sublist hsub) fun y hy=>hx y (hsub.subset hy)).1;have hm:ix (ix rows (k:Int)) (j:Int)∈ix rows (k:Int):=by rw[cC]; exact eQ hj
   obtain⟨y,hy⟩:∃ y:Nat,ix (ix rows (k:Int)) (j:Int)=(y:Int):=⟨(ix (ix rows (k:Int)) (j:Int)).toNat,by have:=hx _ hm; omega⟩;have hyn:y < n:=by have:=hx _ hm; omega
   have hb:=hok.bd y hyn;have hwy:=hwb y hyn;have hlo:=hok.len;rw[al (ak hk),ay hj,cond_true,al (ak hk),al (ak hj),al (ak hk),al (ak hj),hy,al (ak (by omega)),al (ak hk),al (ak hj),al (ak (by omega)),al (cg (by omega) (by omega)),al (ak (by omega)),al (an (by omega)),
    List.take_add_one,List.getElem?_eq_getElem hj]
   have e:(ix rows (k:Int))[j]=(y:Int):=by rw[← hy,cC (ix rows (k:Int)),qB hj]
   rw[e];unfold appl;rw[Option.toList,List.foldl_append];rfl)
  (by
   show oB P60v1 P61 day s (i:Int) (k:Int) ((ix rows (k:Int)).length:Int) w M c now rows next _=_
   unfold oB;rw[al (ak hk),aE,cond_false,List.take_length])
  (by omega)
 exact key
structure RowsI (n:Nat) (rows:Mat):Prop where
 len:rows.length≤16
 row:∀ r∈rows,r.Pairwise (· < ·)∧(∀ y∈r,(0:Int)≤y∧y < n)∧r.length≤1000
theorem xW (day s:Int)(i:Nat){now rows next:Mat}(hw:w.length=n)(hn:n≤4)(hwb:∀ i:Nat,i < n→ix w (i:Int)≤100)(hi:i < now.length)(ho:OkO n w (ix now (i:Int)))(hr:RowsI n rows)(hx:∀ x∈next,x.length=n)(hl:next.length≤20000000):
  ∃ next',L47_3 (day,s,(i:Int),0,w,M,c,now,rows,next)=some (day,s,(i:Int),w,M,c,now,rows,next')∧next'.length≤next.length+16∧(∀ x,x∈next'↔x∈next∨∃ r∈rows,x=appl w r (ix now (i:Int))):=by
 have okr:∀ r∈rows,OkO n w (appl w r (ix now (i:Int))):=fun r hm=>(iz ho (hr.row r hm).1 (hr.row r hm).2.1).1;obtain⟨q,e,next',he,h1,h2⟩:=eb (step:=fun x=>DI x.1 x.2.1 x.2.2.1 x.2.2.2.1 x.2.2.2.2.1 x.2.2.2.2.2.1 x.2.2.2.2.2.2.1 x.2.2.2.2.2.2.2.1 x.2.2.2.2.2.2.2.2.1 x.2.2.2.2.2.2.2.2.2) rows.length
  (fun k x=>∃ nx,x=(day,s,(i:Int),(k:Int),w,M,c,now,rows,nx)∧nx.length≤next.length+k∧(∀ x∈nx,x.length=n)∧(∀ x,x∈nx↔x∈next∨∃ j:Nat,j < k∧x=appl w (ix rows (j:Int)) (ix now (i:Int))))
  (fun r=>∃ nx,r=(day,s,(i:Int),w,M,c,now,rows,nx)∧nx.length≤next.length+16∧(∀ x,x∈nx↔x∈next∨∃ r∈rows,x=appl w r (ix now (i:Int))))
  (day,s,(i:Int),0,w,M,c,now,rows,next) ⟨next,rfl,by omega,hx,fun x=>⟨.inl,fun h=>by
   rcases h with h | ⟨j,h,_⟩
   ·exact h
   ·omega⟩⟩
  (fun k x hk ⟨nx,hxe,g1,g2,g3⟩=>by
   subst hxe;have hm:ix rows (k:Int)∈rows:=by rw[cC]; exact eQ hk
   obtain⟨r1,r2,r3⟩:=hr.row _ hm;have hrl:=hr.len;obtain⟨nx',a1,a2,a3⟩:=FM (n:=n) (l:=nx) (o:=appl w (ix rows (k:Int)) (ix now (i:Int))) g2 (okr _ hm).len (by omega) (by omega);show ∃ y,q47_3 P60v1 P61 L47_4 day s (i:Int) (k:Int) w M c now rows nx=_∧_;unfold q47_3;rw[ay hk,cond_true,al (ak hi),al (cM (by rw[ho.len]; simp; omega)),List.nil_append,xV day s i k now rows nx hw hwb ho hk r1 r2 r3,af]
   dsimp only
   rw[a1,af,al (an (by omega))];refine⟨_,rfl,nx',rfl,by omega,fun x hx'=>?_,fun x=>?_⟩
   ·rcases(a2 x).1 hx' with h | rfl
    ·exact g2 x h
    ·exact(okr _ hm).len
   ·rw[a2 x,g3 x];constructor
    ·rintro((h | ⟨j,h,h'⟩) | h)
     ·exact .inl h
     ·exact .inr ⟨j,by omega,h'⟩
     ·exact .inr ⟨k,by omega,h⟩
    ·rintro(h | ⟨j,h,h'⟩)
     ·exact .inl (.inl h)
     ·by_cases q:j=k
      ·right; rw[h',q]
      ·exact .inl (.inr ⟨j,by omega,h'⟩))
  (fun x ⟨nx,hxe,g1,g2,g3⟩=>by
   subst hxe;show ∃ r,q47_3 P60v1 P61 L47_4 day s (i:Int) (rows.length:Int) w M c now rows nx=_∧_;unfold q47_3;rw[aE,cond_false];have hrl:=hr.len;refine⟨_,rfl,nx,rfl,by omega,fun x=>?_⟩;rw[g3 x];constructor
   ·rintro(h | ⟨j,h,h'⟩)
    ·exact .inl h
    ·exact .inr ⟨ix rows (j:Int),by rw[cC]; exact eQ h,h'⟩
   ·rintro(h | ⟨r,h,h'⟩)
    ·exact .inl h
    ·obtain⟨j,hj,rfl⟩:=rR h;exact .inr ⟨j,hj,by rw[cC]; exact h'⟩) (by have:=hr.len; omega)
 subst he;exact⟨next',e,h1,h2⟩
theorem xX (day s:Int){now rows:Mat}(hw:w.length=n)(hn:n≤4)(hwb:∀ i:Nat,i < n→ix w (i:Int)≤100)(ho:∀ o∈now,OkO n w o)(hnl:now.length≤1048576)(hr:RowsI n rows):
  ∃ next,L47_2 (day,s,0,w,M,c,now,rows,[])=some (day,s,w,M,c,now,rows,next)∧next.length≤16*now.length∧(∀ x,x∈next↔∃ o∈now,∃ r∈rows,x=appl w r o):=by
 have okr:∀ o∈now,∀ r∈rows,OkO n w (appl w r o):=fun o hmo r hm=>(iz (ho o hmo) (hr.row r hm).1 (hr.row r hm).2.1).1;obtain⟨q,e,next',he,h1,h2⟩:=eb (step:=fun x=>DK x.1 x.2.1 x.2.2.1 x.2.2.2.1 x.2.2.2.2.1 x.2.2.2.2.2.1 x.2.2.2.2.2.2.1 x.2.2.2.2.2.2.2.1 x.2.2.2.2.2.2.2.2) now.length
  (fun k x=>∃ nx,x=(day,s,(k:Int),w,M,c,now,rows,nx)∧nx.length≤16*k∧(∀ x,x∈nx↔∃ j:Nat,j < k∧∃ r∈rows,x=appl w r (ix now (j:Int))))
  (fun r=>∃ nx,r=(day,s,w,M,c,now,rows,nx)∧nx.length≤16*now.length∧(∀ x,x∈nx↔∃ o∈now,∃ r∈rows,x=appl w r o))
  (day,s,0,w,M,c,now,rows,[]) ⟨[],rfl,by simp,fun x=>⟨fun h=>(by cases h),fun⟨j,h,_⟩=>by omega⟩⟩
  (fun k x hk ⟨nx,hxe,g1,g3⟩=>by
   subst hxe;have hm:ix now (k:Int)∈now:=by rw[cC]; exact eQ hk
   obtain⟨nx',a1,a2,a3⟩:=xW (M:=M) (c:=c) day s k (now:=now) (rows:=rows) (next:=nx) hw hn hwb hk (ho _ hm) hr (fun x hx=>by
    obtain⟨j,h,r,h',rfl⟩:=(g3 x).1 hx;exact(okr _ (by rw[cC]; exact eQ (by omega)) r h').len) (by omega)
   show ∃ y,q47_2 P60v1 P61 L47_3 day s (k:Int) w M c now rows nx=_∧_;unfold q47_2;rw[ay hk,cond_true,a1,af]
   dsimp only
   rw[al (an (by omega))];refine⟨_,rfl,nx',rfl,by omega,fun x=>?_⟩;rw[a3 x,g3 x];constructor
   ·rintro(⟨j,h,h'⟩ | ⟨r,h,h'⟩)
    ·exact⟨j,by omega,h'⟩
    ·exact⟨k,by omega,r,h,h'⟩
   ·rintro⟨j,h,r,h',h2⟩;by_cases q:j=k
    ·right; rw[q]at h2; exact⟨r,h',h2⟩
    ·left; exact⟨j,by omega,r,h',h2⟩)
  (fun x ⟨nx,hxe,g1,g3⟩=>by
   subst hxe;show ∃ r,q47_2 P60v1 P61 L47_3 day s (now.length:Int) w M c now rows nx=_∧_;unfold q47_2;rw[aE,cond_false];refine⟨_,rfl,nx,rfl,g1,fun x=>?_⟩;rw[g3 x];constructor
   ·rintro⟨j,h,h'⟩; exact⟨ix now (j:Int),by rw[cC]; exact eQ h,h'⟩
   ·rintro⟨o,h,h'⟩;obtain⟨j,hj,rfl⟩:=rR h;exact⟨j,hj,by rw[cC]; exact h'⟩) (by omega)
 subst he;exact⟨next',e,h1,h2⟩
end
def iT (c:dk)(day:Int)(k:Nat):Int:=if(dU c k).1 < day then 0 else(dU c k).2.2
def fB (c:dk)(M:Mat)(day:Int)(k:Nat):Int×SetB:=(iT c day k,fS c M k)
theorem DU {k:Nat}(h:k≤5):16^k≤1048576:=Nat.le_trans (Nat.pow_le_pow_right (by decide) h) (by decide)
structure NowI (n:Nat) (w:List Int) (l:List (Int×SetB)) (now:Mat):Prop where
 ok:∀ o∈now,OkO n w o∧LeftB n l (fun i=>ix w (i:Nat)) (uOf w o)
 all:∀ u,LeftB n l (fun i=>ix w (i:Nat)) u→∃ o∈now,u=uOf w o
 ne:∃ o,o∈now
theorem DW {n:Nat}(w o:List Int):sumN n (uOf w o)=sumN n (fun i=>ix w (i:Nat))-sumN n (fun i=>ix o (i:Nat)):=by
 have:=eR (uOf w o) (fun i=>ix o (i:Nat)) n;have e:sumN n (fun i=>uOf w o i+ix o (i:Nat))=sumN n (fun i=>ix w (i:Nat)):=bD fun i _=>by
  show ix w (i:Nat)-ix o (i:Nat)+ix o (i:Nat)=_; omega
 omega
section
variable {c:dk} {M:Mat} {w:List Int} {n:Nat}
theorem NowI.next {now rows next:Mat}{s:Int×SetB}{l:List (Int×SetB)}(hw:w.length=n)(h:NowI n w l now)(hs:0≤s.1)(hr:∀ x,x∈rows↔RowP n s.2 0 s.1 x)(hx:∀ x,x∈next↔∃ o∈now,∃ r∈rows,x=appl w r o):NowI n w (l++[s]) next:=by
 have hrow:∀ r∈rows,r.Pairwise (· < ·)∧(∀ y∈r,(0:Int)≤y∧y < n):=fun r hm=>by
  have:=(hr r).1 hm;exact⟨this.1,fun y hy=>by have:=this.2.1 y hy; omega⟩
 refine⟨fun x hm=>?_,fun u hu=>?_,?_⟩
 ·obtain⟨o,ho,r,hrm,rfl⟩:=(hx x).1 hm;obtain⟨h1,h2⟩:=h.ok o ho;obtain⟨r1,r2⟩:=hrow r hrm;refine⟨(iz h1 r1 r2).1,?_⟩;rw[qR hw h1 r1 r2];refine sd h2 ⟨fun i hi hA=>?_,?_⟩
  ·have:=(((hr r).1 hrm).2.1 (i:Int) (of_decide_eq_true hA)).2.2
   rwa [Int.toNat_natCast]at this
  ·have h3:=qS n r;have h4:=((hr r).1 hrm).2.2;omega
 ·obtain⟨u',A,h1,h2,h3⟩:=oI hu;obtain⟨o,ho,rfl⟩:=h.all u' h1;have hrm:iS A n∈rows:=(hr _).2 ⟨kQ n,fun y hy=>by
   obtain⟨i,hi,hA,rfl⟩:=(iA n).1 hy;exact⟨by omega,by omega,by rw[Int.toNat_natCast]; exact h2.1 i hi hA⟩,by rw[oK]; have:=h2.2; omega⟩
  obtain⟨r1,r2⟩:=hrow _ hrm;have hok:=(h.ok o ho).1;refine⟨_,(hx _).2 ⟨o,ho,_,hrm,rfl⟩,?_⟩;rw[h3,qR hw hok r1 r2]
  funext i
  by_cases hi:i < n
  ·have:decide ((i:Int)∈iS A n)=A i:=by
    rw[Bool.eq_iff_iff,decide_eq_true_eq,iA];constructor
    ·rintro⟨j,hj,hA,e⟩;have:i=j:=by omega
     rw[this]; exact hA
    ·intro hA; exact⟨i,hi,hA,rfl⟩
   unfold redB
   dsimp only
   rw[this]
  ·rw[nc (pC hw hok (by omega)),nc (pC hw hok (by omega))]
 ·obtain⟨o,ho⟩:=h.ne;exact⟨_,(hx _).2 ⟨o,ho,[],(hr _).2 (na _ _ _ _),rfl⟩⟩
theorem xY (most:Int){now:Mat}{i:Nat}(hi:i < now.length)(hn:n≤4)(hb:∀ j:Nat,j < n→0≤ix (ix now (i:Int)) (j:Int)∧ix (ix now (i:Int)) (j:Int)≤100)(hl:(ix now (i:Int)).length=n):
  L47_6 (most,(i:Int),0,0,now)=some (most,(i:Int),sumN n (fun j=>ix (ix now (i:Int)) (j:Nat)),now):=by
 refine aJ (step:=fun x=>DO x.1 x.2.1 x.2.2.1 x.2.2.2.1 x.2.2.2.2) n (fun k=>(most,(i:Int),sumN k (fun j=>ix (ix now (i:Int)) (j:Nat)),(k:Int),now)) _ (fun k hk=>?_) ?_ (by omega)
 ·show oC P60v1 P61 most (i:Int) (sumN k (fun j=>ix (ix now (i:Int)) (j:Nat))) (k:Int) now=_;unfold oC;have hs:=bR (f:=fun j=>ix (ix now (i:Int)) (j:Nat)) (a:=0) (b:=100) (n:=k) fun j hj=>hb j (by omega);have hk':=hb k hk;rw[al (ak hi),ay (by omega),cond_true,al (ak hi),al (ak (by omega)),al (cg (by omega) (by omega)),al (an (by omega))];rfl
 ·show oC P60v1 P61 most (i:Int) (sumN n (fun j=>ix (ix now (i:Int)) (j:Nat))) (n:Int) now=_;unfold oC;rw[al (ak hi),decide_eq_false (by omega),cond_false]
theorem xZ {now:Mat}(hn:n≤4)(hb:∀ o∈now,o.length=n∧∀ j:Nat,j < n→0≤ix o (j:Int)∧ix o (j:Int)≤100)(hnl:now.length≤100000000)(ne:∃ o,o∈now):
  ∃ most,tR (0,0,now)=some (most,now)∧(∀ o∈now,sumN n (fun j=>ix o (j:Nat))≤most)∧∃ o∈now,most=sumN n (fun j=>ix o (j:Nat)):=by
 obtain⟨q,e,most,he,h1,h2⟩:=eb (step:=fun x=>DQ x.1 x.2.1 x.2.2) now.length
  (fun k x=>∃ most,x=(most,(k:Int),now)∧(0≤most∧most≤400)∧(∀ j:Nat,j < k→sumN n (fun i=>ix (ix now (j:Int)) (i:Nat))≤most)∧(most=0∨∃ j:Nat,j < k∧most=sumN n (fun i=>ix (ix now (j:Int)) (i:Nat))))
  (fun r=>∃ most,r=(most,now)∧(∀ o∈now,sumN n (fun j=>ix o (j:Nat))≤most)∧∃ o∈now,most=sumN n (fun j=>ix o (j:Nat)))
  (0,0,now) ⟨0,rfl,by omega,fun j h=>by omega,.inl rfl⟩
  (fun k x hk ⟨most,hx,g1,g2,g3⟩=>by
   subst hx;have hm:ix now (k:Int)∈now:=by rw[cC]; exact eQ hk
   obtain⟨b1,b2⟩:=hb _ hm;have hs:=bR (f:=fun j=>ix (ix now (k:Int)) (j:Nat)) (a:=0) (b:=100) (n:=n) fun j hj=>b2 j hj;show ∃ y,q47_5 P60v1 P61 L47_6 most (k:Int) now=_∧_;unfold q47_5;rw[ay hk,cond_true,xY most hk hn b2 b1,af]
   dsimp only
   rw[al (an (by omega))];refine⟨_,rfl,_,rfl,by omega,fun j hj=>?_,?_⟩
   ·by_cases q:j=k
    ·rw[q]; omega
    ·have:=g2 j (by omega); omega
   ·rcases g3 with g3 | ⟨j,h,h'⟩
    ·by_cases q:sumN n (fun i=>ix (ix now (k:Int)) (i:Nat))=0
     ·left; omega
     ·right; exact⟨k,by omega,by omega⟩
    ·by_cases q:most≤sumN n (fun i=>ix (ix now (k:Int)) (i:Nat))
     ·right; exact⟨k,by omega,by omega⟩
     ·right; exact⟨j,by omega,by omega⟩)
  (fun x ⟨most,hx,g1,g2,g3⟩=>by
   subst hx;show ∃ r,q47_5 P60v1 P61 L47_6 most (now.length:Int) now=_∧_;unfold q47_5;rw[aE,cond_false];have up:∀ o∈now,sumN n (fun j=>ix o (j:Nat))≤most:=fun o ho=>by
    obtain⟨j,hj,rfl⟩:=rR ho;rw[← cC];exact g2 j hj
   refine⟨_,rfl,most,rfl,up,?_⟩;rcases g3 with g3 | ⟨j,h,h'⟩
   ·obtain⟨o,ho⟩:=ne;have hs:=bR (f:=fun j=>ix o (j:Nat)) (a:=0) (b:=100) (n:=n) fun j hj=>(hb o ho).2 j hj;have:=up o ho;exact⟨o,ho,by omega⟩
   ·exact⟨ix now (j:Int),by rw[cC]; exact eQ h,h'⟩) (by omega)
 subst he;exact⟨most,e,h1,h2⟩
theorem FN (hv:ba c=true)(h5:c.1.length≤5)(h4:c.2.length≤4)(hw:w.length=c.2.length)(hwb:∀ i:Nat,i < c.2.length→0≤ix w (i:Int)∧ix w (i:Int)≤100)(hM:M.length=c.1.length)(hr:∀ k:Nat,k < c.1.length→(ix M (k:Int)).length=c.2.length)(day:Int):
  ∃ most,P47 (c,day,w,M)=some (most,w,M)∧(∀ u,LeftB c.2.length (hY c.2.length (fB c M day) 0 c.1.length) (fun i=>ix w (i:Nat)) u→sumN c.2.length (fun i=>ix w (i:Nat))-sumN c.2.length u≤most)
   ∧ ∃ u,LeftB c.2.length (hY c.2.length (fB c M day) 0 c.1.length) (fun i=>ix w (i:Nat)) u∧most=sumN c.2.length (fun i=>ix w (i:Nat))-sumN c.2.length u:=by
 have hroom:∀ k,k < c.1.length→0≤iT c day k∧iT c day k≤6:=fun k hk=>by
  have:=oM hv hk;unfold tW at this;simp only[Bool.and_eq_true,hN]at this;unfold iT;split <;> omega
 have hwb':∀ i:Nat,i < c.2.length→ix w (i:Int)≤100:=fun i hi=>(hwb i hi).2;have zat:∀ i:Nat,ix (List.replicate c.2.length (0:Int)) (i:Int)=0:=fun i=>by
  by_cases hi:i < c.2.length
  ·rw[pB _ _ _ hi]
  ·rw[xR (by simp; omega)]
 have zu:uOf w (List.replicate c.2.length 0)=fun i=>ix w ((i:Nat):Int):=funext fun i=>by unfold uOf; rw[zat]; omega
 have zok:OkO c.2.length w (List.replicate c.2.length 0):=⟨by simp,fun i hi=>by rw[zat]; exact⟨Int.le_refl _,(hwb i hi).1⟩⟩
 obtain⟨q,e,now,he,hl,hI⟩:=eb (step:=fun x=>DM x.1 x.2.1 x.2.2.1 x.2.2.2.1 x.2.2.2.2.1 x.2.2.2.2.2) c.1.length
  (fun k x=>∃ now,x=(day,(k:Int),w,M,c,now)∧now.length≤16^k∧NowI c.2.length w (hY c.2.length (fB c M day) 0 k) now)
  (fun r=>∃ now,r=(w,M,c,now)∧now.length≤16^c.1.length∧NowI c.2.length w (hY c.2.length (fB c M day) 0 c.1.length) now)
  (day,0,w,M,c,[List.replicate c.2.length 0]) ⟨_,rfl,by simp,fun o ho=>by
   rw[List.mem_singleton.1 ho,zu];exact⟨zok,.nil _⟩,fun u hu=>by
   cases hu;exact⟨_,List.mem_singleton.2 rfl,zu.symm⟩,_,List.mem_singleton.2 rfl⟩
  (fun k x hk ⟨now,hx,hl,hI⟩=>by
   subst hx;have hsw:ix c.1 (k:Int)=dU c k:=bk _ _;have hrk:=hroom k hk;have h16:=DU (k:=k) (by omega);obtain⟨rows,r1,r2,r3⟩:=FK (c:=c) (M:=M) hk (by omega) (hr k hk) (iT c day k) (by omega);have h24:2^c.2.length≤16:=Nat.le_trans (Nat.pow_le_pow_right (by decide) h4) (by decide);have hRI:RowsI c.2.length rows:=⟨by omega,fun r hm=>by
    have:=(r3 r).1 hm;exact⟨this.1,fun y hy=>by have:=this.2.1 y hy; omega,by have:=this.2.2; omega⟩⟩
   obtain⟨next,n1,n2,n3⟩:=xX (M:=M) (c:=c) day (k:Int) (now:=now) (rows:=rows) hw h4 hwb' (fun o ho=>(hI.ok o ho).1) (by omega) hRI;have e1:L47_1 (day,(k:Int),(ix c.1 (k:Int)).2.2,w,M,c,now)=some (day,(k:Int),iT c day k,w,M,c,now):=by
    show tP P60v1 P61 day (k:Int) (ix c.1 (k:Int)).2.2 w M c now=_;unfold tP iT;rw[al (ak hk),hsw];by_cases d:(dU c k).1 < day
    ·rw[decide_eq_true d,if_pos d]; rfl
    ·rw[decide_eq_false d,if_neg d]; rfl
   show ∃ y,q47_0 P60v1 P61 L47_1 L47_2 day (k:Int) w M c now=_∧_;unfold q47_0;rw[ay hk,cond_true,al (ak hk),e1,af]
   dsimp only
   rw[al (ak (by omega)),show P60v1 (c,(k:Int),0,iT c day k,(↑(Int.toNat (k:Int)):Int),M)=_ from r1,af]
   dsimp only
   rw[n1,af]
   dsimp only
   rw[al (an (by omega))];refine⟨_,rfl,next,rfl,by rw[Nat.pow_succ]; omega,?_⟩;rw[oJ,Nat.zero_add];exact hI.next hw hrk.1 r3 n3)
  (fun x ⟨now,hx,hl,hI⟩=>by
   subst hx;show ∃ r,q47_0 P60v1 P61 L47_1 L47_2 day (c.1.length:Int) w M c now=_∧_;unfold q47_0;rw[aE,cond_false];exact⟨_,rfl,now,rfl,hl,hI⟩) (by omega)
 subst he;have h16:=DU (k:=c.1.length) (by omega);obtain⟨most,m1,m2,o,m3,m4⟩:=xZ (n:=c.2.length) (now:=now) h4 (fun o ho=>⟨(hI.ok o ho).1.len,fun j hj=>by
  have:=(hI.ok o ho).1.bd j hj;have:=hwb j hj;omega⟩) (by omega) hI.ne
 refine⟨most,?_,fun u hu=>?_,uOf w o,(hI.ok o m3).2,?_⟩
 ·show Lp P60v1 P61 tQ tR c day w M=_;unfold Lp;rw[al (decide_eq_true (by omega)),al (decide_eq_true (by omega)),show tQ (day,0,w,M,c,[gj (Int.toNat (↑(List.length c.2):Int)) (0:Int)])=_ from e,af]
  dsimp only
  rw[m1];rfl
 ·obtain⟨o',ho',rfl⟩:=hI.all u hu;have:=m2 o' ho';rw[DW];omega
 ·rw[DW,m4];omega
end
section
variable {c:dk} {l:List gF}
theorem x8 (p:qT)(day:Int)(s:oL):b8 p (ll day s)=b8 p s:=by
 unfold ll;cases decide (s.1 < day) <;> rfl
theorem FO (hv:ba c=true)(h5:c.1.length≤5)(h4:c.2.length≤4)(hr:RepOk c.1.length l)(day:Int)(hd:0≤day∧day≤99){ex:Int}{seen done:dF}{w:List Int}(hI:OweI c l l.length ex seen done w):yD (c,l,day)=some (gA (dz day c) done w,0):=by
 obtain⟨no,M,e46,hM⟩:=xN hv hr;have ew:fR c l c.2.length=w:=rY (by rw[dQ,hI.wl]) fun i hi=>by
  rw[dQ]at hi;rw[m9 _ _ hi,hI.wa i hi]
 have hwb:∀ i:Nat,i < c.2.length→0≤ix w (i:Int)∧ix w (i:Int)≤100:=fun i hi=>by
  have:=ib (l:=l) hv l.length hi;have:=b9 hv hi;rw[hI.wa i hi]; omega
 obtain⟨most,m1,m2,u,m3,m4⟩:=FN (w:=w) (M:=M) hv h5 h4 hI.wl hwb hM.len hM.row day;have hg:=oE hv hI day;obtain⟨⟨u',p1,p2⟩,p3⟩:=sa (d:=done) hg (by rw[hI.wl]; rfl) h4;have hsame:∀ j,j < c.1.length→(fB c M day j).1=(FH (dz day c) done j).1∧∀ i,i < c.2.length→(fB c M day j).2 i=(FH (dz day c) done j).2 i:=fun j hj=>by
  constructor
  ·show iT c day j=(ix (dz day c).1 (j:Int)).2.2;rw[mZ day c hj];unfold iT ll;by_cases d:(dU c j).1 < day
   ·rw[if_pos d,decide_eq_true d]; rfl
   ·rw[if_neg d,decide_eq_false d]; rfl
  ·intro i hi;show fS c M j i=lm (dz day c) done i j;have hp:ix (dz day c).2 (i:Int)=aI c i:=bk _ _;unfold fS lm;rw[hp,mZ day c hj,x8,hM.en i j hi hj,hI.dn i j hi hj];cases(b8 (aI c i) (dU c j)&&aH l l.length (aI c i).1 (j:Int)) <;> rfl
 have hlen:(dz day c).1.length=c.1.length:=kO day c;have hshL:DT (dz day c) done=hY c.2.length (FH (dz day c) done) 0 c.1.length:=by unfold DT; rw[hlen]; rfl
 rw[hshL]at p1 p3;have q1:=m2 u' (h9 (f:=FH (dz day c) done) (fun j _ h2=>by
  have:=hsame j (by omega);exact⟨this.1.symm,fun i hi=>(this.2 i hi).symm⟩) p1)
 have q2:=p3 u (h9 (f:=fB c M day) (fun j _ h2=>hsame j (by omega)) m3);have hmost:most=gA (dz day c) done w:=by
  have e1:sumN (dz day c).2.length (fun i=>ix w (i:Nat))=sumN c.2.length (fun i=>ix w (i:Nat)):=rfl;have e2:∀ v,sumN (dz day c).2.length v=sumN c.2.length v:=fun _=>rfl;rw[e1,e2]at p2;rw[e1,e2]at q2;omega
 have hr':=jZ.2 hr;show yC pz P36 pF P46 P47 c l day=_;unfold yC;have e42:pz (c,l)=some 0:=by
  show Gx P12 kM c l=_;unfold Gx;have hl:=cF hv;rw[sf,hv,cond_true,af,decide_eq_true rfl,Bool.not_true,cond_false,yn c l (by omega),hr'];rfl
 rw[e42,af,decide_eq_true rfl,Bool.not_true,cond_false,kR,af,hN.2 hd,Bool.not_true,cond_false,xO hv hr,af,e46,af]
 dsimp only
 rw[ew,m1,hmost];rfl
theorem FP (c:dk)(l:List gF)(hc:c.1.length < 1000000):pz (c,l)=some (cond (ba c) (cond (nD c.1.length l) 0 72) 70):=by
 show Gx P12 kM c l=_;unfold Gx;rw[sf];cases ba c with
 | false=>rfl
 | true=>
  rw[cond_true,af,decide_eq_true rfl,Bool.not_true,cond_false,yn c l hc];rfl
end
theorem Pure.PromiseOwed (c:dk)(_:Wf (.pair (.sl (.pair (.int .i64) (.pair (.int .i64) (.int .i64)))) (.sl (.pair (.int .i64) (.pair (.int .i64) (.pair (.int .i64) (.pair (.int .i64) (.pair (.int .i64) (.int .i64)))))))) c)
  (l:List gF) (_:Wf (.sl (.pair (.int .i64) (.pair (.int .i64) (.int .i64)))) l) (day:Int) (_:Wf (.int .i64) day):P4 (c,l,day)=some true:=by
 show q4 P16 P9 hX P17 yA P19 yD P15 c l day=_;unfold q4;rw[FY,af];cases hf:sg c with
 | true=>rw[cond_true,yd]; rfl
 | false=>
  rw[cond_false];by_cases h60:60 < l.length
  ·rw[show decide ((60:Int) < (↑(List.length l):Int))=true from decide_eq_true (by omega),cond_true,yd]; rfl
  have hf40:c.1.length≤40∧c.2.length≤40:=by
   unfold sg at hf;simp only[Bool.or_eq_false_iff,Bool.not_eq_false',Bool.and_eq_true,decide_eq_true_eq]at hf;exact hf.1
  have hf54:ba c=true→c.1.length≤5∧c.2.length≤4:=fun hv=>by
   unfold sg at hf;rw[hv]at hf;simp only[Bool.or_eq_false_iff,Bool.not_eq_false',Bool.and_eq_true,decide_eq_true_eq,Bool.true_and]at hf;exact hf.2.2
  have fin:∀ (a:Int×Int×List Int) (b:Int×Int),P17 (c,l)=some a→yA (c,l)=some a→P19 (c,l,day)=some b→yD (c,l,day)=some b→a.2.2.length < 1000000000 →
    ((P17 (c,[]++l)).bind fun r5=>(yA (c,l)).bind fun r6=>(P19 (c,[]++l,day)).bind fun r7=>(yD (c,l,day)).bind fun r8=>(P15 (r5.2.2,r6.2.2)).bind fun r9=>cond r9 (cond (decide (r5.1=r6.1)) (cond (decide (r5.2.1=r6.2.1)) (cond (decide (r7.1=r8.1)) (cond (decide (r7.2=r8.2)) ((P9 ()).bind fun r10=>some r10) (some false)) (some false)) (some false)) (some false)) (some false))=some true:=fun a b e1 e2 e3 e4 hl=>by
   rw[List.nil_append,e1,af,e2,af,e3,af,e4,af,yc _ hl,af,yd];simp only[decide_true,cond_true,af]
  rw[show decide ((60:Int) < (↑(List.length l):Int))=false from decide_eq_false (by omega),cond_false,FT c hf40.1 hf40.2,af,al (cM (by simp; omega))];have e40:=sj c l;have e42:=FP c l (by omega);cases hv:ba c with
  | false=>
   rw[hv,cond_false]at e40 e42;exact fin (0,70,[]) (0,70) (by show Fq nk P41 c l=_; unfold Fq; rw[e40]; rfl) (by show Df pz pF c l=_; unfold Df; rw[e42]; rfl) (by show Ac nk P32 P41 tt P45 oq c l day=_; unfold Ac; rw[e40]; rfl) (by show yC pz P36 pF P46 P47 c l day=_; unfold yC; rw[e42]; rfl) (by simp)
  | true=>
   obtain⟨h5,h4⟩:=hf54 hv;cases hrp:nD c.1.length l with
   | false=>
    rw[hv,cond_true,hrp,cond_false]at e40 e42;exact fin (0,72,[]) (0,72) (by show Fq nk P41 c l=_; unfold Fq; rw[e40]; rfl) (by show Df pz pF c l=_; unfold Df; rw[e42]; rfl) (by show Ac nk P32 P41 tt P45 oq c l day=_; unfold Ac; rw[e40]; rfl) (by show yC pz P36 pF P46 P47 c l day=_; unfold yC; rw[e42]; rfl) (by simp)
   | true=>
    have hr:=jZ.1 hrp;rw[hv,cond_true,hrp,cond_true]at e40 e42;obtain⟨seen,done,w,e17,hI⟩:=FG hv hr;have ew:fR c l c.2.length=w:=rY (by rw[dQ,hI.wl]) fun i hi=>by
     rw[dQ]at hi;rw[m9 _ _ hi,hI.wa i hi]
    have e18:yA (c,l)=some (dB c l l.length,0,w):=by
     show Df pz pF c l=_;unfold Df;rw[e42,af,decide_eq_true rfl,Bool.not_true,cond_false,xO hv hr,ew];rfl
    have hwl:w.length < 1000000000:=by rw[hI.wl]; omega
    by_cases hd:0≤day∧day≤99
    ·obtain⟨ex',seen',done',w',e19,hI'⟩:=FF hv hr day hd;exact fin _ _ e17 e18 e19 (FO hv h5 h4 hr day hd hI') hwl
    ·have hwd:wi day 0 99=false:=by
      cases h:wi day 0 99 with
      | false=>rfl
      | true=>exact absurd (hN.1 h) hd
     exact fin _ (0,1) e17 e18 (by
      show Ac nk P32 P41 tt P45 oq c l day=_;unfold Ac;rw[e40,af,decide_eq_true rfl,Bool.not_true,cond_false,gz,hwd]; rfl) (by
      show yC pz P36 pF P46 P47 c l day=_;unfold yC;rw[e42,af,decide_eq_true rfl,Bool.not_true,cond_false,kR,hwd]; rfl) hwl
end Go.Proofs.Ytjoncejabdjekaa.D
