/- Cut down from longer texts. -/
import Derived.Test.YtdkaijofmigmbaaH2m
import Derived.Test.YtdkaijofmigmbaaB3m
import Derived.Test.YtdkaijofmigmbaaG9m
import Derived.Test.YtdkaijofmigmbaaG2m
import Derived.Sort.LotD4
import Derived.Test.YtdkaijofmigmbaaG6m
set_option linter.unusedVariables false
set_option linter.unusedSimpArgs false
set_option linter.unusedSectionVars false
set_option maxRecDepth 100000
namespace Go.Proofs.Ytdkaijofmigmbaa.D
open Go Go.Proofs Go.Proofs.Ytdkaijofmigmbaa.L
theorem Ka (l:List aD)(h:l.length≤1000000):sY vJ (l,(l.length:Int),0,0,[])=some (Sum.inr (0,l)):=by
 refine(aW (step:=fun x=>DA vJ x.1 x.2.1 x.2.2.1 x.2.2.2.1 x.2.2.2.2) l.length (fun k=>(l,(l.length:Int),(k:Int),(0:Int),l.take k)) (Sum.inr (0,l)) (fun k hk=>?_) ?_ (by omega))
 ·show mM vJ l (l.length:Int) (k:Int) 0 (l.take k)=_
  unfold mM
  rw[aR hk,cond_true,am (aE hk)]
  have e:vJ (ix l (k:Int),0,l.take k)=some (true,0,l.take (k+1)):=by
   unfold vJ
   simp only
   rw[am (cO (by simp; omega)),bJ,List.take_add_one,List.getElem?_eq_getElem hk,cE hk]
   rfl
  rw[e]
  show aj (ai .i64 ((k:Int)+1)) _=_
  rw[am (aM (by omega))]
  rfl
 ·show mM vJ l (l.length:Int) (l.length:Int) 0 (l.take l.length)=_
  unfold mM
  rw[aZ,cond_false,List.take_length]
theorem Kb (l:List aD)(h:l.length≤1000000):P123 l=some l:=by
 have e:uS vJ (l,0,[])=some (l,0,l):=by
  show IA vJ (sY vJ) l 0 []=_
  unfold IA
  rw[Ka l h]
  rfl
 unfold P123
 rw[e]
 rfl
def fr (l:List Int)(i:Int):Bool:=wi i 0 ((l.length:Int)-1)&&decide (ix l i = -1)
def yh (l:List Int)(s n:Nat):Bool:=eA n fun k=>decide (gt l (s+k) = -1)
def gp (l:List Int)(s:Int)(n:Int):Bool:=(fr l (s-1)&&!fr l (s-2))||(fr l (s+n)&&!fr l (s+n+1))
theorem SH {r:Nat}(i:Int){rows vain:List Int}{hold:Int}{seats:List (List Int)}{pool:List eB}(hr:r < seats.length)(hl:(gt seats r).length≤1000):
  P97 ((r:Int),i,rows,hold,seats,vain,pool)=some (fr (gt seats r) i,rows,hold,seats,vain,pool):=by
 show q97 P60 (r:Int) i rows hold seats vain pool=_
 unfold q97
 rw[am (aE hr),bJ,am (bk (by omega) (by omega))]
 have e:P60 (i,0,(((gt seats r).length:Int)-1))=some (wi i 0 (((gt seats r).length:Int)-1)):=sW _ _ _
 rw[e]
 simp only[Option.bind_some]
 unfold fr
 cases hw:wi i 0 (((gt seats r).length:Int)-1)with
 | false=>rfl
 | true=>
  have:=du.1 hw
  rw[cond_true,am (aE hr),am (Du (by omega) (by omega))]
  rfl
theorem G5 {r s n:Nat}{a0 a3 a4 a5 a6 k size:Int}{fst:bV}{fnd:Bool}{rows vain:List Int}{hold:Int}{seats:List (List Int)}{pool:List eB}(hr:r < seats.length)(hs:s+n≤(gt seats r).length)(hl:(gt seats r).length≤1000):
  L96_2 PYb (a0,(r:Int),(s:Int),a3,a4,a5,a6,(n:Int),0,k,fst,fnd,size,seats,rows,hold,vain,pool) =
  some (cond (yh (gt seats r) s n) (Sum.inr (a0,(r:Int),(s:Int),a3,a4,a5,a6,k,fst,fnd,size,seats,rows,hold,vain,pool)) (Sum.inl (a0,(r:Int),a3,a4,a5,a6,k,fst,fnd,size,seats,rows,hold,vain,pool))):=by
 refine fB (step:=fun x=>KJ PYb x.1 x.2.1 x.2.2.1 x.2.2.2.1 x.2.2.2.2.1 x.2.2.2.2.2.1 x.2.2.2.2.2.2.1 x.2.2.2.2.2.2.2.1 x.2.2.2.2.2.2.2.2.1 x.2.2.2.2.2.2.2.2.2.1 x.2.2.2.2.2.2.2.2.2.2.1 x.2.2.2.2.2.2.2.2.2.2.2.1 x.2.2.2.2.2.2.2.2.2.2.2.2.1 x.2.2.2.2.2.2.2.2.2.2.2.2.2.1 x.2.2.2.2.2.2.2.2.2.2.2.2.2.2.1 x.2.2.2.2.2.2.2.2.2.2.2.2.2.2.2.1 x.2.2.2.2.2.2.2.2.2.2.2.2.2.2.2.2.1 x.2.2.2.2.2.2.2.2.2.2.2.2.2.2.2.2.2)
  n (fun q=>(a0,(r:Int),(s:Int),a3,a4,a5,a6,(n:Int),(q:Int),k,fst,fnd,size,seats,rows,hold,vain,pool)) (fun q=>decide (gt (gt seats r) (s+q) = -1)) _ _ (fun q hq=>?_) ?_ (by omega)
 ·show rn P97 PYb a0 (r:Int) (s:Int) a3 a4 a5 a6 (n:Int) (q:Int) k fst fnd size seats rows hold vain pool=_
  unfold rn
  rw[aR hq,cond_true,am (bk (by omega) (by omega)),bJ,show((s:Int)+(q:Int))=((s+q:Nat):Int)by omega,am (aE (by omega)),bJ]
  cases hd:decide (gt (gt seats r) (s+q) = -1)with
  | false=>rfl
  | true=>
   rw[Bool.not_true,cond_false,am (aM (by omega))]
   rfl
 ·show rn P97 PYb a0 (r:Int) (s:Int) a3 a4 a5 a6 (n:Int) (n:Int) k fst fnd size seats rows hold vain pool=_
  unfold rn
  rw[aZ,cond_false]
  rfl
theorem PYb_0 (p f:bV)(g b:Bool):PYb (p,g,0,f,b)=some (cond g (true,0,cond b f p,true) (false,1,p,true)):=by
 cases g <;> cases b <;> rfl
theorem Hb {r s n m:Nat}{a2 a3:Int}{fst:bV}{fnd:Bool}{rows vain:List Int}{hold:Int}{seats:List (List Int)}{pool:List eB}(hr:r < seats.length)(hl:(gt seats r).length≤1000)(hn:n≤1000)(hs:s < m)(hm:m+n=(gt seats r).length+1):
  q96_1 P97 PYb (L96_2 PYb) (r:Int) (r:Int) a2 a3 (m:Int) (s:Int) 0 fst fnd (n:Int) seats rows hold vain pool =
  some (cond (yh (gt seats r) s n) (cond (gp (gt seats r) s n)
    (Sum.inl ((r:Int),(r:Int),a2,a3,(m:Int),((s+1:Nat):Int),0,cond fnd fst (0,(r:Int),(s:Int),(n:Int)),true,(n:Int),seats,rows,hold,vain,pool))
    (Sum.inr (Sum.inl (1,(0,(r:Int),(s:Int),(n:Int)),true,(n:Int),seats,rows,hold,vain,pool))))
   (Sum.inl ((r:Int),(r:Int),a2,a3,(m:Int),((s+1:Nat):Int),0,fst,fnd,(n:Int),seats,rows,hold,vain,pool))):=by
 unfold q96_1
 rw[aR hs,cond_true,show(↑((r:Int).toNat):Int)=(r:Int)from rfl,G5 hr (by omega) hl]
 cases hp:yh (gt seats r) s n with
 | false=>
  simp only[cond_false,aa,elim_inl]
  rw[am (aM (by omega))]
  rfl
 | true=>
  simp only[cond_true,aa,elim_inr]
  rw[am (bk (by omega) (by omega)),am (bk (by omega) (by omega))]
  simp only[SH _ hr hl,aa,PYb_0,gp]
  have f1:ai .i64 ((s:Int)-2)=true:=bk (by omega) (by omega)
  have f2:ai .i64 ((s:Int)+(n:Int)+1)=true:=bk (by omega) (by omega)
  have f3:ai .i64 ((s:Int)+1)=true:=aM (by omega)
  simp only[f1,f2,f3,au]
  cases fr (gt seats r) ((s:Int)-1) <;> cases fr (gt seats r) ((s:Int)-2) <;> cases fr (gt seats r) ((s:Int)+(n:Int)) <;> cases fr (gt seats r) ((s:Int)+(n:Int)+1) <;> rfl
def nY (seats:List (List Int))(n:Nat):List (Nat×Nat)→bV×Bool→bV×Bool×Bool
 | [],(f,b)=>(f,b,false)
 | (r,s)::cs,(f,b)=>cond (yh (gt seats r) s n) (cond (gp (gt seats r) s n) (nY seats n cs (cond b f (0,(r:Int),(s:Int),(n:Int)),true)) ((0,(r:Int),(s:Int),(n:Int)),true,true)) (nY seats n cs (f,b))
theorem tO (seats:List (List Int))(n:Nat):∀ (cs ds:List (Nat×Nat)) (a:bV×Bool),nY seats n (cs++ds) a=(match nY seats n cs a with
  | (f,b,true)=>(f,b,true)
  | (f,b,false)=>nY seats n ds (f,b))
 | [],ds,(f,b)=>rfl
 | (r,s)::cs,ds,(f,b)=>by
  simp only[List.cons_append,nY]
  cases yh (gt seats r) s n with
  | false=>simp only[cond_false]; exact tO seats n cs ds _
  | true=>
   cases gp (gt seats r) s n with
   | false=>rfl
   | true=>simp only[cond_true]; exact tO seats n cs ds _
def h9 (r s k:Nat):List (Nat×Nat):=(List.range' s k).map fun s=>(r,s)
theorem Hc {r n m:Nat}{a2 a3:Int}{fst:bV}{fnd:Bool}{rows vain:List Int}{hold:Int}{seats:List (List Int)}{pool:List eB}(hr:r < seats.length)(hl:(gt seats r).length≤1000)(hn:n≤1000)(hm:m=0∨m+n=(gt seats r).length+1){mi:Int}(hmi:mi=(m:Int)∨(m=0∧mi≤0)):
  uT PYb ((r:Int),(r:Int),a2,a3,mi,0,0,fst,fnd,(n:Int),seats,rows,hold,vain,pool)=some (match nY seats n (h9 r 0 m) (fst,fnd)with
   | (f,b,true)=>Sum.inl (1,f,b,(n:Int),seats,rows,hold,vain,pool)
   | (f,b,false)=>Sum.inr (a2,a3,0,f,b,(n:Int),seats,rows,hold,vain,pool)):=by
 have key:=dM (step:=fun x=>KL PYb x.1 x.2.1 x.2.2.1 x.2.2.2.1 x.2.2.2.2.1 x.2.2.2.2.2.1 x.2.2.2.2.2.2.1 x.2.2.2.2.2.2.2.1 x.2.2.2.2.2.2.2.2.1 x.2.2.2.2.2.2.2.2.2.1 x.2.2.2.2.2.2.2.2.2.2.1 x.2.2.2.2.2.2.2.2.2.2.2.1 x.2.2.2.2.2.2.2.2.2.2.2.2.1 x.2.2.2.2.2.2.2.2.2.2.2.2.2.1 x.2.2.2.2.2.2.2.2.2.2.2.2.2.2)
  (fun x=>m-x.2.2.2.2.2.1.toNat)
  (fun x=>∃ s f b,s≤m∧x=((r:Int),(r:Int),a2,a3,mi,(s:Int),0,f,b,(n:Int),seats,rows,hold,vain,pool)∧nY seats n (h9 r s (m-s)) (f,b)=nY seats n (h9 r 0 m) (fst,fnd))
  (fun y=>y=(match nY seats n (h9 r 0 m) (fst,fnd)with
   | (f,b,true)=>Sum.inl (1,f,b,(n:Int),seats,rows,hold,vain,pool)
   | (f,b,false)=>Sum.inr (a2,a3,0,f,b,(n:Int),seats,rows,hold,vain,pool)))
  (x:=((r:Int),(r:Int),a2,a3,mi,((0:Nat):Int),0,fst,fnd,(n:Int),seats,rows,hold,vain,pool)) ⟨0,fst,fnd,Nat.zero_le _,rfl,rfl⟩ (by show m-_ < _; omega) (by
   rintro x ⟨s,f,b,hs,rfl,hg⟩
   show(∃ s',q96_1 P97 PYb (L96_2 PYb) (r:Int) (r:Int) a2 a3 mi (s:Int) 0 f b (n:Int) seats rows hold vain pool=_∧_)∨∃ y,q96_1 P97 PYb (L96_2 PYb) (r:Int) (r:Int) a2 a3 mi (s:Int) 0 f b (n:Int) seats rows hold vain pool=_∧_
   by_cases hsm:s < m
   ·have hmi':mi=(m:Int):=by omega
    subst hmi'
    rw[Hb hr hl hn hsm (by omega)]
    have hstep:nY seats n (h9 r s (m-s)) (f,b)=cond (yh (gt seats r) s n) (cond (gp (gt seats r) s n) (nY seats n (h9 r (s+1) (m-(s+1))) (cond b f (0,(r:Int),(s:Int),(n:Int)),true)) ((0,(r:Int),(s:Int),(n:Int)),true,true)) (nY seats n (h9 r (s+1) (m-(s+1))) (f,b)):=by
     rw[show m-s=(m-(s+1))+1 by omega]
     rfl
    rw[hstep]at hg
    cases hp:yh (gt seats r) s n with
    | false=>
     rw[hp]at hg
     exact .inl ⟨_,rfl,⟨s+1,f,b,by omega,rfl,hg⟩,by show m-((s+1:Nat):Int).toNat < m-((s:Nat):Int).toNat; simp only[Int.toNat_natCast]; omega⟩
    | true=>
     rw[hp]at hg
     cases hq:gp (gt seats r) s n with
     | true=>
      rw[hq]at hg
      exact .inl ⟨_,rfl,⟨s+1,_,true,by omega,rfl,hg⟩,by show m-((s+1:Nat):Int).toNat < m-((s:Nat):Int).toNat; simp only[Int.toNat_natCast]; omega⟩
     | false=>
      rw[hq]at hg
      refine .inr ⟨_,rfl,?_⟩
      rw[← hg]
      rfl
   ·obtain rfl:s=m:=by omega
    refine .inr ⟨Sum.inr (a2,a3,0,f,b,(n:Int),seats,rows,hold,vain,pool),?_,?_⟩
    ·unfold q96_1
     rw[show decide ((s:Int) < mi)=false from decide_eq_false (by omega),cond_false]
    ·rw[← hg,Nat.sub_self]
     rfl)
 obtain⟨y,h1,h2⟩:=key
 rw[← h2]
 exact h1
def cZ (seats:List (List Int))(n r k:Nat):List (Nat×Nat):=(List.range' r k).flatMap fun r=>h9 r 0 ((gt seats r).length+1-n)
theorem Hd {n:Nat}{fst:bV}{fnd:Bool}{rows vain:List Int}{hold:Int}{seats:List (List Int)}{pool:List eB}(hl:∀ r,r < seats.length→(gt seats r).length≤1000)(hs:seats.length≤1000)(hn:n≤1000):
  zg PYb ((seats.length:Int),0,0,fst,fnd,(n:Int),seats,rows,hold,vain,pool)=some (match nY seats n (cZ seats n 0 seats.length) (fst,fnd)with
   | (f,b,true)=>Sum.inl (1,f,b,(n:Int),seats,rows,hold,vain,pool)
   | (f,b,false)=>Sum.inr (0,f,b,(n:Int),seats,rows,hold,vain,pool)):=by
 have key:=dM (step:=fun x=>KN PYb x.1 x.2.1 x.2.2.1 x.2.2.2.1 x.2.2.2.2.1 x.2.2.2.2.2.1 x.2.2.2.2.2.2.1 x.2.2.2.2.2.2.2.1 x.2.2.2.2.2.2.2.2.1 x.2.2.2.2.2.2.2.2.2.1 x.2.2.2.2.2.2.2.2.2.2)
  (fun x=>seats.length-x.2.1.toNat)
  (fun x=>∃ r f b,r≤seats.length∧x=((seats.length:Int),(r:Int),0,f,b,(n:Int),seats,rows,hold,vain,pool)∧nY seats n (cZ seats n r (seats.length-r)) (f,b)=nY seats n (cZ seats n 0 seats.length) (fst,fnd))
  (fun y=>y=(match nY seats n (cZ seats n 0 seats.length) (fst,fnd)with
   | (f,b,true)=>Sum.inl (1,f,b,(n:Int),seats,rows,hold,vain,pool)
   | (f,b,false)=>Sum.inr (0,f,b,(n:Int),seats,rows,hold,vain,pool)))
  (x:=((seats.length:Int),((0:Nat):Int),0,fst,fnd,(n:Int),seats,rows,hold,vain,pool)) ⟨0,fst,fnd,Nat.zero_le _,rfl,rfl⟩ (by show seats.length-_ < _; omega) (by
   rintro x ⟨r,f,b,hr,rfl,hg⟩
   show(∃ s',rq P97 PYb (uT PYb) (seats.length:Int) (r:Int) 0 f b (n:Int) seats rows hold vain pool=_∧_)∨∃ y,rq P97 PYb (uT PYb) (seats.length:Int) (r:Int) 0 f b (n:Int) seats rows hold vain pool=_∧_
   by_cases hrm:r < seats.length
   ·have hlr:=hl r hrm
    have hstep:cZ seats n r (seats.length-r)=h9 r 0 ((gt seats r).length+1-n)++cZ seats n (r+1) (seats.length-(r+1)):=by
     rw[show seats.length-r=(seats.length-(r+1))+1 by omega]
     rfl
    rw[hstep,tO]at hg
    unfold rq
    rw[aR hrm,cond_true,am (aE hrm),bJ,am (bk (by omega) (by omega)),am (bk (by omega) (by omega)),show(↑((r:Int).toNat):Int)=(r:Int)from rfl,
     Hc hrm hlr hn (m:=(gt seats r).length+1-n) (by omega) (by omega)]
    cases hq:nY seats n (h9 r 0 ((gt seats r).length+1-n)) (f,b)with
    | mk f' y=>
     obtain⟨b',t⟩:=y
     rw[hq]at hg
     cases t with
     | true=>
      refine .inr ⟨_,rfl,?_⟩
      rw[← hg]
     | false=>
      left
      refine⟨((seats.length:Int),((r+1:Nat):Int),0,f',b',(n:Int),seats,rows,hold,vain,pool),?_,⟨r+1,f',b',by omega,rfl,hg⟩,by show seats.length-((r+1:Nat):Int).toNat < seats.length-((r:Nat):Int).toNat; simp only[Int.toNat_natCast]; omega⟩
      simp only[aa,elim_inr]
      rw[am (aM (by omega))]
      rfl
   ·obtain rfl:r=seats.length:=by omega
    refine .inr ⟨Sum.inr (0,f,b,(n:Int),seats,rows,hold,vain,pool),?_,?_⟩
    ·unfold rq
     rw[aZ,cond_false]
    ·rw[← hg,Nat.sub_self]
     rfl)
 obtain⟨y,h1,h2⟩:=key
 rw[← h2]
 exact h1
def nB (seats:List (List Int))(n:Nat):bV×Bool:=((nY seats n (cZ seats n 0 seats.length) ((0,0,0,0),false)).1,(nY seats n (cZ seats n 0 seats.length) ((0,0,0,0),false)).2.1)
theorem yl {n:Nat}{rows vain:List Int}{hold:Int}{seats:List (List Int)}{pool:List eB}(hl:∀ r,r < seats.length→(gt seats r).length≤1000)(hs:seats.length≤1000)(hn:n≤1000):
  qy ((n:Int),rows,hold,seats,vain,pool)=some ((nB seats n).1,(nB seats n).2,rows,hold,seats,vain,pool):=by
 have e:KO PYb (0,(0,0,0,0),false,(n:Int),rows,hold,seats,vain,pool)=some ((match nY seats n (cZ seats n 0 seats.length) ((0,0,0,0),false)with
   | (f,b,true)=>(1,f,b,(n:Int),rows,hold,seats,vain,pool)
   | (f,b,false)=>(0,f,b,(n:Int),rows,hold,seats,vain,pool))):=by
  show q96 P97 PYb (zg PYb) 0 (0,0,0,0) false (n:Int) rows hold seats vain pool=_
  unfold q96
  rw[show(↑(List.length seats):Int)=(seats.length:Int)from rfl,Hd hl hs hn]
  cases nY seats n (cZ seats n 0 seats.length) ((0,0,0,0),false)with
  | mk f y=>obtain⟨b,t⟩:=y; cases t <;> rfl
 unfold qy nB
 rw[e]
 cases nY seats n (cZ seats n 0 seats.length) ((0,0,0,0),false)with
 | mk f y=>obtain⟨b,t⟩:=y; cases t <;> rfl
theorem He (l:List Int)(i:Int):tV (l,i)=some (fr l i):=by
 show q47 l i=_
 unfold q47 fr
 by_cases h1:0≤i
 ·by_cases h2:i < (l.length:Int)
  ·rw[decide_eq_true h1,show decide (i < (↑(List.length l):Int))=true from decide_eq_true h2,cond_true,cond_true,am (Du h1 h2),show wi i 0 ((l.length:Int)-1)=true from du.2 ⟨h1,by omega⟩]
   rfl
  ·have:wi i 0 ((l.length:Int)-1)=false:=by
    cases h:wi i 0 ((l.length:Int)-1)with
    | false=>rfl
    | true=>have:=du.1 h; omega
   rw[decide_eq_true h1,show decide (i < (↑(List.length l):Int))=false from decide_eq_false h2,this]
   rfl
 ·have:wi i 0 ((l.length:Int)-1)=false:=by
   cases h:wi i 0 ((l.length:Int)-1)with
   | false=>rfl
   | true=>have:=du.1 h; omega
  rw[decide_eq_false h1,this]
  rfl
theorem SU {l:List Int}{k:Nat}(h:k < l.length):fr l (k:Int)=decide (gt l k = -1):=by
 unfold fr
 rw[show wi (k:Int) 0 ((l.length:Int)-1)=true from du.2 ⟨by omega,by omega⟩,bJ]
 rfl
def Kg (l:List Int)(s:Int)(n:Nat):Bool:=eA n fun k=>fr l (s+(k:Int))
theorem Hf {l:List Int}{s n:Nat}(h:s+n≤l.length):Kg l (s:Int) n=yh l s n:=
 pE fun k hk=>by rw[show((s:Int)+(k:Int))=((s+k:Nat):Int)by omega,SU (by omega)]
theorem SW (l:List Int){s:Int}{n:Nat}(hs:0≤s)(hs':s≤1000)(hn:n≤1000):P22 (l,s,(n:Int))=some (Kg l s n):=by
 show q22 tV Am l s (n:Int)=_
 unfold q22
 have e:Am (l,s,(n:Int),s)=some (cond (Kg l s n) (Sum.inr ()) (Sum.inl false)):=by
  have:=fB (step:=fun x=>Ny x.1 x.2.1 x.2.2.1 x.2.2.2) n (fun k=>(l,s,(n:Int),s+(k:Int))) (fun k=>fr l (s+(k:Int))) (Sum.inl false) (Sum.inr ()) (fun k hk=>by
   show rR tV l s (n:Int) (s+(k:Int))=_
   unfold rR
   rw[am (bk (by omega) (by omega)),decide_eq_true (show s+(k:Int) < s+(n:Int)by omega),cond_true,He,aa]
   cases fr l (s+(k:Int))with
   | false=>rfl
   | true=>
    rw[Bool.not_true,cond_false,am (bk (by omega) (by omega)),cond_true]
    show some (Sum.inl (l,s,(n:Int),s+(k:Int)+1))=some (Sum.inl (l,s,(n:Int),s+((k+1:Nat):Int)))
    rw[show s+((k+1:Nat):Int)=s+(k:Int)+1 by omega]) (by
   show rR tV l s (n:Int) (s+(n:Int))=_
   unfold rR
   rw[am (bk (by omega) (by omega)),decide_eq_false (by omega),cond_false]) (by omega)
  have h0:s+((0:Nat):Int)=s:=by omega
  simp only[h0]at this
  exact this
 rw[e]
 cases Kg l s n <;> rfl
theorem SX (l:List Int){s n:Int}(hs:0≤s)(hs':s≤1000)(hn:0≤n)(hn':n≤1000):P23 (l,s,n)=some (gp l s n):=by
 show q23 tV l s n=_
 unfold q23 gp
 have f1:ai .i64 (s-1)=true:=bk (by omega) (by omega)
 have f2:ai .i64 (s+n)=true:=bk (by omega) (by omega)
 have f3:ai .i64 (s-1-1)=true:=bk (by omega) (by omega)
 have f4:ai .i64 (s+n+1)=true:=bk (by omega) (by omega)
 simp only[f1,f2,f3,f4,au,He,aa]
 rw[show s-1-1=s-2 by omega]
 cases fr l (s-1) <;> cases fr l (s-2) <;> cases fr l (s+n) <;> cases fr l (s+n+1) <;> rfl
def pB (seats:List (List Int))(n:Nat)(g:Bool)(c:Nat×Nat):Bool:=yh (gt seats c.1) c.2 n&&(g||!gp (gt seats c.1) (c.2:Int) (n:Int))
theorem vW (r s k:Nat):(h9 r s k).length=k:=by simp[h9]
theorem oC {r m i:Nat}(h:i < m):gt (h9 r 0 m) i=(r,i):=by
 simp[gt,h9,List.getD_eq_getElem?_getD,h]
theorem Hg {r n:Nat}{g:Bool}{seats:List (List Int)}(hr:r < seats.length)(hl:(gt seats r).length≤1000)(hn:n≤1000):
  L56_2 ((n:Int),cond g 1 0,(r:Int),0,seats)=some (match(h9 r 0 ((gt seats r).length+1-n)).find? (pB seats n g)with
   | some c=>Sum.inl ((c.1:Int),(c.2:Int),true,seats)
   | none=>Sum.inr ((n:Int),cond g 1 0,(r:Int),seats)):=by
 rcases eK (step:=fun x=>NG x.1 x.2.1 x.2.2.1 x.2.2.2.1 x.2.2.2.2) ((gt seats r).length+1-n) (fun k=>((n:Int),cond g 1 0,(r:Int),(k:Int),seats)) (fun k=>pB seats n g (r,k)) (fun k=>Sum.inl ((r:Int),(k:Int),true,seats)) (Sum.inr ((n:Int),cond g 1 0,(r:Int),seats))
  (fun k hk _=>by
   show rS P22 P23 (n:Int) (cond g 1 0) (r:Int) (k:Int) seats=_
   unfold rS
   rw[am (bk (by omega) (by omega)),am (aE hr),bJ,show decide ((k:Int)+(n:Int)≤(↑(List.length (gt seats r)):Int))=true from decide_eq_true (by omega),cond_true,am (aE hr),SW _ (by omega) (by omega) hn,aa,Hf (by omega)]
   unfold pB
   simp only
   have f3:ai .i64 ((k:Int)+1)=true:=aM (by omega)
   cases yh (gt seats r) k n with
   | false=>simp only[cond_false,Bool.false_and,f3,au]; rfl
   | true=>
    cases g with
    | true=>rfl
    | false=>
     simp only[cond_true,cond_false,Bool.true_and,Bool.false_or]
     rw[show decide ((0:Int)=1)=false from rfl,cond_false,am (aE hr),SX _ (by omega) (by omega) (by omega) (by omega),aa]
     cases gp (gt seats r) (k:Int) (n:Int)with
     | false=>rfl
     | true=>simp only[Bool.not_true,cond_false,f3,au]; rfl)
  (fun _=>by
   show rS P22 P23 (n:Int) (cond g 1 0) (r:Int) (((gt seats r).length+1-n:Nat):Int) seats=_
   unfold rS
   rw[am (bk (by omega) (by omega)),am (aE hr),bJ,show decide ((((gt seats r).length+1-n:Nat):Int)+(n:Int)≤(↑(List.length (gt seats r)):Int))=false from decide_eq_false (by omega),cond_false])
  (by omega)with⟨k,h1,h2,h3,h4⟩ | ⟨h3,h4⟩
 ·rw[It (l:=h9 r 0 ((gt seats r).length+1-n)) (i:=k) (by rw[vW]; exact h1) (by rw[oC h1]; exact h2) (fun j hj=>by rw[oC (by omega)]; exact h3 j hj),oC h1]
  exact h4
 ·rw[Iu (l:=h9 r 0 ((gt seats r).length+1-n)) (fun j hj=>by rw[vW]at hj; rw[oC hj]; exact h3 j hj)]
  exact h4
theorem Hh {n:Nat}{g:Bool}{seats:List (List Int)}(hl:∀ r,r < seats.length→(gt seats r).length≤1000)(hs:seats.length≤1000)(hn:n≤1000):
  An ((n:Int),cond g 1 0,0,seats)=some (match(cZ seats n 0 seats.length).find? (pB seats n g)with
   | some c=>Sum.inl ((c.1:Int),(c.2:Int),true,seats)
   | none=>Sum.inr ((n:Int),cond g 1 0,seats)):=by
 have key:=dM (step:=fun x=>NI x.1 x.2.1 x.2.2.1 x.2.2.2)
  (fun x=>seats.length-x.2.2.1.toNat)
  (fun x=>∃ r,r≤seats.length∧x=((n:Int),cond g 1 0,(r:Int),seats)∧(cZ seats n r (seats.length-r)).find? (pB seats n g)=(cZ seats n 0 seats.length).find? (pB seats n g))
  (fun y=>y=(match(cZ seats n 0 seats.length).find? (pB seats n g)with
   | some c=>Sum.inl ((c.1:Int),(c.2:Int),true,seats)
   | none=>Sum.inr ((n:Int),cond g 1 0,seats)))
  (x:=((n:Int),cond g 1 0,((0:Nat):Int),seats)) ⟨0,Nat.zero_le _,rfl,rfl⟩ (by show seats.length-_ < _; omega) (by
   rintro x ⟨r,hr,rfl,hg⟩
   show(∃ s',q56_1 P22 P23 L56_2 (n:Int) (cond g 1 0) (r:Int) seats=_∧_)∨∃ y,q56_1 P22 P23 L56_2 (n:Int) (cond g 1 0) (r:Int) seats=_∧_
   by_cases hrm:r < seats.length
   ·have hlr:=hl r hrm
    have hstep:cZ seats n r (seats.length-r)=h9 r 0 ((gt seats r).length+1-n)++cZ seats n (r+1) (seats.length-(r+1)):=by
     rw[show seats.length-r=(seats.length-(r+1))+1 by omega]
     rfl
    rw[hstep,List.find?_append]at hg
    unfold q56_1
    rw[show decide ((r:Int) < (↑(List.length seats):Int))=true from aR hrm,cond_true,Hg hrm hlr hn]
    cases hq:(h9 r 0 ((gt seats r).length+1-n)).find? (pB seats n g)with
    | some c=>
     rw[hq]at hg
     refine .inr ⟨_,rfl,?_⟩
     rw[← hg]
     rfl
    | none=>
     rw[hq]at hg
     left
     refine⟨((n:Int),cond g 1 0,((r+1:Nat):Int),seats),?_,⟨r+1,by omega,rfl,by simpa using hg⟩,by show seats.length-((r+1:Nat):Int).toNat < seats.length-((r:Nat):Int).toNat; simp only[Int.toNat_natCast]; omega⟩
     simp only[aa,elim_inr]
     rw[am (aM (by omega))]
     rfl
   ·obtain rfl:r=seats.length:=by omega
    refine .inr ⟨Sum.inr ((n:Int),cond g 1 0,seats),?_,?_⟩
    ·unfold q56_1
     rw[show decide ((seats.length:Int) < (↑(List.length seats):Int))=false from aZ _,cond_false]
    ·rw[← hg,Nat.sub_self]
     rfl)
 obtain⟨y,h1,h2⟩:=key
 rw[← h2]
 exact h1
theorem SY {n:Nat}{seats:List (List Int)}(hl:∀ r,r < seats.length→(gt seats r).length≤1000)(hs:seats.length≤1000)(hn:n≤1000):
  rT ((n:Int),seats)=some (match((cZ seats n 0 seats.length).find? (pB seats n false)).or ((cZ seats n 0 seats.length).find? (pB seats n true))with
   | some c=>((c.1:Int),(c.2:Int),true,seats)
   | none=>(0,0,false,seats)):=by
 show q56 P22 P23 Ap (n:Int) seats=_
 unfold q56
 have e:Ap ((n:Int),0,seats)=some (match((cZ seats n 0 seats.length).find? (pB seats n false)).or ((cZ seats n 0 seats.length).find? (pB seats n true))with
   | some c=>Sum.inl ((c.1:Int),(c.2:Int),true,seats)
   | none=>Sum.inr seats):=by
  have st:∀ g:Bool,vz (n:Int) (cond g 1 0) seats=some (match(cZ seats n 0 seats.length).find? (pB seats n g)with
   | some c=>Sum.inr (Sum.inl ((c.1:Int),(c.2:Int),true,seats))
   | none=>Sum.inl ((n:Int),cond g 2 1,seats)):=fun g=>by
   show Ao P22 P23 An (n:Int) (cond g 1 0) seats=_
   unfold Ao
   rw[show decide ((cond g 1 0:Int) < 2)=true by cases g <;> rfl,cond_true,Hh hl hs hn]
   cases(cZ seats n 0 seats.length).find? (pB seats n g)with
   | some c=>rfl
   | none=>cases g <;> rfl
  cases h1:(cZ seats n 0 seats.length).find? (pB seats n false)with
  | some c=>
   refine aW (step:=fun x=>vz x.1 x.2.1 x.2.2) 0 (fun _=>((n:Int),0,seats)) _ (fun i hi=>by omega) ?_ (by omega)
   have:=st false
   rw[h1]at this
   exact this
  | none=>
   cases h2:(cZ seats n 0 seats.length).find? (pB seats n true)with
   | some c=>
    refine aW (step:=fun x=>vz x.1 x.2.1 x.2.2) 1 (fun i=>((n:Int),(i:Int),seats)) _ (fun i hi=>?_) ?_ (by omega)
    ·obtain rfl:i=0:=by omega
     have:=st false
     rw[h1]at this
     exact this
    ·have:=st true
     rw[h2]at this
     exact this
   | none=>
    refine aW (step:=fun x=>vz x.1 x.2.1 x.2.2) 2 (fun i=>((n:Int),(i:Int),seats)) _ (fun i hi=>?_) ?_ (by omega)
    ·rcases(show i=0∨i=1 by omega)with rfl | rfl
     ·have:=st false
      rw[h1]at this
      exact this
     ·have:=st true
      rw[h2]at this
      exact this
    ·rfl
 rw[e]
 cases((cZ seats n 0 seats.length).find? (pB seats n false)).or ((cZ seats n 0 seats.length).find? (pB seats n true)) <;> rfl
theorem pW (seats:List (List Int))(n:Nat):∀ (cs:List (Nat×Nat)) (f:bV) (b:Bool),nY seats n cs (f,b)=(match cs.find? (pB seats n false)with
  | some c=>((0,(c.1:Int),(c.2:Int),(n:Int)),true,true)
  | none=>match b,cs.find? (pB seats n true)with
   | true,_=>(f,true,false)
   | false,some c=>((0,(c.1:Int),(c.2:Int),(n:Int)),true,false)
   | false,none=>(f,false,false))
 | [],f,b=>by cases b <;> rfl
 | (r,s)::cs,f,b=>by
  simp only[nY,List.find?_cons,pB,Bool.false_or,Bool.true_or,Bool.and_true]
  cases hp:yh (gt seats r) s n with
  | false=>simp only[cond_false,Bool.false_and]; rw[pW seats n cs]
  | true=>
   cases hq:gp (gt seats r) (s:Int) (n:Int)with
   | false=>simp
   | true=>
    simp only[cond_true,Bool.true_and,Bool.not_true]
    rw[pW seats n cs]
    cases cs.find? (pB seats n false)with
    | some c=>rfl
    | none=>cases b <;> rfl
theorem Hi (seats:List (List Int))(n:Nat):nB seats n=(match((cZ seats n 0 seats.length).find? (pB seats n false)).or ((cZ seats n 0 seats.length).find? (pB seats n true))with
  | some c=>((0,(c.1:Int),(c.2:Int),(n:Int)),true)
  | none=>((0,0,0,0),false)):=by
 unfold nB
 rw[pW]
 cases(cZ seats n 0 seats.length).find? (pB seats n false)with
 | some c=>rfl
 | none=>cases(cZ seats n 0 seats.length).find? (pB seats n true) <;> rfl
theorem SZ:P107 ([-1],1)=some (List.replicate 1 (-1)):=by kernel_rfl
theorem S4:P107 ([-1],2)=some (List.replicate 2 (-1)):=by kernel_rfl
theorem S6:P107 ([-1],3)=some (List.replicate 3 (-1)):=by kernel_rfl
theorem S7:P107 ([-1],4)=some (List.replicate 4 (-1)):=by kernel_rfl
theorem S8:P107 ([-1],5)=some (List.replicate 5 (-1)):=by kernel_rfl
theorem S9:P107 ([-1],6)=some (List.replicate 6 (-1)):=by kernel_rfl
theorem Ta:P107 ([-1],7)=some (List.replicate 7 (-1)):=by kernel_rfl
theorem Tb:P107 ([-1],8)=some (List.replicate 8 (-1)):=by kernel_rfl
theorem Tc:P107 ([-1],9)=some (List.replicate 9 (-1)):=by kernel_rfl
theorem Kh:P107 ([-1],10)=some (List.replicate 10 (-1)):=by kernel_rfl
theorem Ki:P107 ([-1],11)=some (List.replicate 11 (-1)):=by kernel_rfl
theorem Kj:P107 ([-1],12)=some (List.replicate 12 (-1)):=by kernel_rfl
theorem Kk {n:Nat}(h1:1≤n)(h2:n≤12):P107 ([-1],(n:Int))=some (List.replicate n (-1)):=by
 have:n=1∨n=2∨n=3∨n=4∨n=5∨n=6∨n=7∨n=8∨n=9∨n=10∨n=11∨n=12:=by omega
 rcases this with rfl | rfl | rfl | rfl | rfl | rfl | rfl | rfl | rfl | rfl | rfl | rfl
 ·exact SZ
 ·exact S4
 ·exact S6
 ·exact S7
 ·exact S8
 ·exact S9
 ·exact Ta
 ·exact Tb
 ·exact Tc
 ·exact Kh
 ·exact Ki
 ·exact Kj
def cA (l:List Int):List (List Int):=l.map fun n=>List.replicate n.toNat (-1)
theorem pX {l:List Int}{k:Nat}(h:k < l.length):cA (l.take (k+1))=cA (l.take k)++[List.replicate (gt l k).toNat (-1)]:=by
 unfold cA
 rw[List.take_add_one,List.getElem?_eq_getElem h,cE h,List.map_append]
 rfl
theorem Td {l:List Int}{hold:Int}(hl:l.length≤1000)(hr:∀ k,k < l.length→1≤gt l k∧gt l k≤12):BG (l,hold)=some (l,hold,cA l,[]):=by
 show q77 P107 uW (l,hold)=_
 unfold q77
 have e:uW (l,(l.length:Int),0,l,hold,[],[])=some (l,hold,[],cA l):=by
  refine aW (step:=fun x=>K1 x.1 x.2.1 x.2.2.1 x.2.2.2.1 x.2.2.2.2.1 x.2.2.2.2.2.1 x.2.2.2.2.2.2) l.length (fun k=>(l,(l.length:Int),(k:Int),l,hold,cA (l.take k),[])) _ (fun k hk=>?_) ?_ (by omega)
  ·show ry P107 l (l.length:Int) (k:Int) l hold (cA (l.take k)) []=_
   unfold ry
   have h:=hr k hk
   have e1:P107 ([-1],ix l (k:Int))=some (List.replicate (gt l k).toNat (-1)):=by
    rw[bJ,show gt l k=(((gt l k).toNat:Nat):Int)by omega]
    exact Kk (by omega) (by omega)
   rw[aR hk,cond_true,am (aE hk),e1,aa,am (cO (by simp[cA]; omega)),am (aM (by omega)),pX hk]
   rfl
  ·show ry P107 l (l.length:Int) (l.length:Int) l hold (cA (l.take l.length)) []=_
   unfold ry
   rw[aZ,cond_false,List.take_length]
 rw[show(↑(List.length ((l,hold):List Int×Int).1):Int)=(l.length:Int)from rfl]
 show(uW (l,(l.length:Int),0,l,hold,[],[])).bind _=_
 rw[e]
 rfl
def jx {α:Type}(f:α→α)(l:List α)(k:Nat):List α:=(l.take k).map f++l.drop k
theorem lX {α:Type}(f:α→α)(l:List α):jx f l 0=l:=by simp[jx]
theorem tP {α:Type}(f:α→α)(l:List α):jx f l l.length=l.map f:=by simp[jx]
theorem prt_len {α:Type}(f:α→α)(l:List α)(k:Nat):(jx f l k).length=l.length:=by simp[jx]; omega
theorem pY {α:Type}[Inhabited α](f:α→α)(l:List α){k i:Nat}(hi:i < l.length):gt (jx f l k) i=if i < k then f (gt l i)else gt l i:=by
 simp only[gt,List.getD_eq_getElem?_getD,jx]
 by_cases h:i < k
 ·rw[if_pos h,List.getElem?_append_left (by simp; omega)]
  simp[List.getElem?_take,h,hi]
 ·rw[if_neg h,List.getElem?_append_right (by simp; omega)]
  simp only[List.length_map,List.length_take,List.getElem?_drop]
  congr 2
  omega
theorem pZ {α:Type}[Inhabited α](f:α→α)(l:List α){k:Nat}(h:k < l.length):jx f l (k+1)=(jx f l k).set k (f (gt l k)):=by
 refine gr (by simp[prt_len]) fun i hi=>?_
 rw[prt_len]at hi
 rw[pY f l hi,dC _ _ _ _ (by rw[prt_len]; exact h),pY f l hi]
 by_cases e:k=i
 ·subst e; rw[if_pos rfl,if_pos (by omega)]
 ·rw[if_neg e]
  by_cases h2:i < k
  ·rw[if_pos h2,if_pos (by omega)]
  ·rw[if_neg h2,if_neg (by omega)]
theorem m8 {α:Type}[Inhabited α](l:List α){k:Nat}(h:k < l.length):l.set k (gt l k)=l:=by
 rw[cE h]; exact List.set_getElem_self h
def j0 (n v:Int):Int:=if v=n then -1 else v
theorem Kl (n:Int)(l:List Int){k:Nat}(h:k < l.length):jx (j0 n) l (k+1)=cond (decide (gt l k=n)) ((jx (j0 n) l k).set k (-1)) (jx (j0 n) l k):=by
 rw[pZ _ _ h]
 unfold j0
 by_cases e:gt l k=n
 ·rw[decide_eq_true e,cond_true,if_pos e]
 ·rw[decide_eq_false e,cond_false,if_neg e]
  have:=m8 (jx (j0 n) l k) (k:=k) (by rw[prt_len]; exact h)
  rw[pY _ _ h,if_neg (by omega)]at this
  exact this
def iW (n:Int)(seats:List (List Int)):List (List Int):=seats.map fun l=>l.map (j0 n)
abbrev nZ:Type:=Int×Int×Int×Int
theorem ym {n st:Int}{r:Nat}{seats:List (List Int)}{pl:List nZ}{sn vn:List Int}(hr:r < seats.length)(hl:(gt seats r).length≤1000):
  lM (n,st,(r:Int),0,seats,pl,sn,vn)=some (n,st,(r:Int),seats.set r ((gt seats r).map (j0 n)),pl,sn,vn):=by
 have hset:∀ x,gt (seats.set r x) r=x:=fun x=>by rw[dC _ _ _ _ hr,if_pos rfl]
 have h0:seats=seats.set r (jx (j0 n) (gt seats r) 0):=by rw[lX,m8 _ hr]
 have hrl:∀ x,r < (seats.set r x).length:=fun x=>by rw[List.length_set]; exact hr
 have key:=aW (step:=fun x=>Av x.1 x.2.1 x.2.2.1 x.2.2.2.1 x.2.2.2.2.1 x.2.2.2.2.2.1 x.2.2.2.2.2.2.1 x.2.2.2.2.2.2.2) (gt seats r).length (fun k=>(n,st,(r:Int),(k:Int),seats.set r (jx (j0 n) (gt seats r) k),pl,sn,vn)) (n,st,(r:Int),seats.set r ((gt seats r).map (j0 n)),pl,sn,vn)
  (fun k hk=>by
   show jP n st (r:Int) (k:Int) (seats.set r (jx (j0 n) (gt seats r) k)) pl sn vn=_
   unfold jP
   have hkl:k < (jx (j0 n) (gt seats r) k).length:=by rw[prt_len]; exact hk
   have f1:ai .i64 ((k:Int)+1)=true:=aM (by omega)
   simp only[bJ,hset,aE (hrl _),aE hkl,au,f1]
   rw[show decide ((k:Int) < (↑(List.length (jx (j0 n) (gt seats r) k)):Int))=true from aR hkl,cond_true,pY _ _ hk,if_neg (Nat.lt_irrefl k),Kl n _ hk]
   cases decide (gt (gt seats r) k=n)with
   | false=>rfl
   | true=>
    rw[cond_true,cond_true,show((r:Int).toNat)=r from rfl,show((k:Int).toNat)=k from rfl,List.set_set]
    rfl)
  (by
   show jP n st (r:Int) ((gt seats r).length:Int) (seats.set r (jx (j0 n) (gt seats r) (gt seats r).length)) pl sn vn=_
   unfold jP
   rw[am (aE (hrl _)),bJ,hset,tP]
   rw[show decide (((gt seats r).length:Int) < (↑(List.length ((gt seats r).map (j0 n))):Int))=false by rw[List.length_map]; exact aZ _,cond_false])
  (by omega)
 simp only[lX,m8 _ hr]at key
 exact key
theorem yn {n st:Int}{seats:List (List Int)}{pl:List nZ}{sn vn:List Int}(hs:seats.length≤1000)(hl:∀ r,r < seats.length→(gt seats r).length≤1000):
  ox (n,st,0,seats,pl,sn,vn)=some (n,st,iW n seats,pl,sn,vn):=by
 have key:=aW (step:=fun x=>Ax x.1 x.2.1 x.2.2.1 x.2.2.2.1 x.2.2.2.2.1 x.2.2.2.2.2.1 x.2.2.2.2.2.2) seats.length (fun k=>(n,st,(k:Int),jx (fun l=>l.map (j0 n)) seats k,pl,sn,vn)) (n,st,iW n seats,pl,sn,vn)
  (fun k hk=>by
   show jQ lM n st (k:Int) (jx (fun l=>l.map (j0 n)) seats k) pl sn vn=_
   unfold jQ
   have hkl:k < (jx (fun l=>l.map (j0 n)) seats k).length:=by rw[prt_len]; exact hk
   have hg:gt (jx (fun l=>l.map (j0 n)) seats k) k=gt seats k:=by rw[pY _ _ hk,if_neg (Nat.lt_irrefl k)]
   rw[show decide ((k:Int) < (↑(List.length (jx (fun l=>l.map (j0 n)) seats k)):Int))=true from aR hkl,cond_true,ym hkl (by rw[hg]; exact hl k hk),aa]
   simp only
   rw[am (aM (by omega)),hg,pZ _ _ hk]
   rfl)
  (by
   show jQ lM n st (seats.length:Int) (jx (fun l=>l.map (j0 n)) seats seats.length) pl sn vn=_
   unfold jQ
   rw[tP,show decide ((seats.length:Int) < (↑(List.length (seats.map fun l=>l.map (j0 n))):Int))=false by rw[List.length_map]; exact aZ _,cond_false]
   rfl)
  (by omega)
 simp only[lX]at key
 exact key
theorem vX {n:Nat}{st:Int}{seats:List (List Int)}{pl:List nZ}{sn vn:List Int}(hs:seats.length≤1000)(hl:∀ r,r < seats.length→(gt seats r).length≤1000)(hn:n < pl.length):
  cn ((n:Int),st,seats,pl,sn,vn)=some (iW (n:Int) seats,pl.set n (st,-1,-1,(gt pl n).2.2.2),sn,vn):=by
 show Ay ox (n:Int) st seats pl sn vn=_
 unfold Ay
 rw[yn hs hl,aa]
 simp only
 rw[am (aE hn),am (aE hn),bJ]
 rfl
def fR (hold minute:Int)(pl:List nZ)(sn:List Int)(i:Nat):Bool:=decide ((gt pl i).1=2)&&decide (gt sn i+hold≤minute)
def lapV (d:Nat→Bool)(k:Nat)(v:Int):Int:=if 0≤v∧v < (k:Int)∧d v.toNat=true then -1 else v
def fV (d:Nat→Bool)(pl:List nZ)(k:Nat):List nZ:=(List.range pl.length).map fun i=>if i < k∧d i=true then(4,-1,-1,(gt pl i).2.2.2)else gt pl i
theorem lapV_zero (d:Nat→Bool)(v:Int):lapV d 0 v=v:=by unfold lapV; rw[if_neg (by omega)]
theorem sa (d:Nat→Bool)(k:Nat)(v:Int):lapV d (k+1) v=cond (d k) (j0 (k:Int) (lapV d k v)) (lapV d k v):=by
 unfold lapV j0
 by_cases h1:0≤v∧v < (k:Int)∧d v.toNat=true
 ·rw[if_pos h1,if_pos ⟨h1.1,by omega,h1.2.2⟩,if_neg (by omega)]
  cases d k <;> rfl
 ·rw[if_neg h1]
  by_cases h2:v=(k:Int)
  ·subst h2
   cases hd:d k with
   | true=>rw[if_pos ⟨by omega,by omega,by simpa using hd⟩,if_pos rfl]; rfl
   | false=>rw[if_neg (by rintro⟨_,_,h⟩; rw[show((k:Int).toNat)=k from rfl,hd]at h; cases h)]; rfl
  ·rw[if_neg (by rintro⟨a,b,c⟩; exact h1 ⟨a,by omega,c⟩),if_neg h2]
   cases d k <;> rfl
def lapS (d:Nat→Bool)(seats:List (List Int))(k:Nat):List (List Int):=seats.map fun l=>l.map (lapV d k)
theorem B5 (d:Nat→Bool)(seats:List (List Int)):lapS d seats 0=seats:=by
 unfold lapS
 rw[show(fun l:List Int=>l.map (lapV d 0))=id from funext fun l=>by rw[show lapV d 0=id from funext (lapV_zero d)]; simp]
 simp
theorem B6 (d:Nat→Bool)(seats:List (List Int))(k:Nat):lapS d seats (k+1)=cond (d k) (iW (k:Int) (lapS d seats k)) (lapS d seats k):=by
 unfold lapS iW
 cases hd:d k with
 | true=>
  rw[cond_true,List.map_map]
  refine List.map_congr_left fun l _=>?_
  simp only[Function.comp,List.map_map]
  refine List.map_congr_left fun v _=>?_
  rw[sa,hd]; rfl
 | false=>
  rw[cond_false]
  refine List.map_congr_left fun l _=>List.map_congr_left fun v _=>?_
  rw[sa,hd]; rfl
theorem lapP_len (d:Nat→Bool)(pl:List nZ)(k:Nat):(fV d pl k).length=pl.length:=by simp[fV]
theorem iI (d:Nat→Bool)(pl:List nZ){k i:Nat}(h:i < pl.length):gt (fV d pl k) i=if i < k∧d i=true then(4,-1,-1,(gt pl i).2.2.2)else gt pl i:=by
 simp only[gt,fV,List.getD_eq_getElem?_getD]
 simp[h]
theorem B7 (d:Nat→Bool)(pl:List nZ):fV d pl 0=pl:=
 gr (lapP_len _ _ _) fun i hi=>by rw[lapP_len]at hi; rw[iI _ _ hi,if_neg (by omega)]
theorem B8 (d:Nat→Bool)(pl:List nZ){k:Nat}(h:k < pl.length):fV d pl (k+1)=cond (d k) ((fV d pl k).set k (4,-1,-1,(gt (fV d pl k) k).2.2.2)) (fV d pl k):=by
 refine gr (by cases d k <;> simp[lapP_len]) fun i hi=>?_
 rw[lapP_len]at hi
 have hg:gt (fV d pl k) k=gt pl k:=by rw[iI _ _ h,if_neg (by omega)]
 rw[iI _ _ hi,hg]
 cases hd:d k with
 | true=>
  rw[cond_true,dC _ _ _ _ (by rw[lapP_len]; exact h),iI _ _ hi]
  by_cases e:k=i
  ·subst e; rw[if_pos rfl,if_pos ⟨by omega,hd⟩]
  ·rw[if_neg e]
   by_cases h2:i < k∧d i=true
   ·rw[if_pos h2,if_pos ⟨by omega,h2.2⟩]
   ·rw[if_neg h2,if_neg (by rintro⟨a,b⟩; exact h2 ⟨by omega,b⟩)]
 | false=>
  rw[cond_false,iI _ _ hi]
  by_cases h2:i < k∧d i=true
  ·rw[if_pos h2,if_pos ⟨by omega,h2.2⟩]
  ·rw[if_neg h2,if_neg (by
    rintro⟨a,b⟩
    have:i≠k:=fun e=>by rw[e,hd]at b; cases b
    exact h2 ⟨by omega,b⟩)]
theorem pO (d:Nat→Bool)(seats:List (List Int))(k:Nat):(lapS d seats k).length=seats.length:=by simp[lapS]
theorem GG (d:Nat→Bool)(seats:List (List Int)){k r:Nat}(h:r < seats.length):gt (lapS d seats k) r=(gt seats r).map (lapV d k):=by
 rw[cE (by rw[pO]; exact h),cE h]
 simp[lapS]
theorem GH {minute hold:Int}{rows:List Int}{seats:List (List Int)}{pl:List nZ}{sn vn:List Int}(hs:seats.length≤1000)(hl:∀ r,r < seats.length→(gt seats r).length≤1000)(hn:sn.length=pl.length)(hp:pl.length≤1000)
  (hh:0≤hold∧hold≤100000) (hsn:∀ i,i < pl.length→0≤gt sn i∧gt sn i≤100000) :
  dR ((rows,hold),minute,seats,pl,sn,vn)=some (lapS (fR hold minute pl sn) seats pl.length,fV (fR hold minute pl sn) pl pl.length,sn,vn):=by
 show AF cn oy (rows,hold) minute seats pl sn vn=_
 unfold AF
 have e:oy (minute,0,(rows,hold),seats,pl,sn,vn)=some ((rows,hold),lapS (fR hold minute pl sn) seats pl.length,fV (fR hold minute pl sn) pl pl.length,sn,vn):=by
  have key:=aW (step:=fun x=>AE x.1 x.2.1 x.2.2.1 x.2.2.2.1 x.2.2.2.2.1 x.2.2.2.2.2.1 x.2.2.2.2.2.2) pl.length (fun k=>(minute,(k:Int),(rows,hold),lapS (fR hold minute pl sn) seats k,fV (fR hold minute pl sn) pl k,sn,vn)) ((rows,hold),lapS (fR hold minute pl sn) seats pl.length,fV (fR hold minute pl sn) pl pl.length,sn,vn)
   (fun k hk=>by
    show jR cn minute (k:Int) (rows,hold) (lapS (fR hold minute pl sn) seats k) (fV (fR hold minute pl sn) pl k) sn vn=_
    unfold jR
    have hkl:k < (fV (fR hold minute pl sn) pl k).length:=by rw[lapP_len]; exact hk
    have hg:gt (fV (fR hold minute pl sn) pl k) k=gt pl k:=by rw[iI _ _ hk,if_neg (by omega)]
    have f1:ai .i64 ((k:Int)+1)=true:=aM (by omega)
    have f2:ai .i64 (gt sn k+hold)=true:=bk (by have:=hsn k hk; omega) (by have:=hsn k hk; omega)
    have hP:=vX (n:=k) (st:=4) (seats:=lapS (fR hold minute pl sn) seats k) (pl:=fV (fR hold minute pl sn) pl k) (sn:=sn) (vn:=vn) (by rw[pO]; exact hs) (fun r hr=>by rw[pO]at hr; rw[GG _ _ hr,List.length_map]; exact hl r hr) hkl
    rw[show decide ((k:Int) < (↑(List.length (fV (fR hold minute pl sn) pl k)):Int))=true from aR hkl,cond_true,am (aE hkl),bJ,hg,B6,B8 _ _ hk]
    have hdd:fR hold minute pl sn k=(decide ((gt pl k).1=2)&&decide (gt sn k+hold≤minute)):=rfl
    rw[hdd]
    cases decide ((gt pl k).1=2)with
    | false=>rw[cond_false,am f1]; rfl
    | true=>
     rw[cond_true,am (aE (by omega)),bJ]
     simp only
     rw[am f2]
     cases decide (gt sn k+hold≤minute)with
     | false=>rw[cond_false,am f1]; rfl
     | true=>rw[cond_true,hP,aa,am f1]; rfl)
   (by
    show jR cn minute (pl.length:Int) (rows,hold) (lapS (fR hold minute pl sn) seats pl.length) (fV (fR hold minute pl sn) pl pl.length) sn vn=_
    unfold jR
    rw[show decide ((pl.length:Int) < (↑(List.length (fV (fR hold minute pl sn) pl pl.length)):Int))=false by rw[lapP_len]; exact aZ _,cond_false])
   (by omega)
  simp only[B5,B7]at key
  exact key
 rw[e]
 rfl
abbrev ib:Type:=Int×Int×Int×Int×Int
theorem jS {α:Type}:∀ (l:List (Int×α)) (k:Int) (x y:α),dL (dL l k x) k y=dL l k y
 | [],k,x,y=>by simp[dL]
 | (k',u)::l,k,x,y=>by
  simp only[dL]
  by_cases h:k'=k
  ·rw[if_pos h,if_pos h]; simp[dL]
  ·rw[if_neg h,if_neg h]
   simp only[dL]
   rw[if_neg h,jS l k x y]
theorem mY {α:Type}(l:List α)(s:Nat)(v:α):cq l s 0 v=l:=by simp[cq]
theorem pP {α:Type}(l:List α){s k:Nat}(v:α)(h:s+k < l.length):(cq l s k v).set (s+k) v=cq l s (k+1) v:=by
 unfold cq
 rw[List.set_append,if_neg (by simp; omega),List.length_take,show s+k-min s l.length=k by omega,List.set_append,if_neg (by simp),List.length_replicate,Nat.sub_self,List.drop_eq_getElem_cons (show s+k < l.length from h)]
 simp only[List.set_cons_zero]
 rw[List.replicate_succ',List.append_assoc]
 rfl
theorem clrL_len' {α:Type}(l:List α)(s k:Nat)(v:α)(h:s+k≤l.length):(cq l s k v).length=l.length:=by
 unfold cq; simp; omega
theorem B9 {n st:Int}{st0 since:Int}{row seat sz:Nat}{rows vain:List Int}{hold:Int}{seats:List (List Int)}{pool:List eB}(ho:aP pool n=some (st0,(row:Int),(seat:Int),(sz:Int),since))
  (hr:row < seats.length) (hs:seat+sz≤(gt seats row).length) (hl:(gt seats row).length≤1000) :
  tq (n,st,(sz:Int),0,rows,hold,pool,seats,vain)=some (n,st,rows,hold,pool,seats.set row (cq (gt seats row) seat sz (-1)),vain):=by
 have hset:∀ x,gt (seats.set row x) row=x:=fun x=>by rw[dC _ _ _ _ hr,if_pos rfl]
 have hrl:∀ x,row < (seats.set row x).length:=fun x=>by rw[List.length_set]; exact hr
 have key:=aW (step:=fun x=>Fl x.1 x.2.1 x.2.2.1 x.2.2.2.1 x.2.2.2.2.1 x.2.2.2.2.2.1 x.2.2.2.2.2.2.1 x.2.2.2.2.2.2.2.1 x.2.2.2.2.2.2.2.2) sz (fun k=>(n,st,(sz:Int),(k:Int),rows,hold,pool,seats.set row (cq (gt seats row) seat k (-1)),vain)) (n,st,rows,hold,pool,seats.set row (cq (gt seats row) seat sz (-1)),vain)
  (fun k hk=>by
   show mQ n st (sz:Int) (k:Int) rows hold pool (seats.set row (cq (gt seats row) seat k (-1))) vain=_
   unfold mQ
   try unfold GB
   try unfold GA
   try unfold Cv
   try unfold Cu
   try unfold x7
   try unfold pd
   have hcl:(cq (gt seats row) seat k (-1)).length=(gt seats row).length:=clrL_len' _ _ _ _ (by omega)
   have e1:(wC (aP pool n) (0,(0,(0,(0,0))))).2.1=(row:Int):=by rw[ho]; rfl
   have e2:(wC (aP pool n) (0,(0,(0,(0,0))))).2.2.1=(seat:Int):=by rw[ho]; rfl
   rw[aR hk,cond_true,e1,e2,am (aE (hrl _)),am (bk (by omega) (by omega)),bJ,hset,show((seat:Int)+(k:Int))=((seat+k:Nat):Int)by omega,am (aE (by rw[hcl]; omega)),am (aM (by omega)),show((row:Int).toNat)=row from rfl,show(((seat+k:Nat):Int).toNat)=seat+k from rfl,pP _ _ (by omega),List.set_set]
   rfl)
  (by
   show mQ n st (sz:Int) (sz:Int) rows hold pool (seats.set row (cq (gt seats row) seat sz (-1))) vain=_
   unfold mQ
   try unfold GB
   try unfold GA
   try unfold Cv
   try unfold Cu
   try unfold x7
   try unfold pd
   rw[aZ,cond_false])
  (by omega)
 simp only[mY,m8 _ hr]at key
 exact key
theorem AO {n st:Int}{st0 since:Int}{row seat sz:Nat}{rows vain:List Int}{hold:Int}{seats:List (List Int)}{pool:List eB}(ho:aP pool n=some (st0,(row:Int),(seat:Int),(sz:Int),since))
  (hr:row < seats.length) (hs:seat+sz≤(gt seats row).length) (hl:(gt seats row).length≤1000) :
  P111 (n,st,rows,hold,pool,seats,vain)=some (rows,hold,dL pool n (st,-1,-1,(sz:Int),since),seats.set row (cq (gt seats row) seat sz (-1)),vain):=by
 show I2 tq n st rows hold pool seats vain=_
 unfold I2
 try unfold GB
 try unfold GA
 try unfold Cv
 try unfold Cu
 try unfold x7
 try unfold pd
 have e:(wC (aP pool n) (0,(0,(0,(0,0))))).2.2.2.1=(sz:Int):=by rw[ho]; rfl
 rw[e,B9 ho hr hs hl,aa]
 simp only[el,if_true,ho,jS]
 rfl
theorem AP {α:Type}[Inhabited α](l:List α){s k i:Nat}(v:α)(h:s+k≤l.length)(hi:i < l.length):gt (cq l s k v) i=if s≤i∧i < s+k then v else gt l i:=by
 simp only[gt,cq,List.getD_eq_getElem?_getD,List.getElem?_append,List.length_take,List.length_replicate,List.getElem?_replicate]
 by_cases h1:i < s
 ·rw[if_pos (by omega),if_neg (by omega)]
  simp[List.getElem?_take,h1]
 ·rw[if_neg (by omega),show min s l.length=s by omega]
  by_cases h2:i < s+k
  ·rw[if_pos (by omega),if_pos (by omega),if_pos (by omega)]; rfl
  ·rw[if_neg (by omega),if_neg (by omega),List.getElem?_drop]
   congr 2
   omega
def Owns (seats:List (List Int))(n:Int)(R S Z:Nat):Prop:=
 R < seats.length∧S+Z≤(gt seats R).length∧∀ r i,r < seats.length→i < (gt seats r).length→(gt (gt seats r) i=n↔r=R∧S≤i∧i < S+Z)
theorem clrV_len (n:Int)(seats:List (List Int)):(iW n seats).length=seats.length:=by simp[iW]
theorem ju (n:Int)(seats:List (List Int)){r:Nat}(h:r < seats.length):gt (iW n seats) r=(gt seats r).map (j0 n):=by
 rw[cE (by rw[clrV_len]; exact h),cE h]
 simp[iW]
theorem pQ (f:Int→Int)(l:List Int){i:Nat}(h:i < l.length):gt (l.map f) i=f (gt l i):=by
 rw[cE (by rw[List.length_map]; exact h),cE h]
 simp
theorem GI {seats:List (List Int)}{n:Int}{R S Z:Nat}(h:Owns seats n R S Z):seats.set R (cq (gt seats R) S Z (-1))=iW n seats:=by
 obtain⟨h1,h2,h3⟩:=h
 refine gr (by rw[List.length_set,clrV_len]) fun r hr=>?_
 rw[List.length_set]at hr
 rw[dC _ _ _ _ h1,ju n seats hr]
 by_cases e:R=r
 ·subst e
  rw[if_pos rfl]
  refine gr (by rw[clrL_len' _ _ _ _ h2,List.length_map]) fun i hi=>?_
  rw[clrL_len' _ _ _ _ h2]at hi
  rw[AP _ _ h2 hi,pQ _ _ hi]
  unfold j0
  have:=h3 R i hr hi
  by_cases hc:S≤i∧i < S+Z
  ·rw[if_pos hc,if_pos (this.2 ⟨rfl,hc⟩)]
  ·rw[if_neg hc,if_neg fun he=>hc (this.1 he).2]
 ·rw[if_neg e]
  refine gr (by rw[List.length_map]) fun i hi=>?_
  rw[pQ _ _ hi]
  unfold j0
  rw[if_neg fun he=>e ((h3 r i hr hi).1 he).1.symm]
theorem Owns.clr {seats:List (List Int)}{n m:Int}{R S Z:Nat}(h:Owns seats n R S Z)(hne:n≠m)(hn:n ≠ -1):Owns (iW m seats) n R S Z:=by
 obtain⟨h1,h2,h3⟩:=h
 refine⟨by rw[clrV_len]; exact h1,by rw[ju m seats h1,List.length_map]; exact h2,fun r i hr hi=>?_⟩
 rw[clrV_len]at hr
 rw[ju m seats hr,List.length_map]at hi
 rw[ju m seats hr,pQ _ _ hi,← h3 r i hr hi]
 unfold j0
 by_cases e:gt (gt seats r) i=m
 ·rw[if_pos e]
  constructor
  ·intro he; exact absurd he.symm hn
  ·intro he; exact absurd (he.symm.trans e) hne
 ·rw[if_neg e]
structure Inv (seats:List (List Int)) (pool:List eB):Prop where
 rows:∀ r,r < seats.length→(gt seats r).length≤1000
 own:∀ n o,aP pool n=some o→(o.1=2∨o.1=3)→n ≠ -1∧∃ R S Z:Nat,o.2.1=(R:Int)∧o.2.2.1=(S:Int)∧o.2.2.2.1=(Z:Int)∧Owns seats n R S Z
 since:∀ n o,aP pool n=some o→0≤o.2.2.2.2∧o.2.2.2.2≤100000
def gy (hold minute:Int)(o:ib):Bool:=decide (o.1=2)&&decide (o.2.2.2.2+hold≤minute)
def jv (o:ib):ib:=(4,-1,-1,o.2.2.2.1,o.2.2.2.2)
theorem Inv.step {seats:List (List Int)}{pool:List eB}(h:Inv seats pool){e:Int}{o:ib}(he:aP pool e=some o)(o':ib)(h1:o'.1≠2)(h2:o'.1≠3)(h3:o'.2.2.2.2=o.2.2.2.2):Inv (iW e seats) (dL pool e o'):=by
 refine⟨fun r hr=>?_,fun n q hq hs=>?_,fun n q hq=>?_⟩
 ·rw[clrV_len]at hr; rw[ju e seats hr,List.length_map]; exact h.rows r hr
 ·rw[el]at hq
  by_cases hne:e=n
  ·rw[if_pos hne]at hq; cases hq; rcases hs with hs | hs
   ·exact absurd hs h1
   ·exact absurd hs h2
  ·rw[if_neg hne]at hq
   obtain⟨g1,R,S,Z,g2,g3,g4,g5⟩:=h.own n q hq hs
   exact⟨g1,R,S,Z,g2,g3,g4,g5.clr (Ne.symm hne) g1⟩
 ·rw[el]at hq
  by_cases hne:e=n
  ·rw[if_pos hne]at hq; cases hq; rw[h3]; exact h.since e o he
  ·rw[if_neg hne]at hq; exact h.since n q hq
theorem GJ {minute hold:Int}{rows vain:List Int}{seats:List (List Int)}{pool:List eB}(h:Inv seats pool)(hh:0≤hold∧hold≤100000){e:Int}{o:ib}(he:aP pool e=some o):
  rz minute rows hold seats vain pool e=some (cond (gy hold minute o) (minute,rows,hold,iW e seats,vain,dL pool e (jv o)) (minute,rows,hold,seats,vain,pool)):=by
 show zL P111 minute rows hold seats vain pool e=_
 unfold zL gy
 try unfold GB
 try unfold GA
 try unfold Cv
 try unfold Cu
 try unfold x7
 try unfold pd
 have hs:=h.since e o he
 have d1:(wC (aP pool e) (0,(0,(0,(0,0)))))=o:=by rw[he]; rfl
 rw[d1]
 cases hd:decide (o.1=2)with
 | false=>rfl
 | true=>
  rw[cond_true,am (bk (by omega) (by omega)),Bool.true_and]
  cases decide (o.2.2.2.2+hold≤minute)with
  | false=>rfl
  | true=>
   obtain⟨g1,R,S,Z,g2,g3,g4,g5⟩:=h.own e o he (.inl (of_decide_eq_true hd))
   have heo:aP pool e=some (o.1,(R:Int),(S:Int),(Z:Int),o.2.2.2.2):=by rw[he,← g2,← g3,← g4]
   rw[cond_true,AO heo g5.1 g5.2.1 (h.rows R g5.1),GI g5,aa]
   unfold jv
   rw[g4]
   rfl
def fS (d:Int→Bool)(q:List Int)(seats:List (List Int)):List (List Int):=seats.map fun l=>l.map fun v=>if v∈q∧d v=true then -1 else v
def dE (d:Int→Bool)(q:List Int)(pool:List eB):List eB:=pool.map fun x=>(x.1,if x.1∈q∧d x.1=true then jv x.2 else x.2)
theorem Ca (d:Int→Bool)(q:List Int)(e:Int)(seats:List (List Int))(h1:e ≠ -1):fS d (q++[e]) seats=cond (d e) (iW e (fS d q seats)) (fS d q seats):=by
 unfold fS iW
 cases hd:d e with
 | true=>
  rw[cond_true,List.map_map]
  refine List.map_congr_left fun l _=>?_
  simp only[Function.comp,List.map_map]
  refine List.map_congr_left fun v _=>?_
  simp only[Function.comp,j0]
  by_cases hq:v∈q∧d v=true
  ·rw[if_pos hq,if_pos ⟨List.mem_append_left _ hq.1,hq.2⟩,if_neg (Ne.symm h1)]
  ·rw[if_neg hq]
   by_cases hv:v=e
   ·rw[if_pos hv,if_pos ⟨by rw[hv]; simp,by rw[hv]; exact hd⟩]
   ·rw[if_neg hv,if_neg]
    rintro⟨a,b⟩
    rcases List.mem_append.1 a with a | a
    ·exact hq ⟨a,b⟩
    ·exact hv (by simpa using a)
 | false=>
  rw[cond_false]
  refine List.map_congr_left fun l _=>List.map_congr_left fun v _=>?_
  by_cases hq:v∈q∧d v=true
  ·rw[if_pos hq,if_pos ⟨List.mem_append_left _ hq.1,hq.2⟩]
  ·rw[if_neg hq,if_neg]
   rintro⟨a,b⟩
   rcases List.mem_append.1 a with a | a
   ·exact hq ⟨a,b⟩
   ·rw[List.mem_singleton.1 a,hd]at b; cases b
theorem jT (d:Int→Bool)(q:List Int):∀ (pool:List eB) (n:Int),aP (dE d q pool) n=(aP pool n).map fun o=>if n∈q∧d n=true then jv o else o
 | [],n=>rfl
 | (k,o)::l,n=>by
  show aP ((k,if k∈q∧d k=true then jv o else o)::dE d q l) n=_
  rw[aV,aV]
  by_cases h:k=n
  ·subst h; rw[if_pos rfl,if_pos rfl]; rfl
  ·rw[if_neg h,if_neg h]; exact jT d q l n
theorem sc (d:Int→Bool)(q:List Int)(e:Int):∀ (pool:List eB) (o:ib),(pool.map (·.1)).Nodup→aP pool e=some o→e∉q→dE d (q++[e]) pool=cond (d e) (dL (dE d q pool) e (jv o)) (dE d q pool)
 | [],o,_,h,_=>by cases h
 | (k,u)::l,o,hn,h,hq=>by
  rw[aV]at h
  have hn1:k∉l.map (·.1)∧(l.map (·.1)).Nodup:=by simpa using hn
  show(k,if k∈q++[e]∧d k=true then jv u else u)::dE d (q++[e]) l=cond (d e) (dL ((k,if k∈q∧d k=true then jv u else u)::dE d q l) e (jv o)) ((k,if k∈q∧d k=true then jv u else u)::dE d q l)
  by_cases hk:k=e
  ·subst hk
   rw[if_pos rfl]at h
   cases h
   have hrest:dE d (q++[k]) l=dE d q l:=by
    unfold dE
    refine List.map_congr_left fun x hx=>?_
    have hne:x.1≠k:=fun e=>hn1.1 (by rw[← e]; exact List.mem_map_of_mem hx)
    by_cases c:x.1∈q∧d x.1=true
    ·rw[if_pos c,if_pos ⟨List.mem_append_left _ c.1,c.2⟩]
    ·rw[if_neg c,if_neg]
     rintro⟨a,b⟩
     rcases List.mem_append.1 a with a | a
     ·exact c ⟨a,b⟩
     ·exact hne (by simpa using a)
   rw[hrest]
   simp only[dL,if_true]
   cases hd:d k with
   | true=>simp
   | false=>simp
  ·rw[if_neg hk]at h
   have ih:=sc d q e l o hn1.2 h hq
   have hkk:(k∈q++[e]∧d k=true)↔(k∈q∧d k=true):=by
    simp[hk]
   rw[ih]
   simp only[dL,hkk]
   rw[if_neg hk]
   cases d e <;> rfl
def cH (hold minute:Int)(pool:List eB)(n:Int):Bool:=match aP pool n with
 | some o=>gy hold minute o
 | none=>false
theorem x9 {minute hold:Int}{rows vain:List Int}{seats:List (List Int)}{pool:List eB}(hh:0≤hold∧hold≤100000)(hn:(pool.map (·.1)).Nodup)(hm:∀ n o,aP pool n=some o→n ≠ -1):
  ∀ (p q:List Int),(q++p).Nodup→(∀ n∈p,∃ o,aP pool n=some o)→Inv (fS (cH hold minute pool) q seats) (dE (cH hold minute pool) q pool) →
  fh (fun(x:Int×(List Int)×Int×(List (List Int))×(List Int)×(List eB)) e=>rz x.1 x.2.1 x.2.2.1 x.2.2.2.1 x.2.2.2.2.1 x.2.2.2.2.2 e) p (minute,rows,hold,fS (cH hold minute pool) q seats,vain,dE (cH hold minute pool) q pool) =
   some (minute,rows,hold,fS (cH hold minute pool) (q++p) seats,vain,dE (cH hold minute pool) (q++p) pool)∧Inv (fS (cH hold minute pool) (q++p) seats) (dE (cH hold minute pool) (q++p) pool)
 | [],q,_,_,hI=>by rw[List.append_nil]; exact⟨rfl,hI⟩
 | e::p,q,hq,hp,hI=>by
  obtain⟨o,ho⟩:=hp e (by simp)
  have heq:e∉q:=fun h=>by
   have:=List.nodup_append.1 hq
   exact this.2.2 e h e (by simp) rfl
  have hg:aP (dE (cH hold minute pool) q pool) e=some o:=by
   rw[jT,ho]
   show some (if e∈q∧_ then _ else _)=_
   rw[if_neg fun h=>heq h.1]
  have hde:cH hold minute pool e=gy hold minute o:=by unfold cH; rw[ho]
  have hsA:=Ca (cH hold minute pool) q e seats (hm e o ho)
  have hsL:=sc (cH hold minute pool) q e pool o hn ho heq
  have hstep:rz minute rows hold (fS (cH hold minute pool) q seats) vain (dE (cH hold minute pool) q pool) e=some (minute,rows,hold,fS (cH hold minute pool) (q++[e]) seats,vain,dE (cH hold minute pool) (q++[e]) pool):=by
   rw[GJ hI hh hg,hsA,hsL,hde]
   cases gy hold minute o <;> rfl
  have hI':Inv (fS (cH hold minute pool) (q++[e]) seats) (dE (cH hold minute pool) (q++[e]) pool):=by
   rw[hsA,hsL]
   cases cH hold minute pool e with
   | false=>exact hI
   | true=>exact hI.step hg (jv o) (by show(4:Int)≠2; omega) (by show(4:Int)≠3; omega) rfl
  have ih:=x9 (rows:=rows) (vain:=vain) hh hn hm p (q++[e]) (by rw[List.append_assoc]; exact hq) (fun n hn'=>hp n (List.mem_cons_of_mem _ hn')) hI'
  rw[List.append_assoc]at ih
  refine⟨?_,ih.2⟩
  show(rz minute rows hold (fS (cH hold minute pool) q seats) vain (dE (cH hold minute pool) q pool) e).bind _=_
  rw[hstep,aa]
  exact ih.1
theorem Cb (d:Int→Bool){p q:List Int}(h:p.Perm q)(seats:List (List Int)):fS d p seats=fS d q seats:=
 List.map_congr_left fun l _=>List.map_congr_left fun v _=>by simp only[h.mem_iff]
theorem Cc (d:Int→Bool){p q:List Int}(h:p.Perm q)(pool:List eB):dE d p pool=dE d q pool:=
 List.map_congr_left fun x _=>by simp only[h.mem_iff]
theorem vK (d:Int→Bool)(seats:List (List Int)):fS d [] seats=seats:=by
 unfold fS
 simp
theorem vL (d:Int→Bool)(pool:List eB):dE d [] pool=pool:=by
 unfold dE
 simp
theorem AQ {pool:List eB}{n:Int}(h:n∈pool.map (·.1)):∃ o,aP pool n=some o:=by
 cases hc:aP pool n with
 | some o=>exact⟨o,rfl⟩
 | none=>exact absurd h (jJ hc)
theorem Sr {minute hold:Int}{rows vain:List Int}{seats:List (List Int)}{pool:List eB}(hI:Inv seats pool)(hh:0≤hold∧hold≤100000)(hn:(pool.map (·.1)).Nodup)(hm:∀ n o,aP pool n=some o→n ≠ -1):
  P83 (minute,rows,hold,seats,vain,pool)=some (rows,hold,fS (cH hold minute pool) (pool.map (·.1)) seats,vain,dE (cH hold minute pool) (pool.map (·.1)) pool) ∧
  Inv (fS (cH hold minute pool) (pool.map (·.1)) seats) (dE (cH hold minute pool) (pool.map (·.1)) pool):=by
 have hI0:Inv (fS (cH hold minute pool) [] seats) (dE (cH hold minute pool) [] pool):=by rw[vK,vL]; exact hI
 have key:∀ p:List Int,p.Perm (pool.map (·.1))→fh (fun(x:Int×(List Int)×Int×(List (List Int))×(List Int)×(List eB)) e=>rz x.1 x.2.1 x.2.2.1 x.2.2.2.1 x.2.2.2.2.1 x.2.2.2.2.2 e) p (minute,rows,hold,seats,vain,pool) =
   some (minute,rows,hold,fS (cH hold minute pool) (pool.map (·.1)) seats,vain,dE (cH hold minute pool) (pool.map (·.1)) pool):=fun p hp=>by
  have:=(x9 (minute:=minute) (rows:=rows) (vain:=vain) (seats:=seats) hh hn hm p [] (by simpa using hp.nodup_iff.2 hn) (fun n hn'=>AQ (hp.mem_iff.1 hn')) hI0).1
  rw[vK,vL,List.nil_append,Cb _ hp,Cc _ hp]at this
  exact this
 have hfin:=(x9 (minute:=minute) (rows:=rows) (vain:=vain) (seats:=seats) hh hn hm (pool.map (·.1)) [] (by simpa using hn) (fun n hn'=>AQ hn') hI0).2
 rw[List.nil_append]at hfin
 refine⟨?_,hfin⟩
 show q83 P111 zM minute rows hold seats vain pool=_
 unfold q83
 have e:zM (pool.map (·.1)) (minute,rows,hold,seats,vain,pool)=some (minute,rows,hold,fS (cH hold minute pool) (pool.map (·.1)) seats,vain,dE (cH hold minute pool) (pool.map (·.1)) pool):=by
  show rngF _ _ _=_
  unfold rngF
  rw[if_pos fun p hp=>(key p hp).trans (key _ (List.Perm.refl _)).symm]
  exact key _ (List.Perm.refl _)
 rw[e]
 rfl
def qz (pool:List eB)(n:Int):List eB:=if(aP pool n).isSome=true then pool else pool++[(n,(0,-1,-1,0,0))]
theorem pR (n:Int)(rows vain:List Int)(hold:Int)(seats:List (List Int))(pool:List eB):nN (n,rows,hold,seats,vain,pool)=some (n,rows,hold,seats,vain,qz pool n):=by
 show q43 n rows hold seats vain pool=_
 unfold q43 qz
 cases hc:(aP pool n).isSome with
 | true=>rfl
 | false=>rfl
theorem GK (a0:Int)(h:List Int×Int)(l:List Int)(acc:List (List Int))(hl:l.length≤1000):rO (a0,0,h,l,acc)=some (a0,h,l.map (fun _=>-1),acc):=by
 have key:=aW (step:=fun x=>Nh x.1 x.2.1 x.2.2.1 x.2.2.2.1 x.2.2.2.2) l.length (fun k=>(a0,(k:Int),h,jx (fun _=>(-1:Int)) l k,acc)) (a0,h,l.map (fun _=>(-1:Int)),acc)
  (fun k hk=>by
   show rN a0 (k:Int) h (jx (fun _=>(-1:Int)) l k) acc=_
   unfold rN
   have hkl:k < (jx (fun _=>(-1:Int)) l k).length:=by rw[prt_len]; exact hk
   rw[show decide ((k:Int) < (↑(List.length (jx (fun _=>(-1:Int)) l k)):Int))=true from aR hkl,cond_true,am (aE hkl),am (aM (by omega)),pZ _ _ hk]
   rfl)
  (by
   show rN a0 (l.length:Int) h (jx (fun _=>(-1:Int)) l l.length) acc=_
   unfold rN
   rw[tP,show decide ((l.length:Int) < (↑(List.length (l.map fun _=>(-1:Int))):Int))=false by rw[List.length_map]; exact aZ _,cond_false])
  (by omega)
 simp only[lX]at key
 exact key
theorem GL (l:List Int)(hold:Int)(hl:l.length≤1000)(hr:∀ k,k < l.length→1≤gt l k∧gt l k≤12):Ai (0,(l,hold),[])=some ((l,hold),cA l):=by
 have key:=aW (step:=fun x=>Nj x.1 x.2.1 x.2.2) l.length (fun k=>((k:Int),(l,hold),cA (l.take k))) ((l,hold),cA l)
  (fun k hk=>by
   show rP rO (k:Int) (l,hold) (cA (l.take k))=_
   unfold rP
   have h:=hr k hk
   have e:rO ((k:Int),0,(l,hold),gF (gt l k).toNat 0,cA (l.take k))=some ((k:Int),(l,hold),List.replicate (gt l k).toNat (-1),cA (l.take k)):=by
    rw[GK _ _ _ _ (by simp[gF]; omega)]
    simp[gF]
   rw[show decide ((k:Int) < (↑(List.length ((l,hold):List Int×Int).1):Int))=true from aR hk,cond_true,show List.length ((l,hold):List Int×Int).1=l.length from rfl,am (aE hk)]
   simp only[bJ]
   rw[am (decide_eq_true (by omega)),am (decide_eq_true (by omega)),e,aa]
   simp only
   rw[am (cO (by simp[cA]; omega)),am (aM (by omega)),pX hk]
   rfl)
  (by
   show rP rO (l.length:Int) (l,hold) (cA (l.take l.length))=_
   unfold rP
   rw[show decide ((l.length:Int) < (↑(List.length ((l,hold):List Int×Int).1):Int))=false from aZ _,cond_false,List.take_length])
  (by omega)
 exact key
theorem GM (s:List (List Int)):Ak (0,s,[],[])=some (s,List.replicate 100 (0,-1,-1,0),List.replicate 100 0):=by
 have key:=aW (step:=fun x=>Nl x.1 x.2.1 x.2.2.1 x.2.2.2) 100 (fun k=>((k:Int),s,List.replicate k ((0:Int),(-1:Int),(-1:Int),(0:Int)),List.replicate k (0:Int))) (s,List.replicate 100 (0,-1,-1,0),List.replicate 100 0)
  (fun k hk=>by
   show Aj (k:Int) s (List.replicate k (0,-1,-1,0)) (List.replicate k 0)=_
   unfold Aj
   rw[decide_eq_true (show(k:Int)≤99 by omega),cond_true,am (cO (by simp; omega)),am (cO (by simp; omega)),am (aM (by omega)),List.replicate_succ',List.replicate_succ']
   rfl)
  (by rfl)
  (by omega)
 exact key
theorem Ss (l:List Int)(hold:Int)(hl:l.length≤1000)(hr:∀ k,k < l.length→1≤gt l k∧gt l k≤12):tv (l,hold)=some (cA l,List.replicate 100 (0,-1,-1,0),List.replicate 100 0):=by
 show q70 Ai Ak (l,hold)=_
 unfold q70
 rw[GL l hold hl hr,aa]
 simp only
 rw[GM]
 rfl
theorem Cd {n:Int}{s0 z0:Int}{row seat sz:Nat}{rows vain:List Int}{hold:Int}{seats:List (List Int)}{pool:List eB}
  (hr:row < seats.length) (hs:seat+sz≤(gt seats row).length) (hl:(gt seats row).length≤1000) :
  mS (n,(sz:Int),0,rows,hold,(s0,(row:Int),(seat:Int),z0),seats,vain,pool)=some (rows,hold,(s0,(row:Int),(seat:Int),z0),seats.set row (cq (gt seats row) seat sz n),vain,pool):=by
 have hset:∀ x,gt (seats.set row x) row=x:=fun x=>by rw[dC _ _ _ _ hr,if_pos rfl]
 have hrl:∀ x,row < (seats.set row x).length:=fun x=>by rw[List.length_set]; exact hr
 have key:=aW (step:=fun x=>Fq x.1 x.2.1 x.2.2.1 x.2.2.2.1 x.2.2.2.2.1 x.2.2.2.2.2.1 x.2.2.2.2.2.2.1 x.2.2.2.2.2.2.2.1 x.2.2.2.2.2.2.2.2) sz (fun k=>(n,(sz:Int),(k:Int),rows,hold,(s0,(row:Int),(seat:Int),z0),seats.set row (cq (gt seats row) seat k n),vain,pool)) (rows,hold,(s0,(row:Int),(seat:Int),z0),seats.set row (cq (gt seats row) seat sz n),vain,pool)
  (fun k hk=>by
   show mR nN qy n (sz:Int) (k:Int) rows hold (s0,(row:Int),(seat:Int),z0) (seats.set row (cq (gt seats row) seat k n)) vain pool=_
   unfold mR
   have hcl:(cq (gt seats row) seat k n).length=(gt seats row).length:=clrL_len' _ _ _ _ (by omega)
   rw[aR hk,cond_true]
   simp only
   rw[am (aE (hrl _)),am (bk (by omega) (by omega)),bJ,hset,show((seat:Int)+(k:Int))=((seat+k:Nat):Int)by omega,am (aE (by rw[hcl]; omega)),am (aM (by omega)),show((row:Int).toNat)=row from rfl,show(((seat+k:Nat):Int).toNat)=seat+k from rfl,pP _ _ (by omega),List.set_set]
   rfl)
  (by
   show mR nN qy n (sz:Int) (sz:Int) rows hold (s0,(row:Int),(seat:Int),z0) (seats.set row (cq (gt seats row) seat sz n)) vain pool=_
   unfold mR
   rw[aZ,cond_false])
  (by omega)
 simp only[mY,m8 _ hr]at key
 exact key
theorem GN {n minute hold:Int}{sz:Nat}{rows vain:List Int}{seats:List (List Int)}{pool:List eB}{o:ib}(ho:aP (qz pool n) n=some o)(h:o.1≠0):
  qq (n,(sz:Int),minute,rows,hold,seats,vain,pool)=some (rows,hold,seats,vain,qz pool n):=by
 show vd nN qy mS n (sz:Int) minute rows hold seats vain pool=_
 unfold vd
 try unfold GB
 try unfold GA
 try unfold Cv
 try unfold Cu
 try unfold x7
 try unfold pd
 rw[pR,aa]
 simp only[ho]
 rw[show decide ((wC (some o) ((0:Int),((0:Int),((0:Int),((0:Int),(0:Int)))))).1=0)=false from decide_eq_false h]
 rfl
theorem J6 {n minute hold:Int}{sz:Nat}{rows vain:List Int}{seats:List (List Int)}{pool:List eB}{o:ib}(ho:aP (qz pool n) n=some o)(h:o.1=0)
  (hl:∀ r,r < seats.length→(gt seats r).length≤1000) (hs:seats.length≤1000) (hn:sz≤1000) (hb:(nB seats sz).2=false) :
  qq (n,(sz:Int),minute,rows,hold,seats,vain,pool)=some (rows,hold,seats,vain,dL (qz pool n) n (1,o.2.1,o.2.2.1,(sz:Int),minute)):=by
 show vd nN qy mS n (sz:Int) minute rows hold seats vain pool=_
 unfold vd
 try unfold GB
 try unfold GA
 try unfold Cv
 try unfold Cu
 try unfold x7
 try unfold pd
 rw[pR,aa]
 simp only[ho]
 rw[show decide ((wC (some o) ((0:Int),((0:Int),((0:Int),((0:Int),(0:Int)))))).1=0)=true from decide_eq_true h,Bool.not_true,cond_false,yl hl hs hn,aa]
 simp only[hb,ho,el,if_true,jS]
 rfl
theorem GO {n minute hold:Int}{sz r s:Nat}{rows vain:List Int}{seats:List (List Int)}{pool:List eB}{o:ib}(ho:aP (qz pool n) n=some o)(h:o.1=0)
  (hl:∀ r,r < seats.length→(gt seats r).length≤1000) (hs:seats.length≤1000) (hn:sz≤1000) (hb:nB seats sz=((0,(r:Int),(s:Int),(sz:Int)),true)) (hr:r < seats.length) (hz:s+sz≤(gt seats r).length) :
  qq (n,(sz:Int),minute,rows,hold,seats,vain,pool)=some (rows,hold,seats.set r (cq (gt seats r) s sz n),vain,dL (qz pool n) n (2,(r:Int),(s:Int),(sz:Int),minute)):=by
 show vd nN qy mS n (sz:Int) minute rows hold seats vain pool=_
 unfold vd
 try unfold GB
 try unfold GA
 try unfold Cv
 try unfold Cu
 try unfold x7
 try unfold pd
 rw[pR,aa]
 simp only[ho]
 rw[show decide ((wC (some o) ((0:Int),((0:Int),((0:Int),((0:Int),(0:Int)))))).1=0)=true from decide_eq_true h,Bool.not_true,cond_false,yl hl hs hn,aa,hb]
 simp only[ho,el,if_true,jS]
 rw[Bool.not_true,cond_false,Cd hr hz (hl r hr),aa]
 rfl
def GP:ib:=(0,-1,-1,0,0)
def iV (g:Int→ib)(n:Int)(o:ib):Int→ib:=fun m=>if m=n then o else g m
abbrev HM:Type:=List (List Int)×(Int→ib)×List Int
def ya (hold minute:Int)(g:Int→ib)(v:Int):Int:=if gy hold minute (g v)=true then -1 else v
def nX (hold minute:Int)(g:Int→ib):Int→ib:=fun n=>if gy hold minute (g n)=true then jv (g n)else g n
def lapM (hold minute:Int)(x:HM):HM:=(x.1.map fun l=>l.map (ya hold minute x.2.1),nX hold minute x.2.1,x.2.2)
def bO (seats:List (List Int))(n:Nat):Option (Nat×Nat):=((cZ seats n 0 seats.length).find? (pB seats n false)).or ((cZ seats n 0 seats.length).find? (pB seats n true))
def yb (x:HM)(n:Int)(sz:Nat)(at':Int):HM:=
 if(x.2.1 n).1=0 then
  (match bO x.1 sz with
   | none=>(x.1,iV x.2.1 n (1,-1,-1,(sz:Int),at'),x.2.2)
   | some c=>(x.1.set c.1 (cq (gt x.1 c.1) c.2 sz n),iV x.2.1 n (2,(c.1:Int),(c.2:Int),(sz:Int),at'),x.2.2))
 else x
def yc (x:HM)(n:Int):HM:=if(x.2.1 n).1=2 then(x.1,iV x.2.1 n (3,(x.2.1 n).2),x.2.2)else(x.1,x.2.1,x.2.2++[n])
def held (o:ib):Prop:=o.1=2∨o.1=3
instance (o:ib):Decidable (held o):=inferInstanceAs (Decidable (_∨_))
def mZ (x:HM)(n:Int):HM:=if held (x.2.1 n)then(iW n x.1,iV x.2.1 n (5,-1,-1,(x.2.1 n).2.2.2.1,(x.2.1 n).2.2.2.2),x.2.2)else x
def fj (x:HM)(c:aD):HM:=if c.2.2.1=1 then yb x c.2.2.2.1 c.2.2.2.2.toNat c.2.1 else if c.2.2.1=2 then yc x c.2.2.2.1 else mZ x c.2.2.2.1
def bu (c:aD):Prop:=(0≤c.1∧c.1≤99)∧(0≤c.2.1∧c.2.1≤9999)∧(c.2.2.1=1∧1≤c.2.2.2.2∧c.2.2.2.2≤12∨(c.2.2.1=2∨c.2.2.1=3)∧c.2.2.2.2=0)∧(0≤c.2.2.2.1∧c.2.2.2.1≤99)
structure IM (lens:List Nat) (x:HM):Prop where
 shp:x.1.map List.length=lens
 own:∀ n,held (x.2.1 n)→∃ R S Z:Nat,(x.2.1 n).2.1=(R:Int)∧(x.2.1 n).2.2.1=(S:Int)∧(x.2.1 n).2.2.2.1=(Z:Int)∧Owns x.1 n R S Z∧1≤Z∧Z≤12
 occ:∀ r i,r < x.1.length→i < (gt x.1 r).length→gt (gt x.1 r) i = -1∨held (x.2.1 (gt (gt x.1 r) i))
 dom:∀ n,(n < 0∨99 < n)→x.2.1 n=GP
 st:∀ n,x.2.1 n=GP∨(1≤(x.2.1 n).1∧(x.2.1 n).1≤5∧(held (x.2.1 n)∨((x.2.1 n).2.1 = -1∧(x.2.1 n).2.2.1 = -1))∧0≤(x.2.1 n).2.2.2.2∧(x.2.1 n).2.2.2.2≤9999)
theorem hU {lens:List Nat}{x:HM}(h:IM lens x){n:Int}(hn:held (x.2.1 n)):0≤n∧n≤99:=by
 refine⟨?_,?_⟩
 ·by_cases c:0≤n
  ·exact c
  ·rw[h.dom n (.inl (by omega))]at hn; rcases hn with e | e <;> cases e
 ·by_cases c:n≤99
  ·exact c
  ·rw[h.dom n (.inr (by omega))]at hn; rcases hn with e | e <;> cases e
theorem oA (f:Int→Int)(seats:List (List Int)){r:Nat}(h:r < seats.length):gt (seats.map fun l=>l.map f) r=(gt seats r).map f:=by
 rw[cE (by rw[List.length_map]; exact h),cE h]
 simp
theorem J7 (f:Int→Int)(seats:List (List Int)):(seats.map fun l=>l.map f).map List.length=seats.map List.length:=by
 rw[List.map_map]
 exact List.map_congr_left fun l _=>by simp
theorem Owns.map {seats:List (List Int)}{n:Int}{R S Z:Nat}(h:Owns seats n R S Z){f:Int→Int}(hf:∀ v,f v=n↔v=n):Owns (seats.map fun l=>l.map f) n R S Z:=by
 obtain⟨h1,h2,h3⟩:=h
 refine⟨by rw[List.length_map]; exact h1,by rw[oA f seats h1,List.length_map]; exact h2,fun r i hr hi=>?_⟩
 rw[List.length_map]at hr
 rw[oA f seats hr,List.length_map]at hi
 rw[oA f seats hr,pQ _ _ hi,hf,h3 r i hr hi]
theorem IM.mp {lens:List Nat}{x:HM}(h:IM lens x){f:Int→Int}{g:Int→ib}{vain:List Int}(h1:∀ n,held (g n)→held (x.2.1 n)∧(g n).2.1=(x.2.1 n).2.1∧(g n).2.2.1=(x.2.1 n).2.2.1∧(g n).2.2.2.1=(x.2.1 n).2.2.2.1∧∀ v,f v=n↔v=n)
  (h2:∀ v,held (x.2.1 v)→f v = -1∨(f v=v∧held (g v))) (h2':f (-1) = -1)
  (h3:∀ n,(n < 0∨99 < n)→g n=GP)
  (h4:∀ n,g n=GP∨(1≤(g n).1∧(g n).1≤5∧(held (g n)∨((g n).2.1 = -1∧(g n).2.2.1 = -1))∧0≤(g n).2.2.2.2∧(g n).2.2.2.2≤9999)):IM lens (x.1.map fun l=>l.map f,g,vain):=by
 refine⟨by rw[← h.shp]; exact J7 f x.1,fun n hn=>?_,fun r i hr hi=>?_,h3,h4⟩
 ·obtain⟨q1,q2,q3,q4,q5⟩:=h1 n hn
  obtain⟨R,S,Z,e1,e2,e3,e4,e5⟩:=h.own n q1
  exact⟨R,S,Z,q2.trans e1,q3.trans e2,q4.trans e3,e4.map q5,e5⟩
 ·simp only[List.length_map]at hr
  simp only[oA f x.1 hr,List.length_map]at hi ⊢
  rw[pQ _ _ hi]
  rcases h.occ r i hr hi with e | e
  ·left; rw[e,h2']
  ·rcases h2 _ e with q | ⟨q,q'⟩
   ·exact .inl q
   ·right; rw[q]; exact q'
theorem tE (o:ib):¬ held (jv o):=by
 rintro(e | e)
 ·exact absurd (show(4:Int)=2 from e) (by decide)
 ·exact absurd (show(4:Int)=3 from e) (by decide)
theorem pS (hold minute:Int):gy hold minute GP=false:=rfl
theorem IM.lap {lens:List Nat}{x:HM}(h:IM lens x)(hold minute:Int):IM lens (lapM hold minute x):=by
 have hneg:x.2.1 (-1)=GP:=h.dom (-1) (.inl (by decide))
 refine h.mp (f:=ya hold minute x.2.1) (g:=nX hold minute x.2.1) (fun n hn=>?_) (fun v hv=>?_) ?_ (fun n hn=>?_) (fun n=>?_)
 ·unfold nX at hn ⊢
  cases hd:gy hold minute (x.2.1 n)with
  | true=>rw[hd,if_pos rfl]at hn; exact absurd hn (tE _)
  | false=>
   simp only[hd,Bool.false_eq_true,if_false]at hn ⊢
   refine⟨hn,trivial,trivial,trivial,fun v=>?_⟩
   have hd0:=hU h hn
   unfold ya
   by_cases c:gy hold minute (x.2.1 v)=true
   ·rw[if_pos c]
    exact⟨fun e=>by omega,fun e=>by rw[e,hd]at c; cases c⟩
   ·rw[if_neg c]
 ·unfold ya nX
  by_cases c:gy hold minute (x.2.1 v)=true
  ·rw[if_pos c]; exact .inl rfl
  ·simp only[if_neg c]; exact .inr ⟨trivial,hv⟩
 ·unfold ya
  rw[hneg,pS]
  rfl
 ·show nX hold minute x.2.1 n=GP
  unfold nX
  rw[h.dom n hn,pS]
  rfl
 ·unfold nX
  by_cases c:gy hold minute (x.2.1 n)=true
  ·simp only[if_pos c]
   rcases h.st n with e | ⟨e1,e2,e3,e4,e5⟩
   ·rw[e]at c; cases c
   ·right
    exact⟨by show(1:Int)≤4; omega,by show(4:Int)≤5; omega,.inr ⟨rfl,rfl⟩,e4,e5⟩
  ·simp only[if_neg c]; exact h.st n
theorem GQ (n:Int)(seats:List (List Int)):iW n seats=seats.map fun l=>l.map (j0 n):=rfl
theorem IM.drp {lens:List Nat}{x:HM}(h:IM lens x)(n:Int):IM lens (mZ x n):=by
 unfold mZ
 by_cases hh:held (x.2.1 n)
 ·rw[if_pos hh]
  have hd:=hU h hh
  have hne:∀ m,m≠n→iV x.2.1 n (5,-1,-1,(x.2.1 n).2.2.2.1,(x.2.1 n).2.2.2.2) m=x.2.1 m:=fun m hm=>if_neg hm
  have heq:iV x.2.1 n (5,-1,-1,(x.2.1 n).2.2.2.1,(x.2.1 n).2.2.2.2) n=(5,-1,-1,(x.2.1 n).2.2.2.1,(x.2.1 n).2.2.2.2):=if_pos rfl
  have hnh:¬ held ((5,-1,-1,(x.2.1 n).2.2.2.1,(x.2.1 n).2.2.2.2):ib):=by
   rintro(e | e)
   ·exact absurd (show(5:Int)=2 from e) (by decide)
   ·exact absurd (show(5:Int)=3 from e) (by decide)
  rw[GQ]
  refine h.mp (fun m hm=>?_) (fun v hv=>?_) (by unfold j0; rw[if_neg (by omega)]) (fun m hm=>?_) (fun m=>?_)
  ·by_cases c:m=n
   ·subst c; rw[heq]at hm; exact absurd hm hnh
   ·rw[hne m c]at hm ⊢
    refine⟨hm,rfl,rfl,rfl,fun v=>?_⟩
    have:=hU h hm
    unfold j0
    by_cases c2:v=n
    ·rw[if_pos c2]; omega
    ·rw[if_neg c2]
  ·unfold j0
   by_cases c:v=n
   ·rw[if_pos c]; exact .inl rfl
   ·rw[if_neg c,hne v c]; exact .inr ⟨rfl,hv⟩
  ·rw[hne m (by omega)]; exact h.dom m hm
  ·by_cases c:m=n
   ·subst c
    rw[heq]
    rcases h.st m with e | ⟨e1,e2,e3,e4,e5⟩
    ·rw[e]at hh; rcases hh with e | e <;> cases e
    ·right
     exact⟨by show(1:Int)≤5; omega,by show(5:Int)≤5; omega,.inr ⟨rfl,rfl⟩,e4,e5⟩
   ·rw[hne m c]; exact h.st m
 ·rw[if_neg hh]; exact h
theorem IM.pay {lens:List Nat}{x:HM}(h:IM lens x)(n:Int):IM lens (yc x n):=by
 unfold yc
 by_cases hh:(x.2.1 n).1=2
 ·rw[if_pos hh]
  have hn:held (x.2.1 n):=.inl hh
  have hd:=hU h hn
  have hne:∀ m,m≠n→iV x.2.1 n (3,(x.2.1 n).2) m=x.2.1 m:=fun m hm=>if_neg hm
  have heq:iV x.2.1 n (3,(x.2.1 n).2) n=(3,(x.2.1 n).2):=if_pos rfl
  have hid:x.1=x.1.map fun l=>l.map id:=by simp
  have:=h.mp (f:=id) (g:=iV x.2.1 n (3,(x.2.1 n).2)) (vain:=x.2.2) (fun m hm=>?_) (fun v hv=>?_) rfl (fun m hm=>?_) (fun m=>?_)
  ·rw[← hid]at this; exact this
  ·by_cases c:m=n
   ·subst c; rw[heq]; exact⟨hn,rfl,rfl,rfl,fun v=>Iff.rfl⟩
   ·rw[hne m c]at hm ⊢; exact⟨hm,rfl,rfl,rfl,fun v=>Iff.rfl⟩
  ·right
   refine⟨rfl,?_⟩
   by_cases c:v=n
   ·subst c; rw[heq]; exact .inr rfl
   ·rw[hne v c]; exact hv
  ·rw[hne m (by omega)]; exact h.dom m hm
  ·by_cases c:m=n
   ·subst c
    rw[heq]
    rcases h.st m with e | ⟨e1,e2,e3,e4,e5⟩
    ·rw[e]at hh; cases hh
    ·right
     exact⟨by show(1:Int)≤3; omega,by show(3:Int)≤5; omega,.inl (.inr rfl),e4,e5⟩
   ·rw[hne m c]; exact h.st m
 ·rw[if_neg hh]; exact⟨h.shp,h.own,h.occ,h.dom,h.st⟩
theorem GR {seats:List (List Int)}{n:Nat}{c:Nat×Nat}:c∈cZ seats n 0 seats.length↔c.1 < seats.length∧c.2+n≤(gt seats c.1).length:=by
 obtain⟨r,s⟩:=c
 unfold cZ h9
 simp only[List.mem_flatMap,List.mem_map,List.mem_range'_1,Prod.mk.injEq]
 constructor
 ·rintro⟨r',⟨_,h1⟩,s',⟨_,h2⟩,rfl,rfl⟩
  omega
 ·rintro⟨h1,h2⟩
  exact⟨r,by omega,s,by omega,rfl,rfl⟩
theorem J8 {l:List Int}{s n:Nat}:yh l s n=true↔∀ i,s≤i→i < s+n→gt l i = -1:=by
 unfold yh
 rw[cN]
 constructor
 ·intro h i h1 h2
  have:=h (i-s) (by omega)
  rw[show s+(i-s)=i by omega]at this
  exact of_decide_eq_true this
 ·intro h k hk
  exact decide_eq_true (h (s+k) (by omega) (by omega))
theorem tF {seats:List (List Int)}{n:Nat}{c:Nat×Nat}(h:bO seats n=some c):c.1 < seats.length∧c.2+n≤(gt seats c.1).length∧yh (gt seats c.1) c.2 n=true:=by
 unfold bO at h
 have key:∀ g,(cZ seats n 0 seats.length).find? (pB seats n g)=some c→c.1 < seats.length∧c.2+n≤(gt seats c.1).length∧yh (gt seats c.1) c.2 n=true:=fun g hg=>by
  have h1:=GR.1 (List.mem_of_find?_eq_some hg)
  have h2:=List.find?_some hg
  unfold pB at h2
  simp only[Bool.and_eq_true]at h2
  exact⟨h1.1,h1.2,h2.1⟩
 cases h1:(cZ seats n 0 seats.length).find? (pB seats n false)with
 | some d=>rw[h1]at h; cases h; exact key false h1
 | none=>rw[h1]at h; exact key true h
theorem pT {seats:List (List Int)}{R S Z:Nat}{n:Int}(h1:R < seats.length)(h2:S+Z≤(gt seats R).length){r i:Nat}(hr:r < seats.length)(hi:i < (gt seats r).length):
  gt (gt (seats.set R (cq (gt seats R) S Z n)) r) i=if r=R∧S≤i∧i < S+Z then n else gt (gt seats r) i:=by
 rw[dC _ _ _ _ h1]
 by_cases c:R=r
 ·subst c
  rw[if_pos rfl,AP _ _ h2 hi]
  by_cases c2:S≤i∧i < S+Z
  ·rw[if_pos c2,if_pos ⟨rfl,c2⟩]
  ·rw[if_neg c2,if_neg fun e=>c2 e.2]
 ·rw[if_neg c,if_neg fun e=>c e.1.symm]
theorem jU {seats:List (List Int)}{R S Z:Nat}{n:Int}(h1:R < seats.length)(h2:S+Z≤(gt seats R).length)(r:Nat):
  (gt (seats.set R (cq (gt seats R) S Z n)) r).length=(gt seats r).length:=by
 rw[dC _ _ _ _ h1]
 by_cases c:R=r
 ·subst c; rw[if_pos rfl,clrL_len' _ _ _ _ h2]
 ·rw[if_neg c]
theorem yd {l:List (List Int)}{r:Nat}(h:r < l.length):gt (l.map List.length) r=(gt l r).length:=by
 rw[cE (by rw[List.length_map]; exact h),cE h]; simp
theorem J9 {seats:List (List Int)}{R S Z:Nat}{n:Int}(h1:R < seats.length)(h2:S+Z≤(gt seats R).length):
  (seats.set R (cq (gt seats R) S Z n)).map List.length=seats.map List.length:=by
 refine gr (by simp) fun i hi=>?_
 simp only[List.length_map,List.length_set]at hi
 rw[yd (by simpa using hi),yd hi,jU h1 h2]
theorem IM.ask {lens:List Nat}{x:HM}(h:IM lens x){n:Int}{sz:Nat}{at':Int}(hn:0≤n∧n≤99)(hz:1≤sz∧sz≤12)(ha:0≤at'∧at'≤9999):IM lens (yb x n sz at'):=by
 unfold yb
 by_cases h0:(x.2.1 n).1=0
 ·rw[if_pos h0]
  have hnh:¬ held (x.2.1 n):=by
   rintro(e | e)
   ·rw[h0]at e; cases e
   ·rw[h0]at e; cases e
  cases hb:bO x.1 sz with
  | none=>
   simp only
   have hne:∀ m,m≠n→iV x.2.1 n (1,-1,-1,(sz:Int),at') m=x.2.1 m:=fun m hm=>if_neg hm
   have heq:iV x.2.1 n (1,-1,-1,(sz:Int),at') n=(1,-1,-1,(sz:Int),at'):=if_pos rfl
   have hnh2:¬ held ((1,-1,-1,(sz:Int),at'):ib):=by
    rintro(e | e)
    ·exact absurd (show(1:Int)=2 from e) (by decide)
    ·exact absurd (show(1:Int)=3 from e) (by decide)
   refine⟨h.shp,fun m hm=>?_,fun r i hr hi=>?_,fun m hm=>?_,fun m=>?_⟩
   ·by_cases c:m=n
    ·subst c; simp only[heq]at hm; exact absurd hm hnh2
    ·simp only[hne m c]at hm ⊢; exact h.own m hm
   ·rcases h.occ r i hr hi with e | e
    ·exact .inl e
    ·right
     simp only
     rw[hne _ fun c=>hnh (c▸e)]
     exact e
   ·simp only; rw[hne m (by omega)]; exact h.dom m hm
   ·by_cases c:m=n
    ·subst c
     simp only[heq]
     exact .inr ⟨by omega,by omega,.inr ⟨trivial,trivial⟩,ha.1,ha.2⟩
    ·simp only[hne m c]; exact h.st m
  | some c=>
   obtain⟨R,S⟩:=c
   simp only
   obtain⟨b1,b2,b3⟩:=tF hb
   simp only at b1 b2 b3
   have hfree:=J8.1 b3
   have hne:∀ m,m≠n→iV x.2.1 n (2,(R:Int),(S:Int),(sz:Int),at') m=x.2.1 m:=fun m hm=>if_neg hm
   have heq:iV x.2.1 n (2,(R:Int),(S:Int),(sz:Int),at') n=(2,(R:Int),(S:Int),(sz:Int),at'):=if_pos rfl
   have hcell:∀ r i,r < x.1.length→i < (gt x.1 r).length→gt (gt x.1 r) i≠n:=fun r i hr hi e=>by
    rcases h.occ r i hr hi with q | q
    ·omega
    ·exact hnh (e▸q)
   refine⟨by rw[← h.shp]; exact J9 b1 b2,fun m hm=>?_,fun r i hr hi=>?_,fun m hm=>?_,fun m=>?_⟩
   ·by_cases c:m=n
    ·subst c
     simp only[heq]
     refine⟨R,S,sz,rfl,rfl,rfl,⟨by rw[List.length_set]; exact b1,by rw[jU b1 b2]; exact b2,fun r i hr hi=>?_⟩,hz⟩
     rw[List.length_set]at hr
     rw[jU b1 b2]at hi
     rw[pT b1 b2 hr hi]
     by_cases q:r=R∧S≤i∧i < S+sz
     ·rw[if_pos q]; exact⟨fun _=>q,fun _=>rfl⟩
     ·rw[if_neg q]; exact⟨fun e=>absurd e (hcell r i hr hi),fun e=>absurd e q⟩
    ·simp only[hne m c]at hm ⊢
     obtain⟨R',S',Z',e1,e2,e3,⟨o1,o2,o3⟩,e5⟩:=h.own m hm
     have hm0:=hU h hm
     refine⟨R',S',Z',e1,e2,e3,⟨by rw[List.length_set]; exact o1,by rw[jU b1 b2]; exact o2,fun r i hr hi=>?_⟩,e5⟩
     rw[List.length_set]at hr
     rw[jU b1 b2]at hi
     rw[pT b1 b2 hr hi,← o3 r i hr hi]
     by_cases q:r=R∧S≤i∧i < S+sz
     ·rw[if_pos q]
      obtain⟨rfl,q2,q3⟩:=q
      rw[hfree i q2 q3]
      exact⟨fun e=>absurd e.symm c,fun e=>by omega⟩
     ·rw[if_neg q]
   ·rw[List.length_set]at hr
    simp only[jU b1 b2]at hi
    simp only[pT b1 b2 hr hi]
    by_cases q:r=R∧S≤i∧i < S+sz
    ·rw[if_pos q]; right; rw[heq]; exact .inl rfl
    ·rw[if_neg q]
     rcases h.occ r i hr hi with e | e
     ·exact .inl e
     ·right; rw[hne _ (hcell r i hr hi)]; exact e
   ·simp only; rw[hne m (by omega)]; exact h.dom m hm
   ·by_cases c:m=n
    ·subst c
     simp only[heq]
     exact .inr ⟨by omega,by omega,.inl (.inl rfl),ha.1,ha.2⟩
    ·simp only[hne m c]; exact h.st m
 ·rw[if_neg h0]; exact h
theorem IM.hear {lens:List Nat}{x:HM}(h:IM lens x){c:aD}(hc:bu c):IM lens (fj x c):=by
 unfold fj
 obtain⟨h1,h2,h3,h4⟩:=hc
 by_cases k1:c.2.2.1=1
 ·rw[if_pos k1]
  exact h.ask h4 (by omega) h2
 ·rw[if_neg k1]
  by_cases k2:c.2.2.1=2
  ·rw[if_pos k2]; exact h.pay _
  ·rw[if_neg k2]; exact h.drp _
def gP (pool:List eB)(n:Int):ib:=(aP pool n).getD GP
structure PK (pool:List eB) (g:Int→ib):Prop where
 nd:(pool.map (·.1)).Nodup
 eq:∀ n,gP pool n=g n
 pos:∀ n o,aP pool n=some o→0≤n
theorem IM.len {lens:List Nat}{x:HM}(h:IM lens x):x.1.length=lens.length:=by rw[← h.shp,List.length_map]
theorem IM.row {lens:List Nat}{x:HM}(h:IM lens x)(sm:∀ k∈lens,k≤12){r:Nat}(hr:r < x.1.length):(gt x.1 r).length≤12:=by
 rw[← yd hr,h.shp]
 exact sm _ (cW (by rw[← h.len]; exact hr))
theorem PK.get {pool:List eB}{g:Int→ib}(k:PK pool g){n:Int}{o:ib}(h:aP pool n=some o):g n=o:=by
 rw[← k.eq n]; unfold gP; rw[h]; rfl
theorem PK.inv {lens:List Nat}{x:HM}{pool:List eB}(h:IM lens x)(k:PK pool x.2.1)(sm:∀ k∈lens,k≤12):Inv x.1 pool:=by
 refine⟨fun r hr=>by have:=h.row sm hr; omega,fun n o ho hs=>?_,fun n o ho=>?_⟩
 ·have e:=k.get ho
  have hh:held (x.2.1 n):=by rw[e]; exact hs
  have hd:=hU h hh
  obtain⟨R,S,Z,e1,e2,e3,e4,e5⟩:=h.own n hh
  rw[e]at e1 e2 e3
  exact⟨by omega,R,S,Z,e1,e2,e3,e4⟩
 ·have e:=k.get ho
  rcases h.st n with q | ⟨q1,q2,q3,q4,q5⟩
  ·rw[← e,q]; exact⟨by decide,by decide⟩
  ·rw[e]at q4 q5; exact⟨q4,by omega⟩
theorem AR (hold minute:Int)(pool:List eB)(n:Int):cH hold minute pool n=gy hold minute (gP pool n):=by
 unfold cH gP
 cases aP pool n with
 | some o=>rfl
 | none=>rfl
theorem vM {hold minute:Int}{pool:List eB}{n:Int}(h:cH hold minute pool n=true):n∈pool.map (·.1):=by
 unfold cH at h
 cases hc:aP pool n with
 | none=>rw[hc]at h; cases h
 | some o=>
  rw[aP]at hc
  obtain⟨x,h1,h2⟩:=Option.map_eq_some_iff.1 hc
  have:=List.find?_some h1
  have e:x.1=n:=of_decide_eq_true this
  rw[← e]
  exact List.mem_map_of_mem (List.mem_of_find?_eq_some h1)
theorem Ce (d:Int→Bool)(q:List Int)(pool:List eB):(dE d q pool).map (·.1)=pool.map (·.1):=by
 unfold dE
 rw[List.map_map]
 rfl
theorem PK.lap {pool:List eB}{g:Int→ib}(k:PK pool g)(hold minute:Int):PK (dE (cH hold minute pool) (pool.map (·.1)) pool) (nX hold minute g):=by
 refine⟨by rw[Ce]; exact k.nd,fun n=>?_,fun n o ho=>?_⟩
 ·unfold nX
  rw[← k.eq n]
  unfold gP
  rw[jT]
  have hk:=@vM hold minute pool n
  unfold cH at hk
  cases hc:aP pool n with
  | none=>rfl
  | some o=>
   rw[hc]at hk
   show(if n∈pool.map (·.1)∧cH hold minute pool n=true then jv o else o)=_
   rw[AR]
   unfold gP
   rw[hc]
   by_cases c:gy hold minute o=true
   ·rw[if_pos ⟨hk c,c⟩]
    show jv o=if gy hold minute o=true then jv o else o
    rw[if_pos c]
   ·rw[if_neg fun e=>c e.2]
    show o=if gy hold minute o=true then jv o else o
    rw[if_neg c]
 ·rw[jT]at ho
  cases hc:aP pool n with
  | none=>rw[hc]at ho; cases ho
  | some o'=>exact k.pos n o' hc
theorem Oj {lens:List Nat}{x:HM}{pool:List eB}{rows:List Int}{hold minute:Int}(h:IM lens x)(k:PK pool x.2.1)(sm:∀ k∈lens,k≤12)(hh:0≤hold∧hold≤100000):
  ∃ pool',P83 (minute,rows,hold,x.1,x.2.2,pool)=some (rows,hold,(lapM hold minute x).1,(lapM hold minute x).2.2,pool')∧PK pool' (lapM hold minute x).2.1:=by
 refine⟨dE (cH hold minute pool) (pool.map (·.1)) pool,?_,k.lap hold minute⟩
 rw[(Sr (k.inv h sm) hh k.nd (fun n o ho=>by have:=k.pos n o ho; omega)).1]
 have e:fS (cH hold minute pool) (pool.map (·.1)) x.1=(lapM hold minute x).1:=by
  unfold fS lapM
  refine List.map_congr_left fun l _=>List.map_congr_left fun v _=>?_
  unfold ya
  rw[← k.eq v,← AR]
  by_cases c:cH hold minute pool v=true
  ·rw[if_pos ⟨vM c,c⟩,if_pos c]
  ·rw[if_neg fun e=>c e.2,if_neg c]
 rw[e]
 rfl
theorem tG {pool:List eB}{g:Int→ib}(k:PK pool g)(n:Int):aP (qz pool n) n=some (g n):=by
 rw[← k.eq n]
 unfold qz gP
 cases hc:aP pool n with
 | some o=>rw[if_pos (show(some o).isSome=true from rfl),hc]; rfl
 | none=>
  rw[if_neg (by decide),er,hc,if_neg (by decide),aV,if_pos rfl]
  rfl
theorem oB {pool:List eB}{g:Int→ib}(k:PK pool g)(n:Int):qz (qz pool n) n=qz pool n:=by
 have:=tG k n
 show(if(aP (qz pool n) n).isSome=true then qz pool n else qz pool n++[(n,(0,-1,-1,0,0))])=_
 rw[this]
 rfl
theorem PK.of {pool:List eB}{g:Int→ib}(k:PK pool g){n:Int}(hn:0≤n):PK (qz pool n) g:=by
 unfold qz
 cases hc:aP pool n with
 | some o=>rw[if_pos (show(some o).isSome=true from rfl)]; exact k
 | none=>
  rw[if_neg (by decide)]
  refine⟨?_,fun m=>?_,fun m o ho=>?_⟩
  ·rw[List.map_append,List.nodup_append]
   refine⟨k.nd,by simp,fun a ha b hb=>?_⟩
   simp only[List.map_cons,List.map_nil,List.mem_singleton]at hb
   subst hb
   intro e
   subst e
   exact jJ hc ha
  ·rw[← k.eq m]
   unfold gP
   rw[er]
   cases hm:aP pool m with
   | some o=>rfl
   | none=>
    rw[if_neg (by decide),aV]
    by_cases c:n=m
    ·rw[if_pos c]; rfl
    ·rw[if_neg c]; rfl
  ·rw[er]at ho
   cases hm:aP pool m with
   | some o'=>exact k.pos m o' hm
   | none=>
    rw[hm,if_neg (by decide),aV]at ho
    by_cases c:n=m
    ·omega
    ·rw[if_neg c]at ho; cases ho
theorem PK.put {pool:List eB}{g:Int→ib}(k:PK pool g){n:Int}{o:ib}(h:aP pool n=some o)(o':ib):PK (dL pool n o') (iV g n o'):=by
 refine⟨by rw[mz _ _ _ (by rw[h]; rfl)]; exact k.nd,fun m=>?_,fun m q hq=>?_⟩
 ·unfold gP iV
  rw[el]
  by_cases c:n=m
  ·rw[if_pos c,if_pos c.symm]; rfl
  ·rw[if_neg c,if_neg fun e=>c e.symm]; exact k.eq m
 ·rw[el]at hq
  by_cases c:n=m
  ·rw[← c]; exact k.pos n o h
  ·rw[if_neg c]at hq; exact k.pos m q hq
theorem vN:P111v1=P111:=by
 unfold P111v1 P111 Fw VA
 rfl
theorem Su {lens:List Nat}{x:HM}{pool:List eB}{rows:List Int}{hold:Int}(h:IM lens x)(k:PK pool x.2.1)(sm:∀ k∈lens,k≤12){n:Int}(hn:held (x.2.1 n))(hp:aP pool n=some (x.2.1 n)):
  ∃ pool',P111v1 (n,5,rows,hold,pool,x.1,x.2.2)=some (rows,hold,pool',(mZ x n).1,x.2.2)∧PK pool' (mZ x n).2.1:=by
 obtain⟨R,S,Z,e1,e2,e3,e4,e5⟩:=h.own n hn
 have ho:aP pool n=some ((x.2.1 n).1,(R:Int),(S:Int),(Z:Int),(x.2.1 n).2.2.2.2):=by rw[hp,← e1,← e2,← e3]
 refine⟨_,by rw[vN,AO ho e4.1 e4.2.1 (by have:=h.row sm e4.1; omega),GI e4]; unfold mZ; rw[if_pos hn],?_⟩
 have:=k.put hp (5,-1,-1,(Z:Int),(x.2.1 n).2.2.2.2)
 unfold mZ
 rw[if_pos hn,e3]
 exact this
theorem vO (seats:List (List Int))(n:Nat):nB seats n=(match bO seats n with
  | some c=>((0,(c.1:Int),(c.2:Int),(n:Int)),true)
  | none=>((0,0,0,0),false)):=Hi seats n
theorem P84_M {lens:List Nat}{x:HM}{pool:List eB}{rows:List Int}{hold:Int}{c:aD}(h:IM lens x)(k:PK pool x.2.1)(sm:∀ k∈lens,k≤12)(sl:lens.length≤30)(hc:bu c)(hv:x.2.2.length≤1000):
  ∃ pool',P84 (c,rows,hold,x.1,x.2.2,pool)=some (rows,hold,(fj x c).1,(fj x c).2.2,pool')∧PK pool' (fj x c).2.1:=by
 obtain⟨id,at',kind,n,size⟩:=c
 obtain⟨h1,h2,h3,h4⟩:=hc
 simp only at h1 h2 h3 h4
 have hlen:=h.len
 have kO:=k.of h4.1 (n:=n)
 have hg:=tG k n
 have e:P84 ((id,at',kind,n,size),rows,hold,x.1,x.2.2,pool)=q84 nN qq P111v1 (id,at',kind,n,size) rows hold x.1 x.2.2 pool:=rfl
 rw[e]
 unfold q84 fj
 try unfold GB
 try unfold GA
 try unfold Cv
 try unfold Cu
 try unfold x7
 try unfold pd
 have hd:wC (aP (qz pool n) n) (0,(0,(0,(0,0))))=x.2.1 n:=by rw[hg]; rfl
 simp only[pR,aa,hd]
 rcases h3 with⟨rfl,z1,z2⟩ | ⟨hk,rfl⟩
 ·obtain⟨sz,rfl⟩:∃ sz:Nat,size=(sz:Int):=⟨size.toNat,by omega⟩
  simp only[decide_true,cond_true,if_true,Int.toNat_natCast]
  have hoo:aP (qz (qz pool n) n) n=some (x.2.1 n):=by rw[oB k]; exact hg
  unfold yb
  by_cases h0:(x.2.1 n).1=0
  ·have hu:x.2.1 n=GP:=by
    rcases h.st n with q | ⟨q1,_⟩
    ·exact q
    ·omega
   rw[if_pos h0]
   have hbm:=vO x.1 sz
   cases hb:bO x.1 sz with
   | none=>
    rw[hb]at hbm
    rw[J6 hoo h0 (fun r hr=>by have:=h.row sm hr; omega) (by omega) (by omega) (by rw[hbm]),aa,oB k,hu]
    exact⟨_,rfl,kO.put hg _⟩
   | some c=>
    obtain⟨R,S⟩:=c
    rw[hb]at hbm
    obtain⟨b1,b2,_⟩:=tF hb
    rw[GO hoo h0 (fun r hr=>by have:=h.row sm hr; omega) (by omega) (by omega) hbm b1 b2,aa,oB k]
    exact⟨_,rfl,kO.put hg _⟩
  ·rw[if_neg h0,GN hoo h0,aa,oB k]
   exact⟨_,rfl,kO⟩
 ·have k1:kind≠1:=by omega
  rw[decide_eq_false k1,cond_false,if_neg k1]
  rcases hk with rfl | rfl
  ·simp only[decide_true,cond_true,if_true]
   unfold yc
   by_cases hh:(x.2.1 n).1=2
   ·rw[if_pos hh,decide_eq_true hh,cond_true]
    exact⟨_,rfl,kO.put hg _⟩
   ·rw[if_neg hh,decide_eq_false hh,cond_false,am (cO (by simp; omega))]
    exact⟨_,rfl,kO⟩
  ·rw[show decide ((3:Int)=2)=false from rfl,cond_false,cond_false,if_neg (by decide)]
   by_cases hh:held (x.2.1 n)
   ·obtain⟨pool',e1,e2⟩:=Su (rows:=rows) (hold:=hold) h kO sm hh hg
    refine⟨pool',?_,e2⟩
    rw[e1]
    have hv:(mZ x n).2.2=x.2.2:=by unfold mZ; rw[if_pos hh]
    rw[hv]
    rcases hh with hh | hh
    ·rw[decide_eq_true hh]; rfl
    ·rw[hh]; rfl
   ·have n2:(x.2.1 n).1≠2:=fun e=>hh (.inl e)
    have n3:(x.2.1 n).1≠3:=fun e=>hh (.inr e)
    rw[decide_eq_false n2,decide_eq_false n3]
    unfold mZ
    rw[if_neg hh]
    exact⟨_,rfl,kO⟩
def prO (o:ib):nZ:=(o.1,o.2.1,o.2.2.1,o.2.2.2.1)
structure RK (pl:List nZ) (sn:List Int) (g:Int→ib):Prop where
 pln:pl.length=100
 snn:sn.length=100
 eq:∀ i:Nat,i < 100→gt pl i=prO (g (i:Int))
 sne:∀ i:Nat,i < 100→(g (i:Int)).1=2→gt sn i=(g (i:Int)).2.2.2.2
 snb:∀ i:Nat,i < 100→0≤gt sn i∧gt sn i≤9999
theorem RK.due {pl:List nZ}{sn:List Int}{g:Int→ib}(k:RK pl sn g)(hold minute:Int){i:Nat}(hi:i < 100):fR hold minute pl sn i=gy hold minute (g (i:Int)):=by
 unfold fR gy
 rw[k.eq i hi]
 show(decide ((g (i:Int)).1=2)&&_)=_
 by_cases c:(g (i:Int)).1=2
 ·rw[k.sne i hi c]
 ·rw[decide_eq_false c]; rfl
theorem RK.lap {lens:List Nat}{x:HM}(h:IM lens x){pl:List nZ}{sn:List Int}(k:RK pl sn x.2.1)(hold minute:Int):RK (fV (fR hold minute pl sn) pl pl.length) sn (nX hold minute x.2.1):=by
 refine⟨by rw[lapP_len]; exact k.pln,k.snn,fun i hi=>?_,fun i hi hs=>?_,k.snb⟩
 ·rw[iI _ _ (by rw[k.pln]; exact hi),k.due hold minute hi,k.eq i hi]
  unfold nX
  by_cases c:gy hold minute (x.2.1 (i:Int))=true
  ·rw[if_pos ⟨by rw[k.pln]; exact hi,c⟩,if_pos c]; rfl
  ·rw[if_neg fun e=>c e.2,if_neg c]
 ·unfold nX at hs ⊢
  by_cases c:gy hold minute (x.2.1 (i:Int))=true
  ·rw[if_pos c]at hs; exact absurd hs (by show ¬ ((4:Int)=2); decide)
  ·rw[if_neg c]at hs ⊢; exact k.sne i hi hs
theorem RK.lapS {lens:List Nat}{x:HM}(h:IM lens x){pl:List nZ}{sn:List Int}(k:RK pl sn x.2.1)(hold minute:Int):D.lapS (fR hold minute pl sn) x.1 pl.length=(lapM hold minute x).1:=by
 unfold D.lapS lapM
 refine List.map_congr_left fun l _=>List.map_congr_left fun v _=>?_
 unfold lapV ya
 rw[k.pln]
 by_cases c:0≤v∧v < ((100:Nat):Int)
 ·obtain⟨i,rfl⟩:∃ i:Nat,v=(i:Int):=⟨v.toNat,by omega⟩
  rw[Int.toNat_natCast,k.due hold minute (by omega)]
  by_cases c2:gy hold minute (x.2.1 (i:Int))=true
  ·rw[if_pos ⟨c.1,c.2,c2⟩,if_pos c2]
  ·rw[if_neg fun e=>c2 e.2.2,if_neg c2]
 ·rw[if_neg fun e=>c ⟨e.1,e.2.1⟩,h.dom v (by omega),pS]
  rfl
theorem Ok {lens:List Nat}{x:HM}{pl:List nZ}{sn:List Int}{rows:List Int}{hold minute:Int}(h:IM lens x)(k:RK pl sn x.2.1)(sm:∀ k∈lens,k≤12)(sl:lens.length≤30)(hh:0≤hold∧hold≤100000):
  ∃ pl',dR ((rows,hold),minute,x.1,pl,sn,x.2.2)=some ((lapM hold minute x).1,pl',sn,(lapM hold minute x).2.2)∧RK pl' sn (lapM hold minute x).2.1:=by
 have hlen:=h.len
 have hpl:=k.pln
 refine⟨_,?_,k.lap h hold minute⟩
 rw[GH (by omega) (fun r hr=>by have:=h.row sm hr; omega) (by rw[k.snn,k.pln]) (by omega) hh (fun i hi=>by have:=k.snb i (by omega); omega),k.lapS h]
 rfl
theorem GS {a0 a2:Int}{a1:List aD}{R S:Nat}{h:List Int×Int}{id at' kind n:Int}{sz:Nat}{seats:List (List Int)}{pl:List nZ}{sn vn:List Int}(b1:R < seats.length)(b2:S+sz≤(gt seats R).length)(hl:(gt seats R).length≤1000):
  rW (a0,a1,a2,(R:Int),(S:Int),(S:Int),h,(id,at',kind,n,(sz:Int)),seats,pl,sn,vn)=some (a0,a1,a2,(R:Int),(S:Int),h,(id,at',kind,n,(sz:Int)),seats.set R (cq (gt seats R) S sz n),pl,sn,vn):=by
 have hset:∀ x,gt (seats.set R x) R=x:=fun x=>by rw[dC _ _ _ _ b1,if_pos rfl]
 have hrl:∀ x,R < (seats.set R x).length:=fun x=>by rw[List.length_set]; exact b1
 have key:=aW (step:=fun x=>NQ x.1 x.2.1 x.2.2.1 x.2.2.2.1 x.2.2.2.2.1 x.2.2.2.2.2.1 x.2.2.2.2.2.2.1 x.2.2.2.2.2.2.2.1 x.2.2.2.2.2.2.2.2.1 x.2.2.2.2.2.2.2.2.2.1 x.2.2.2.2.2.2.2.2.2.2.1 x.2.2.2.2.2.2.2.2.2.2.2) sz (fun k=>(a0,a1,a2,(R:Int),(S:Int),((S+k:Nat):Int),h,(id,at',kind,n,(sz:Int)),seats.set R (cq (gt seats R) S k n),pl,sn,vn)) (a0,a1,a2,(R:Int),(S:Int),h,(id,at',kind,n,(sz:Int)),seats.set R (cq (gt seats R) S sz n),pl,sn,vn)
  (fun k hk=>by
   show rV tv qw dR rT cn a0 a1 a2 (R:Int) (S:Int) ((S+k:Nat):Int) h (id,at',kind,n,(sz:Int)) (seats.set R (cq (gt seats R) S k n)) pl sn vn=_
   unfold rV
   have hcl:(cq (gt seats R) S k n).length=(gt seats R).length:=clrL_len' _ _ _ _ (by omega)
   simp only
   rw[am (bk (by omega) (by omega)),decide_eq_true (show((S+k:Nat):Int) < (S:Int)+(sz:Int)by omega),cond_true,am (aE (hrl _)),bJ,hset,am (aE (by rw[hcl]; omega)),am (aM (by omega)),show((R:Int).toNat)=R from rfl,show(((S+k:Nat):Int).toNat)=S+k from rfl,pP _ _ (by omega),List.set_set]
   rfl)
  (by
   show rV tv qw dR rT cn a0 a1 a2 (R:Int) (S:Int) ((S+sz:Nat):Int) h (id,at',kind,n,(sz:Int)) (seats.set R (cq (gt seats R) S sz n)) pl sn vn=_
   unfold rV
   simp only
   rw[am (bk (by omega) (by omega)),decide_eq_false (show ¬ ((S+sz:Nat):Int) < (S:Int)+(sz:Int)by omega),cond_false])
  (by omega)
 simp only[mY,m8 _ b1,Nat.add_zero]at key
 exact key
theorem RK.put {pl:List nZ}{sn:List Int}{g:Int→ib}(k:RK pl sn g){n:Nat}(hn:n < 100)(o:ib)(sn':List Int)(hs:sn'.length=100)(h1:∀ i,i < 100→i≠n→gt sn' i=gt sn i)(h2:o.1=2→gt sn' n=o.2.2.2.2)(h3:0≤gt sn' n∧gt sn' n≤9999):
  RK (pl.set n (prO o)) sn' (iV g (n:Int) o):=by
 have hp:=k.pln
 refine⟨by rw[List.length_set]; exact k.pln,hs,fun i hi=>?_,fun i hi hst=>?_,fun i hi=>?_⟩
 ·rw[dC _ _ _ _ (by omega)]
  unfold iV
  by_cases c:n=i
  ·rw[if_pos c,if_pos (by omega)]
  ·rw[if_neg c,if_neg (by omega)]; exact k.eq i hi
 ·unfold iV at hst ⊢
  by_cases c:(i:Int)=(n:Int)
  ·rw[if_pos c]at hst ⊢
   obtain rfl:i=n:=by omega
   exact h2 hst
  ·rw[if_neg c]at hst ⊢
   rw[h1 i hi (by omega)]
   exact k.sne i hi hst
 ·by_cases c:i=n
  ·subst c; exact h3
  ·rw[h1 i hi c]; exact k.snb i hi
theorem GT {lens:List Nat}{x:HM}{pl:List nZ}{sn:List Int}{rows:List Int}{hold minute:Int}{l:List aD}{i:Nat}(hi:i < l.length)(hll:l.length≤1000)(h:IM lens x)(k:RK pl sn x.2.1)(sm:∀ k∈lens,k≤12)(sl:lens.length≤30)(hh:0≤hold∧hold≤100000)(hc:bu (gt l i))(hm:(gt l i).2.1≤minute)(hv:x.2.2.length≤1000):
  ∃ pl' sn',p52_0 minute l (i:Int) (rows,hold) x.1 pl sn x.2.2=some (Sum.inl (minute,l,((i+1:Nat):Int),(rows,hold),(fj (lapM hold (gt l i).2.1 x) (gt l i)).1,pl',sn',(fj (lapM hold (gt l i).2.1 x) (gt l i)).2.2))∧RK pl' sn' (fj (lapM hold (gt l i).2.1 x) (gt l i)).2.1:=by
 have e:p52_0 minute l (i:Int) (rows,hold) x.1 pl sn x.2.2=nv tv qw dR rT cn rW minute l (i:Int) (rows,hold) x.1 pl sn x.2.2:=rfl
 rw[e]
 unfold nv
 rw[show decide ((i:Int) < (↑(List.length l):Int))=true from aR hi,cond_true,am (aE hi),bJ]
 generalize gt l i=c at hc hm
 obtain⟨id,at',kind,n,size⟩:=c
 obtain⟨h1,h2,h3,h4⟩:=hc
 simp only at h1 h2 h3 h4 hm ⊢
 obtain⟨pl1,e1,k1⟩:=Ok (rows:=rows) (hold:=hold) (minute:=at') h k sm sl hh
 rw[decide_eq_false (by omega),cond_false,e1,aa]
 have hY:=h.lap hold at'
 have hvY:(lapM hold at' x).2.2.length≤1000:=hv
 generalize lapM hold at' x=y at k1 hY hvY ⊢
 have hlen:=hY.len
 have ff:ai .i64 ((i:Int)+1)=true:=aM (by omega)
 obtain⟨m,rfl⟩:∃ m:Nat,n=(m:Int):=⟨n.toNat,by omega⟩
 have hpl:=k1.pln
 have hsn:=k1.snn
 have hg:=k1.eq m (by omega)
 have hst:(gt pl1 m).1=(y.2.1 (m:Int)).1:=by rw[hg]; rfl
 have sb:=k1.snb m (by omega)
 unfold fj
 simp only
 rw[am (aE (by omega)),bJ,hst]
 rcases h3 with⟨rfl,z1,z2⟩ | ⟨hk,rfl⟩
 ·obtain⟨sz,rfl⟩:∃ sz:Nat,size=(sz:Int):=⟨size.toNat,by omega⟩
  simp only[decide_true,cond_true,if_true,Int.toNat_natCast]
  unfold yb
  by_cases h0:(y.2.1 (m:Int)).1=0
  ·rw[if_pos h0,decide_eq_true h0,Bool.not_true,cond_false]
   rw[show rT ((sz:Int),y.1)=_ from SY (fun r hr=>by have:=hY.row sm hr; omega) (by omega) (by omega),aa]
   have hbo:((cZ y.1 sz 0 y.1.length).find? (pB y.1 sz false)).or ((cZ y.1 sz 0 y.1.length).find? (pB y.1 sz true))=bO y.1 sz:=rfl
   rw[hbo]
   cases hb:bO y.1 sz with
   | none=>
    simp only[Bool.not_false,cond_true]
    rw[am (aE (by omega)),am ff]
    exact⟨_,_,rfl,k1.put (by omega) (1,-1,-1,(sz:Int),at') sn hsn (fun _ _ _=>rfl) (fun e=>absurd e (by show ¬ ((1:Int)=2); decide)) sb⟩
   | some c=>
    obtain⟨R,S⟩:=c
    obtain⟨b1,b2,_⟩:=tF hb
    simp only[Bool.not_true,cond_false]
    rw[GS b1 b2 (by have:=hY.row sm b1; simp only at this ⊢; omega),aa]
    simp only
    rw[am (aE (by omega)),am (aE (by omega)),am ff]
    have q1:∀ i,i < 100→i≠m→gt (sn.set m at') i=gt sn i:=fun i hi hne=>by rw[dC _ _ _ _ (by omega),if_neg fun e=>hne e.symm]
    have q2:gt (sn.set m at') m=at':=by rw[dC _ _ _ _ (by omega),if_pos rfl]
    have q3:0≤gt (sn.set m at') m∧gt (sn.set m at') m≤9999:=by rw[q2]; exact h2
    exact⟨_,_,rfl,k1.put (by omega) (2,(R:Int),(S:Int),(sz:Int),at') (sn.set m at') (by rw[List.length_set]; exact hsn) q1 (fun _=>q2) q3⟩
  ·rw[if_neg h0,decide_eq_false h0,Bool.not_false,cond_true,am ff]
   exact⟨_,_,rfl,k1⟩
 ·have n1:kind≠1:=by omega
  rw[decide_eq_false n1,cond_false,if_neg n1]
  rcases hk with rfl | rfl
  ·simp only[decide_true,cond_true,if_true]
   unfold yc
   by_cases h2':(y.2.1 (m:Int)).1=2
   ·rw[if_pos h2',decide_eq_true h2',cond_true,am (aE (by omega)),am ff,hg]
    exact⟨_,_,rfl,k1.put (by omega) (3,(y.2.1 (m:Int)).2) sn hsn (fun _ _ _=>rfl) (fun e=>absurd e (by show ¬ ((3:Int)=2); decide)) sb⟩
   ·rw[if_neg h2',decide_eq_false h2',cond_false,am (cO (by simp; omega)),am ff]
    exact⟨_,_,rfl,k1⟩
  ·rw[show decide ((3:Int)=2)=false from rfl,cond_false,if_neg (by decide),show decide ((3:Int)=3)=true from rfl,cond_true]
   have eP:cn ((m:Int),5,y.1,pl1,sn,y.2.2)=some (iW (m:Int) y.1,pl1.set m (5,-1,-1,(gt pl1 m).2.2.2),sn,y.2.2):=vX (by omega) (fun r hr=>by have:=hY.row sm hr; omega) (by omega)
   have hz:(gt pl1 m).2.2.2=(y.2.1 (m:Int)).2.2.2.1:=by rw[hg]; rfl
   have kd:=k1.put (n:=m) (by omega) (5,-1,-1,(y.2.1 (m:Int)).2.2.2.1,(y.2.1 (m:Int)).2.2.2.2) sn hsn (fun _ _ _=>rfl) (fun e=>absurd e (by show ¬ ((5:Int)=2); decide)) sb
   unfold mZ
   by_cases c2:(y.2.1 (m:Int)).1=2
   ·rw[if_pos (.inl c2),decide_eq_true c2,cond_true,eP,aa]
    simp only
    rw[am ff,hz]
    exact⟨_,_,rfl,kd⟩
   ·rw[decide_eq_false c2,cond_false]
    by_cases c3:(y.2.1 (m:Int)).1=3
    ·rw[if_pos (.inr c3),decide_eq_true c3,cond_true,eP,aa]
     simp only
     rw[am ff,hz]
     exact⟨_,_,rfl,kd⟩
    ·rw[if_neg (fun q=>q.elim c2 c3),decide_eq_false c3,cond_false,am ff]
     exact⟨_,_,rfl,k1⟩
section
variable {α:Type} [Inhabited α] [DecidableEq α]
def iY (l:List α):Nat→List α
 | 0=>[]
 | n+1=>if 0 < n∧gt l n=gt l (n-1)then iY l n else iY l n++[gt l n]
theorem hX (l:List α){n:Nat}(h:n < l.length):l.take (n+1)=l.take n++[gt l n]:=by
 rw[List.take_add_one,List.getElem?_eq_getElem h,cE h]; rfl
theorem fT (l:List α):∀ n,n≤l.length→(∀ k,k+1 < n→gt l (k+1)≠gt l k)→iY l n=l.take n
 | 0,_,_=>by simp[iY]
 | n+1,h,hd=>by
  rw[iY,if_neg,fT l n (by omega) fun k hk=>hd k (by omega),hX l (by omega)]
  rintro⟨h0,e⟩
  have:=hd (n-1) (by omega)
  rw[show n-1+1=n by omega]at this
  exact this e
theorem tH (l:List α):∀ n,∀ x,x∈iY l n↔∃ k,k < n∧gt l k=x
 | 0,x=>by simp[iY]
 | n+1,x=>by
  rw[iY]
  split
  ·rename_i h
   rw[tH l n]
   constructor
   ·rintro⟨k,hk,e⟩; exact⟨k,by omega,e⟩
   ·rintro⟨k,hk,e⟩
    by_cases hkn:k=n
    ·subst hkn; exact⟨k-1,by omega,by rw[← h.2]; exact e⟩
    ·exact⟨k,by omega,e⟩
  ·rw[List.mem_append,tH l n,List.mem_singleton]
   constructor
   ·rintro(⟨k,hk,e⟩ | e)
    ·exact⟨k,by omega,e⟩
    ·exact⟨n,by omega,e.symm⟩
   ·rintro⟨k,hk,e⟩
    by_cases hkn:k=n
    ·subst hkn; exact .inr e.symm
    ·exact .inl ⟨k,by omega,e⟩
theorem ny (l:List α)(x:α):x∈iY l l.length↔x∈l:=by
 rw[tH]
 constructor
 ·rintro⟨k,hk,rfl⟩; exact cW hk
 ·intro h; obtain⟨i,hi,e⟩:=js h; exact⟨i,hi,e⟩
theorem ddN_asc (K:α→Int)(l:List α)(hs:Sd K l 0 l.length)(hk:∀ a∈l,∀ b∈l,K a=K b→a=b):
  ∀ n,n≤l.length→(iY l n).Pairwise (fun a b=>K a < K b)∧∀ x∈iY l n,K x≤K (gt l (n-1))
 | 0,_=>by simp[iY]
 | n+1,h=>by
  obtain⟨h1,h2⟩:=ddN_asc K l hs hk n (by omega)
  rw[iY,Nat.add_sub_cancel]
  split
  ·rename_i c
   exact⟨h1,fun x hx=>by rw[c.2]; exact h2 x hx⟩
  ·rename_i c
   have hlt:∀ x∈iY l n,K x < K (gt l n):=fun x hx=>by
    have hn:0 < n:=by
     cases n with
     | zero=>simp[iY]at hx
     | succ n=>omega
    have q1:=h2 x hx
    have q2:=hs (n-1) n (by omega) (by omega) (by omega)
    have q3:K (gt l (n-1))≠K (gt l n):=fun e=>c ⟨hn,(hk _ (cW (by omega)) _ (cW (by omega)) e).symm⟩
    omega
   refine⟨?_,fun x hx=>?_⟩
   ·rw[List.pairwise_append]
    refine⟨h1,by simp,fun a ha b hb=>?_⟩
    rw[List.mem_singleton.1 hb]
    exact hlt a ha
   ·rcases List.mem_append.1 hx with q | q
    ·exact Int.le_of_lt (hlt x q)
    ·rw[List.mem_singleton.1 q]; exact Int.le_refl _
theorem vP (l:List α)(w n:Nat)(z:α)(h:w≤l.length):(cq l w n z).take w=l.take w:=by
 unfold cq
 rw[List.take_append_of_le_length (by simp; omega),List.take_take,Nat.min_self]
theorem pU (K:α→Int):∀ {l m:List α},l.Pairwise (fun a b=>K a < K b)→m.Pairwise (fun a b=>K a < K b)→(∀ x,x∈l↔x∈m)→l=m
 | [],[],_,_,_=>rfl
 | [],b::m,_,_,h=>absurd ((h b).2 (by simp)) (by simp)
 | a::l,[],_,_,h=>absurd ((h a).1 (by simp)) (by simp)
 | a::l,b::m,hl,hm,h=>by
  rw[List.pairwise_cons]at hl hm
  have e:a=b:=by
   rcases List.mem_cons.1 ((h a).1 (by simp))with q | q
   ·exact q
   ·rcases List.mem_cons.1 ((h b).2 (by simp))with p | p
    ·exact p.symm
    ·have:=hl.1 b p
     have:=hm.1 a q
     omega
  subst e
  congr 1
  refine pU K hl.2 hm.2 fun x=>?_
  constructor
  ·intro hx
   rcases List.mem_cons.1 ((h x).1 (List.mem_cons_of_mem _ hx))with q | q
   ·subst q; have:=hl.1 _ hx; omega
   ·exact q
  ·intro hx
   rcases List.mem_cons.1 ((h x).2 (List.mem_cons_of_mem _ hx))with q | q
   ·subst q; have:=hm.1 _ hx; omega
   ·exact q
end
theorem Ol (a b:aD):((((decide (a.1=b.1)&&decide (a.2.1=b.2.1))&&decide (a.2.2.1=b.2.2.1))&&decide (a.2.2.2.1=b.2.2.2.1))&&decide (a.2.2.2.2=b.2.2.2.2))=decide (a=b):=by
 obtain⟨a1,a2,a3,a4,a5⟩:=a
 obtain⟨b1,b2,b3,b4,b5⟩:=b
 simp only[Prod.mk.injEq]
 by_cases h1:a1=b1 <;> by_cases h2:a2=b2 <;> by_cases h3:a3=b3 <;> by_cases h4:a4=b4 <;> by_cases h5:a5=b5 <;> simp[h1,h2,h3,h4,h5]
theorem GU (l:List (aD)){r:Nat}(hr:0 < r)(hl:r < l.length)(h1000:l.length≤1000)(he:gt l r=gt l (r-1))(hd:∀ k,k+1 < r→gt l (k+1)≠gt l k):
  ∃ y,Fh ((r:Int),(r:Int),((l.length-r:Nat):Int),1,l)=some y∧∃ w l1,y=(((w:Nat):Int),l1)∧l1.length=l.length∧w≤l.length∧l1.take w=iY l l.length:=by
 refine jO (l.length-r-1) (fun t s=>∃ w l1,s=(((w:Nat):Int),(r:Int),((l.length-r:Nat):Int),((t+1:Nat):Int),l1)∧l1.length=l.length∧w≤r+t∧l1.take w=iY l (r+t+1)∧∀ k,w≤k→gt l1 k=gt l k) _
  ⟨r,l,rfl,rfl,by omega,?_,fun _ _=>rfl⟩ (by omega) ?_ ?_
 ·show l.take r=iY l (r+0+1)
  rw[Nat.add_zero,iY,if_pos ⟨hr,he⟩,fT l r (by omega) hd]
 ·rintro t s ht ⟨w,l1,rfl,h1,h2,h3,h4⟩
  have q:((t+1:Nat):Int)-1=((t:Nat):Int):=by omega
  have v1:=h4 (r+(t+1)) (by omega)
  have v2:=h4 (r+t) (by omega)
  simp only[Fg,zG,Int.toNat_natCast,aR (show t+1 < l.length-r by omega),cond_true,aE (show t+1 < l.length-r by omega),q,aE (show t < l.length-r by omega),uR (show(0:Int)≤((t:Nat):Int)by omega) (by omega),au,Dw,v1,v2,
   aE (show w < l1.length by omega),aM (show w < 9223372036854775807 by omega),aM (show t+1 < 9223372036854775807 by omega),Ol]
  have e0:iY l (r+(t+1)+1)=if 0 < r+(t+1)∧gt l (r+(t+1))=gt l (r+t)then iY l (r+t+1)else iY l (r+t+1)++[gt l (r+(t+1))]:=rfl
  by_cases e:gt l (r+(t+1))=gt l (r+t)
  ·simp only[e,decide_true,Bool.not_true,cond_false]
   exact⟨_,rfl,w,l1,rfl,h1,by omega,by rw[e0,if_pos ⟨by omega,e⟩]; exact h3,h4⟩
  ·simp only[e,decide_false,Bool.not_false,cond_true]
   refine⟨_,rfl,w+1,l1.set w (gt l (r+(t+1))),by simp only[rl],by simpa using h1,by omega,?_,fun k hk=>?_⟩
   ·rw[e0,if_neg fun h=>e h.2,← h3,hX _ (by simp; omega),dC _ _ _ _ (by omega),if_pos rfl]
    congr 1
    exact List.take_set_of_le (Nat.le_refl _)
   ·rw[dC _ _ _ _ (by omega),if_neg (by omega)]; exact h4 k (by omega)
 ·rintro s ⟨w,l1,rfl,h1,h2,h3,h4⟩
  have q:l.length-r-1+1=l.length-r:=by omega
  simp only[Fg,zG,Int.toNat_natCast,q,aZ,cond_false]
  refine⟨_,rfl,w,l1,rfl,h1,by omega,?_⟩
  rw[h3]; congr 1; omega
theorem Sv (l:List (aD))(hl:l.length≤1000):tR l=some (iY l l.length):=by
 by_cases hs:l.length < 2
 ·have d:decide ((l.length:Int) < 2)=true:=by simp; omega
  simp only[tR,p82,Vy,d,cond_true]
  rw[fT l l.length (Nat.le_refl _) (fun k hk=>by omega),List.take_length]
 have d:decide ((l.length:Int) < 2)=false:=by simp; omega
 have h:=eK (step:=fun x=>zI x.1 x.2) (l.length-1) (fun k=>(((k+1:Nat):Int),l)) (fun k=>decide (gt l (k+1)=gt l k)) (fun _=>.inl (iY l l.length)) (.inr l)
  (fun k hk hp=>by
   have q:((k+1:Nat):Int)-1=((k:Nat):Int):=by omega
   simp only[zI,zH,aR (show k+1 < l.length by omega),cond_true,aE (show k+1 < l.length by omega),aE (show k < l.length by omega),q,uR (show(0:Int)≤((k:Nat):Int)by omega) (by omega),au,bJ,aM (show k+1 < 9223372036854775807 by omega),Ol]
   by_cases e:gt l (k+1)=gt l k
   ·have hd:∀ j,j+1 < k+1→gt l (j+1)≠gt l j:=fun j hj=>by simpa using hp j (by omega)
    obtain⟨y,y1,w,l1,rfl,y2,y3,y4⟩:=GU l (r:=k+1) (by omega) (by omega) hl e hd
    have c1:(l.length:Int)-((k+1:Nat):Int)=((l.length-(k+1):Nat):Int):=by omega
    have c2:(l1.length:Int)-(w:Int)=((l1.length-w:Nat):Int):=by omega
    have b1:decide ((0:Int)≤((k+1:Nat):Int))=true:=by simp; omega
    have b2:decide (((k+1:Nat):Int)≤(l.length:Int))=true:=by simp; omega
    have b3:∀ n:Nat,decide ((n:Int)≤(n:Int))=true:=fun n=>by simp
    have b4:decide (0 < l.length)=true:=by simp; omega
    have b5:decide ((0:Int)≤(w:Int))=true:=by simp
    have b6:decide ((w:Int)≤(l1.length:Int))=true:=by simp; omega
    have b7:decide (0 < l1.length)=true:=by simp; omega
    simp only[e,decide_true,cond_true,b1,b2,b3,b4,au,c1,Int.toNat_natCast,y1,aa,b5,b6,b7,c2,clrL_len' l1 w (l1.length-w) _ (by omega),vP l1 w _ _ (by omega),y4]
   ·simp only[e,decide_false,cond_false]; rfl)
  (fun _=>by
   have d2:decide (((l.length-1+1:Nat):Int) < (l.length:Int))=false:=by simp; omega
   simp only[zI,zH,d2,cond_false]) (by omega)
 rcases h with⟨k,hk,h1,h2,h3⟩ | ⟨h2,h3⟩
 ·have e:zJ (1,l)=some (.inl (iY l l.length)):=h3
  simp only[tR,p82,Vy,d,cond_false,e,aa,elim_inl]
 ·have e:zJ (1,l)=some (.inr l):=h3
  simp only[tR,p82,Vy,d,cond_false,e,aa,elim_inr]
  rw[fT l l.length (Nat.le_refl _) (fun k hk=>by simpa using h2 k (by omega)),List.take_length]
theorem GV (l:List (Int)){r:Nat}(hr:0 < r)(hl:r < l.length)(h1000:l.length≤1000)(he:gt l r=gt l (r-1))(hd:∀ k,k+1 < r→gt l (k+1)≠gt l k):
  ∃ y,Gm ((r:Int),(r:Int),((l.length-r:Nat):Int),1,l)=some y∧∃ w l1,y=(((w:Nat):Int),l1)∧l1.length=l.length∧w≤l.length∧l1.take w=iY l l.length:=by
 refine jO (l.length-r-1) (fun t s=>∃ w l1,s=(((w:Nat):Int),(r:Int),((l.length-r:Nat):Int),((t+1:Nat):Int),l1)∧l1.length=l.length∧w≤r+t∧l1.take w=iY l (r+t+1)∧∀ k,w≤k→gt l1 k=gt l k) _
  ⟨r,l,rfl,rfl,by omega,?_,fun _ _=>rfl⟩ (by omega) ?_ ?_
 ·show l.take r=iY l (r+0+1)
  rw[Nat.add_zero,iY,if_pos ⟨hr,he⟩,fT l r (by omega) hd]
 ·rintro t s ht ⟨w,l1,rfl,h1,h2,h3,h4⟩
  have q:((t+1:Nat):Int)-1=((t:Nat):Int):=by omega
  have v1:=h4 (r+(t+1)) (by omega)
  have v2:=h4 (r+t) (by omega)
  simp only[Gl,Ac,Int.toNat_natCast,aR (show t+1 < l.length-r by omega),cond_true,aE (show t+1 < l.length-r by omega),q,aE (show t < l.length-r by omega),uR (show(0:Int)≤((t:Nat):Int)by omega) (by omega),au,Dw,v1,v2,
   aE (show w < l1.length by omega),aM (show w < 9223372036854775807 by omega),aM (show t+1 < 9223372036854775807 by omega),Ol]
  have e0:iY l (r+(t+1)+1)=if 0 < r+(t+1)∧gt l (r+(t+1))=gt l (r+t)then iY l (r+t+1)else iY l (r+t+1)++[gt l (r+(t+1))]:=rfl
  by_cases e:gt l (r+(t+1))=gt l (r+t)
  ·simp only[e,decide_true,Bool.not_true,cond_false]
   exact⟨_,rfl,w,l1,rfl,h1,by omega,by rw[e0,if_pos ⟨by omega,e⟩]; exact h3,h4⟩
  ·simp only[e,decide_false,Bool.not_false,cond_true]
   refine⟨_,rfl,w+1,l1.set w (gt l (r+(t+1))),by simp only[rl],by simpa using h1,by omega,?_,fun k hk=>?_⟩
   ·rw[e0,if_neg fun h=>e h.2,← h3,hX _ (by simp; omega),dC _ _ _ _ (by omega),if_pos rfl]
    congr 1
    exact List.take_set_of_le (Nat.le_refl _)
   ·rw[dC _ _ _ _ (by omega),if_neg (by omega)]; exact h4 k (by omega)
 ·rintro s ⟨w,l1,rfl,h1,h2,h3,h4⟩
  have q:l.length-r-1+1=l.length-r:=by omega
  simp only[Gl,Ac,Int.toNat_natCast,q,aZ,cond_false]
  refine⟨_,rfl,w,l1,rfl,h1,by omega,?_⟩
  rw[h3]; congr 1; omega
theorem Sw (l:List (Int))(hl:l.length≤1000):Cp l=some (iY l l.length):=by
 by_cases hs:l.length < 2
 ·have d:decide ((l.length:Int) < 2)=true:=by simp; omega
  simp only[Cp,p45,WP,d,cond_true]
  rw[fT l l.length (Nat.le_refl _) (fun k hk=>by omega),List.take_length]
 have d:decide ((l.length:Int) < 2)=false:=by simp; omega
 have h:=eK (step:=fun x=>Ae x.1 x.2) (l.length-1) (fun k=>(((k+1:Nat):Int),l)) (fun k=>decide (gt l (k+1)=gt l k)) (fun _=>.inl (iY l l.length)) (.inr l)
  (fun k hk hp=>by
   have q:((k+1:Nat):Int)-1=((k:Nat):Int):=by omega
   simp only[Ae,Ad,aR (show k+1 < l.length by omega),cond_true,aE (show k+1 < l.length by omega),aE (show k < l.length by omega),q,uR (show(0:Int)≤((k:Nat):Int)by omega) (by omega),au,bJ,aM (show k+1 < 9223372036854775807 by omega),Ol]
   by_cases e:gt l (k+1)=gt l k
   ·have hd:∀ j,j+1 < k+1→gt l (j+1)≠gt l j:=fun j hj=>by simpa using hp j (by omega)
    obtain⟨y,y1,w,l1,rfl,y2,y3,y4⟩:=GV l (r:=k+1) (by omega) (by omega) hl e hd
    have c1:(l.length:Int)-((k+1:Nat):Int)=((l.length-(k+1):Nat):Int):=by omega
    have c2:(l1.length:Int)-(w:Int)=((l1.length-w:Nat):Int):=by omega
    have b1:decide ((0:Int)≤((k+1:Nat):Int))=true:=by simp; omega
    have b2:decide (((k+1:Nat):Int)≤(l.length:Int))=true:=by simp; omega
    have b3:∀ n:Nat,decide ((n:Int)≤(n:Int))=true:=fun n=>by simp
    have b4:decide (0 < l.length)=true:=by simp; omega
    have b5:decide ((0:Int)≤(w:Int))=true:=by simp
    have b6:decide ((w:Int)≤(l1.length:Int))=true:=by simp; omega
    have b7:decide (0 < l1.length)=true:=by simp; omega
    simp only[e,decide_true,cond_true,b1,b2,b3,b4,au,c1,Int.toNat_natCast,y1,aa,b5,b6,b7,c2,clrL_len' l1 w (l1.length-w) _ (by omega),vP l1 w _ _ (by omega),y4]
   ·simp only[e,decide_false,cond_false]; rfl)
  (fun _=>by
   have d2:decide (((l.length-1+1:Nat):Int) < (l.length:Int))=false:=by simp; omega
   simp only[Ae,Ad,d2,cond_false]) (by omega)
 rcases h with⟨k,hk,h1,h2,h3⟩ | ⟨h2,h3⟩
 ·have e:Af (1,l)=some (.inl (iY l l.length)):=h3
  simp only[Cp,p45,WP,d,cond_false,e,aa,elim_inl]
 ·have e:Af (1,l)=some (.inr l):=h3
  simp only[Cp,p45,WP,d,cond_false,e,aa,elim_inr]
  rw[fT l l.length (Nat.le_refl _) (fun k hk=>by simpa using h2 k (by omega)),List.take_length]
def kc (c:aD):Int:=c.2.1*100+c.1
theorem Om {a b:aD}(ha:bu a)(hb:bu b):kc a < kc b↔a.2.1 < b.2.1∨(a.2.1=b.2.1∧a.1 < b.1):=by
 have h1:=ha.1
 have h2:=hb.1
 unfold kc
 omega
theorem GW {a b:aD}(ha:bu a)(hb:bu b)(h:kc a=kc b):a.1=b.1:=by
 have h1:=ha.1
 have h2:=hb.1
 unfold kc at h
 omega
theorem GX {l m:List aD}{i k:Nat}{at':Int}{kn:Bool}(hi:i < l.length)(hk:k < m.length)(hm:m.length≤1000)(ha:bu (gt m k))(hb:bu (gt l i)):
  rQ l m (i:Int) at' kn (k:Int)=some (.inl (l,m,(i:Int),(if kc (gt m k) < kc (gt l i)then(k:Int)+1 else at'),(kn||decide (gt m k=gt l i)),(k:Int)+1)):=by
 unfold rQ
 have f:ai .i64 ((k:Int)+1)=true:=aM (by omega)
 simp only[aR hk,cond_true,aE hk,aE hi,au,bJ,f,Ol]
 have hlt:=Om ha hb
 by_cases h1:(gt m k).2.1 < (gt l i).2.1
 ·rw[if_pos (hlt.2 (.inl h1)),decide_eq_true h1]
  cases kn <;> rfl
 ·rw[decide_eq_false h1]
  by_cases h2:(gt m k).2.1=(gt l i).2.1
  ·rw[decide_eq_true h2]
   by_cases h3:(gt m k).1 < (gt l i).1
   ·rw[if_pos (hlt.2 (.inr ⟨h2,h3⟩)),decide_eq_true h3]
    cases kn <;> rfl
   ·rw[if_neg (fun h=>(hlt.1 h).elim h1 fun h=>h3 h.2),decide_eq_false h3]
    cases kn <;> rfl
  ·rw[if_neg (fun h=>(hlt.1 h).elim h1 fun h=>h2 h.1),decide_eq_false h2]
   cases kn <;> rfl
theorem GY {l m:List aD}{i:Nat}(hi:i < l.length)(hm:m.length≤1000)(ha:∀ x∈m,bu x)(hb:bu (gt l i))(hs:m.Pairwise (fun a b=>kc a < kc b)):
  ∃ w:Nat,∃ kn:Bool,L71_1 (l,m,(i:Int),0,false,0)=some (l,m,(i:Int),(w:Int),kn)∧w≤m.length∧(∀ j,j < m.length→(kc (gt m j) < kc (gt l i)↔j < w))∧(kn=true↔gt l i∈m):=by
 have key:=jO (step:=fun x=>Ns x.1 x.2.1 x.2.2.1 x.2.2.2.1 x.2.2.2.2.1 x.2.2.2.2.2) m.length
  (fun k s=>∃ w:Nat,∃ kn:Bool,s=(l,m,(i:Int),(w:Int),kn,(k:Int))∧w≤k∧(∀ j,j < k→(kc (gt m j) < kc (gt l i)↔j < w))∧(kn=true↔∃ j,j < k∧gt m j=gt l i))
  (fun y=>∃ w:Nat,∃ kn:Bool,y=(l,m,(i:Int),(w:Int),kn)∧w≤m.length∧(∀ j,j < m.length→(kc (gt m j) < kc (gt l i)↔j < w))∧(kn=true↔gt l i∈m))
  (x:=(l,m,(i:Int),0,false,0))
  ⟨0,false,rfl,Nat.le_refl _,fun j hj=>by omega,by constructor <;> simp⟩ (by omega)
  (by
   rintro k s hk ⟨w,kn,rfl,h1,h2,h3⟩
   refine⟨_,GX hi hk hm (ha _ (cW hk)) hb,(if kc (gt m k) < kc (gt l i)then k+1 else w),(kn||decide (gt m k=gt l i)),?_,?_,?_,?_⟩
   ·split <;> simp
   ·split <;> omega
   ·intro j hj
    by_cases c:kc (gt m k) < kc (gt l i)
    ·rw[if_pos c]
     refine⟨fun _=>hj,fun _=>?_⟩
     by_cases e:j=k
     ·rw[e]; exact c
     ·have:=List.pairwise_iff_getElem.1 hs j k (by omega) hk (by omega)
      rw[← cE (show j < m.length by omega),← cE hk]at this
      omega
    ·rw[if_neg c]
     by_cases e:j=k
     ·subst e; exact⟨fun h=>absurd h c,fun h=>by omega⟩
     ·exact h2 j (by omega)
   ·rw[Bool.or_eq_true,h3,decide_eq_true_eq]
    constructor
    ·rintro(⟨j,hj,e⟩ | e)
     ·exact⟨j,by omega,e⟩
     ·exact⟨k,by omega,e⟩
    ·rintro⟨j,hj,e⟩
     by_cases c:j=k
     ·subst c; exact .inr e
     ·exact .inl ⟨j,by omega,e⟩)
  (by
   rintro s ⟨w,kn,rfl,h1,h2,h3⟩
   refine⟨(l,m,(i:Int),(w:Int),kn),?_,w,kn,rfl,h1,h2,?_⟩
   ·show rQ l m (i:Int) (w:Int) kn (m.length:Int)=_
    unfold rQ
    rw[show decide ((m.length:Int) < (↑(List.length m):Int))=false from aZ _,cond_false]
   ·rw[h3]
    constructor
    ·rintro⟨j,hj,e⟩; rw[← e]; exact cW hj
    ·intro h; obtain⟨j,hj,e⟩:=js h; exact⟨j,hj,e⟩)
 obtain⟨y,h1,w,kn,rfl,h2⟩:=key
 exact⟨w,kn,h1,h2⟩
theorem Kc {m:List aD}{c:aD}{w:Nat}(hw:w≤m.length)(hs:m.Pairwise (fun a b=>kc a < kc b))(h1:∀ j,j < m.length→(kc (gt m j) < kc c↔j < w))(h2:∀ x∈m,kc x≠kc c):
  (m.take w++c::m.drop w).Pairwise (fun a b=>kc a < kc b):=by
 have hs':=hs
 rw[← List.take_append_drop w m,List.pairwise_append]at hs'
 obtain⟨p1,p2,p3⟩:=hs'
 have lo:∀ x∈m.take w,kc x < kc c:=fun x hx=>by
  obtain⟨j,hj,e⟩:=js hx
  rw[List.length_take]at hj
  rw[sX _ _ _ (by omega)]at e
  rw[← e]
  exact(h1 j (by omega)).2 (by omega)
 have hi:∀ x∈m.drop w,kc c < kc x:=fun x hx=>by
  obtain⟨j,hj,e⟩:=js hx
  rw[List.length_drop]at hj
  rw[Is]at e
  have q:=h1 (w+j) (by omega)
  have q2:=h2 x (List.mem_of_mem_drop hx)
  rw[e]at q
  omega
 rw[List.pairwise_append]
 refine⟨p1,List.pairwise_cons.2 ⟨hi,p2⟩,fun a ha b hb=>?_⟩
 rcases List.mem_cons.1 hb with rfl | hb
 ·exact lo a ha
 ·exact p3 a ha b hb
theorem Kd {m:List aD}{c:aD}(w:Nat)(x:aD):x∈m.take w++c::m.drop w↔x=c∨x∈m:=by
 rw[List.mem_append,List.mem_cons]
 constructor
 ·rintro(h | h | h)
  ·exact .inr (List.mem_of_mem_take h)
  ·exact .inl h
  ·exact .inr (List.mem_of_mem_drop h)
 ·rintro(h | h)
  ·exact .inr (.inl h)
  ·rw[← List.take_append_drop w m,List.mem_append]at h
   rcases h with h | h
   ·exact .inl h
   ·exact .inr (.inr h)
def jw (l:List aD):Prop:=∀ a∈l,∀ b∈l,a.1=b.1→a=b
theorem Sx (l:List aD)(hl:l.length≤1000)(hv:∀ c∈l,bu c)(hk:jw l):
  ∃ m,qw l=some m∧m.Pairwise (fun a b=>kc a < kc b)∧(∀ x,x∈m↔x∈l)∧m.length≤l.length:=by
 have key:=jO (step:=fun x=>Nu x.1 x.2.1 x.2.2) l.length
  (fun k s=>∃ m,s=(l,m,(k:Int))∧m.length≤k∧m.Pairwise (fun a b=>kc a < kc b)∧∀ x,x∈m↔x∈l.take k)
  (fun y=>y.Pairwise (fun a b=>kc a < kc b)∧(∀ x,x∈y↔x∈l)∧y.length≤l.length)
  (x:=(l,[],0)) ⟨[],rfl,Nat.le_refl _,by simp,by simp⟩ (by omega)
  (by
   rintro k s hk' ⟨m,rfl,h1,h2,h3⟩
   have hml:∀ x∈m,x∈l:=fun x hx=>List.mem_of_mem_take ((h3 x).1 hx)
   obtain⟨w,kn,e1,e2,e3,e4⟩:=GY hk' (by omega) (fun x hx=>hv x (hml x hx)) (hv _ (cW hk')) h2
   have f:ai .i64 ((k:Int)+1)=true:=aM (by omega)
   have ht:=hX l hk'
   show ∃ s',q71_0 L71_1 l m (k:Int)=some (Sum.inl s')∧_
   unfold q71_0
   rw[show decide ((k:Int) < (↑(List.length l):Int))=true from aR hk',cond_true,e1,aa]
   cases kn with
   | true=>
    simp only[Bool.not_true,cond_false]
    rw[am f]
    refine⟨_,rfl,m,rfl,by omega,h2,fun x=>?_⟩
    rw[h3,ht,List.mem_append,List.mem_singleton]
    constructor
    ·exact .inl
    ·rintro(h | h)
     ·exact h
     ·rw[h]; exact(h3 _).1 (e4.1 rfl)
   | false=>
    simp only[Bool.not_false,cond_true]
    have c1:pb m (w:Int) (m.length:Int)=m.drop w:=by
     unfold pb
     simp[List.take_of_length_le]
    have c2:pb m 0 (w:Int)=m.take w:=by
     unfold pb
     simp
    rw[am (aE hk'),am (decide_eq_true (by omega)),am (decide_eq_true (show(w:Int)≤(↑(List.length m):Int)by omega)),am (decide_eq_true (Int.le_refl _)),show pb m (w:Int) (↑(List.length m):Int)=m.drop w from c1,c2,bJ,
     am (cO (by simp; omega)),am (decide_eq_true (Int.le_refl _)),am (decide_eq_true (by omega)),am (decide_eq_true (show(w:Int)≤(↑(List.length m):Int)by omega)),am (cO (by simp; omega)),am (cO (by simp; omega)),am f]
    have hn:gt l k∉m:=fun h=>by have:=e4.2 h; cases this
    refine⟨_,rfl,m.take w++gt l k::m.drop w,rfl,by simp; omega,Kc e2 h2 e3 (fun x hx e=>hn ?_),fun x=>?_⟩
    ·rw[← hk x (hml x hx) _ (cW hk') (GW (hv x (hml x hx)) (hv _ (cW hk')) e)]
     exact hx
    ·rw[Kd,h3,ht,List.mem_append,List.mem_singleton]
     exact Or.comm)
  (by
   rintro s ⟨m,rfl,h1,h2,h3⟩
   refine⟨m,?_,h2,by rw[List.take_length]at h3; exact h3,h1⟩
   show q71_0 L71_1 l m (l.length:Int)=_
   unfold q71_0
   rw[show decide ((l.length:Int) < (↑(List.length l):Int))=false from aZ _,cond_false])
 obtain⟨m,h1,h2,h3⟩:=key
 refine⟨m,?_,h2,h3⟩
 show q71 Al l=_
 unfold q71
 rw[show Al (l,[],0)=some m from h1]
 rfl
namespace Pdq109
abbrev E:=aD
section
variable {β:Type} [Inhabited β] {v:β→E} {C:β→β→Int}
def lt (C:β→β→Int)(x y:β):Bool:=decide (C x y < 0)
theorem wa (x y:β):decide (C x y < 0)=lt C x y:=rfl
theorem eL (a:Nat):∀ (j:Nat) (d:Array β),(Sort.insInner (lt C) a j d).size=d.size
 | 0,d=>by rw[Sort.insInner]
 | j+1,d=>by
  rw[Sort.insInner]
  split
  ·rw[eL a j,aw]
  ·rfl
theorem eM (hi first:Nat):∀ (n root:Nat) (d:Array β),hi-root≤n→(Sort.siftDown (lt C) hi first root d).size=d.size:=by
 intro n
 induction n with
 | zero=>intro root d h; rw[Sort.siftDown,dif_pos (by omega)]
 | succ n ih=>
  intro root d h
  rw[Sort.siftDown]
  split
  ·rfl
  ·split
   ·split
    ·rfl
    ·rw[dif_pos (by rename_i h1 h2 h3; simp only[Bool.and_eq_true,decide_eq_true_eq]at h2; omega),ih _ _ (by omega),aw]
   ·split
    ·rfl
    ·rw[ih _ _ (by omega),aw]
theorem dO (hi first:Nat):∀ (k:Nat) (d:Array β),(Sort.heapBuild (lt C) hi first k d).size=d.size
 | 0,d=>rfl
 | k+1,d=>by rw[Sort.heapBuild,dO hi first k,eM hi first _ k d (Nat.le_refl _)]
variable (hC:∀ x y,P80 (v x,v y)=some (C x y))
include hC
theorem Te {a b i:Nat}{j:Nat}{d:Array β}(h1:j < d.size)(h2:d.size≤250)(h3:a≤250):
  wR ((a:Int),(b:Int),(i:Int),(j:Int),MA v d)=some ((a:Int),(b:Int),(i:Int),MA v (Sort.insInner (lt C) a j d)):=by
 refine aK (fun s r n=>∃ (j:Nat) (d:Array β),j < d.size∧d.size≤250∧s=((a:Int),(b:Int),(i:Int),(j:Int),MA v d)∧r=((a:Int),(b:Int),(i:Int),MA v (Sort.insInner (lt C) a j d))∧n=j) ⟨j,d,h1,h2,rfl,rfl,rfl⟩ (by omega) ?_
 rintro s r n ⟨j,d,q1,q2,rfl,rfl,rfl⟩
 simp only[DT,wQ]
 cases n with
 | zero=>left; simp(disch:=omega) only[iM,dF,cond_false,Sort.insInner]
 | succ j=>
  by_cases e:a < j+1
  ·simp(disch:=omega) only[iM,dT,cond_true,aH,au,p1,aI,aS,hC,aa,wa,Nat.add_sub_cancel,Int.toNat_natCast]
   cases hl:lt C d[j+1]! d[j]!
   ·left
    rw[show Sort.insInner (lt C) a (j+1) d=d by rw[Sort.insInner]; simp[hl]]
    simp only[cond_false]
   ·right
    rw[show Sort.insInner (lt C) a (j+1) d=Sort.insInner (lt C) a j (Sort.swp d (j+1) j)by rw[Sort.insInner]; simp[hl,e]]
    simp(disch:=omega) only[cond_true,bC,aX,bD,au]
    exact⟨_,j,rfl,⟨j,Sort.swp d (j+1) j,by rw[aw]; omega,by rwa [aw],rfl,rfl,rfl⟩,by omega⟩
  ·left
   rw[show Sort.insInner (lt C) a (j+1) d=d by rw[Sort.insInner]; simp[e]]
   simp(disch:=omega) only[iM,dF,cond_false]
theorem ins {a b:Nat}{d:Array β}(hb:b≤d.size)(hz:d.size≤250)(ha:a≤250):gQ ((a:Int),(b:Int),MA v d)=some (MA v (Sort.insertionSort (lt C) d a b)):=by
 have e:wT ((a:Int),(b:Int),((a+1:Nat):Int),MA v d)=some (MA v (Sort.insOuter (lt C) a b (a+1) d)):=by
  refine aK (fun s r n=>∃ (i:Nat) (d:Array β),b≤d.size∧d.size≤250∧s=((a:Int),(b:Int),(i:Int),MA v d)∧r=MA v (Sort.insOuter (lt C) a b i d)∧n=b-i) ⟨a+1,d,hb,hz,rfl,rfl,rfl⟩ (by omega) ?_
  rintro s r n ⟨i,d,q1,q2,rfl,rfl,rfl⟩
  simp only[DW,wS]
  rw[Sort.insOuter]
  by_cases e:i < b
  ·right
   simp(disch:=omega) only[iM,dT,cond_true,Te hC,aa,aI,au,a1]
   exact⟨_,b-(i+1),rfl,⟨i+1,Sort.insInner (lt C) a i d,by rwa [eL],by rwa [eL],rfl,by rw[if_pos e],rfl⟩,by omega⟩
  ·left
   simp(disch:=omega) only[iM,dF,cond_false,if_neg e]
 simp(disch:=omega) only[gQ,U1,P9,aI,au,a1,e,aa,Sort.insertionSort]
theorem Hj {lo hi first:Nat}{d:Array β}(hs:first+hi≤d.size)(hl:lo < hi∨hi=0)(hz:d.size≤250)(h0:lo≤250):kT ((lo:Int),(hi:Int),(first:Int),MA v d)=some (MA v (Sort.siftDown (lt C) hi first lo d)):=by
 have key:∃ y,wV ((hi:Int),(first:Int),(lo:Int),MA v d)=some y∧Sum.elim id id y=MA v (Sort.siftDown (lt C) hi first lo d):=by
  refine iH (fun s n=>∃ (root:Nat) (d':Array β),first+hi≤d'.size∧(root < hi∨hi=0)∧d'.size≤250∧root≤250∧s=((hi:Int),(first:Int),(root:Int),MA v d')∧Sort.siftDown (lt C) hi first root d'=Sort.siftDown (lt C) hi first lo d∧n=hi-root) _
   ⟨lo,d,hs,hl,hz,h0,rfl,rfl,rfl⟩ (by omega) ?_
  rintro s n ⟨root,d',g1,g0,g2,g3,rfl,g4,rfl⟩
  rw[← g4]
  clear g4
  simp only[Ea,wU]
  rw[Sort.siftDown]
  by_cases e:hi≤2*root+1
  ·left
   simp(disch:=omega) only[m2,aI,au,aI,a1,ia,dT,cond_true,dif_pos (show 2*root+1≥hi from e)]
   exact⟨_,rfl,rfl⟩
  ·simp(disch:=omega) only[m2,aI,au,aI,a1,ia,iM,dF,cond_false,dif_neg (show ¬ 2*root+1≥hi from e),an]
   by_cases e2:2*root+1+1 < hi
   ·simp(disch:=omega) only[dT,cond_true,aI,au,aH,aS,hC,aa,wa,Bool.true_and]
    cases hl1:lt C d'[first+(2*root+1)]! d'[first+(2*root+1)+1]!
    ·simp(disch:=omega) only[cond_false,aI,au,aH,aS,hC,aa,wa,Bool.false_eq_true,if_false]
     cases hl2:lt C d'[first+root]! d'[first+(2*root+1)]!
     ·left; simp only[Bool.not_false,cond_true,if_true]; exact⟨_,rfl,rfl⟩
     ·right
      simp(disch:=omega) only[Bool.not_true,cond_false,Bool.false_eq_true,if_false,aH,au,Int.toNat_natCast,bC,aX,bD]
      exact⟨_,hi-(2*root+1),rfl,⟨2*root+1,Sort.swp d' (first+root) (first+(2*root+1)),by rw[aw]; omega,by omega,by rw[aw]; omega,by omega,rfl,rfl,rfl⟩,by omega⟩
    ·simp(disch:=omega) only[cond_true,aI,au,aH,aS,hC,aa,wa,if_true]
     cases hl2:lt C d'[first+root]! d'[first+(2*root+1+1)]!
     ·left
      have hl2':lt C d'[first+root]! d'[first+(2*root+2)]! = false:=hl2
      simp only[Bool.not_false,cond_true,hl2',if_true]; exact⟨_,rfl,rfl⟩
     ·right
      have hl2':lt C d'[first+root]! d'[first+(2*root+2)]! = true:=hl2
      simp(disch:=omega) only[hl2',Bool.not_true,cond_false,Bool.false_eq_true,if_false,aH,au,Int.toNat_natCast,bC,aX,bD,dif_pos (show 2*root+2 < hi from e2)]
      exact⟨_,hi-(2*root+1+1),rfl,⟨2*root+1+1,Sort.swp d' (first+root) (first+(2*root+2)),by rw[aw]; omega,by omega,by rw[aw]; omega,by omega,rfl,rfl,rfl⟩,by omega⟩
   ·simp(disch:=omega) only[dF,cond_false,aI,au,aH,aS,hC,aa,wa,Bool.false_and,Bool.false_eq_true,if_false]
    cases hl2:lt C d'[first+root]! d'[first+(2*root+1)]!
    ·left; simp only[Bool.not_false,cond_true,if_true]; exact⟨_,rfl,rfl⟩
    ·right
     simp(disch:=omega) only[Bool.not_true,cond_false,Bool.false_eq_true,if_false,aH,au,Int.toNat_natCast,bC,aX,bD]
     exact⟨_,hi-(2*root+1),rfl,⟨2*root+1,Sort.swp d' (first+root) (first+(2*root+1)),by rw[aw]; omega,by omega,by rw[aw]; omega,by omega,rfl,rfl,rfl⟩,by omega⟩
 obtain⟨y,e1,e2⟩:=key
 simp only[kT,U3,Qc,e1,aa]
 cases y with
 | inl x=>simp only[Sum.elim_inl]; rw[← e2]; rfl
 | inr x=>simp only[Sum.elim_inr]; rw[← e2]; rfl
theorem heap {a b:Nat}{d:Array β}(hab:a < b)(hb:b≤d.size)(hz:d.size≤250):gR ((a:Int),(b:Int),MA v d)=some (MA v (Sort.heapSort (lt C) d a b)):=by
 have c0:∀ k:Nat,(0:Int)=((0:Nat):Int):=fun _=>rfl
 have e1:∀ (k:Nat),k≤b-a→wX ((a:Int),0,((b-a:Nat):Int),(k:Int)-1,MA v d)=some ((a:Int),0,((b-a:Nat):Int),MA v (Sort.heapBuild (lt C) (b-a) a k d)):=fun k hk=>by
  refine aK (fun s r n=>∃ (k:Nat) (d':Array β),k≤b-a∧d'.size=d.size∧s=((a:Int),0,((b-a:Nat):Int),(k:Int)-1,MA v d')∧r=((a:Int),0,((b-a:Nat):Int),MA v (Sort.heapBuild (lt C) (b-a) a k d'))∧n=k) ⟨k,d,hk,rfl,rfl,rfl,rfl⟩ (by omega) ?_
  rintro s r n ⟨k,d',q1,q2,rfl,rfl,rfl⟩
  simp only[Eh,wW]
  cases n with
  | zero=>left; rfl
  | succ k=>
   right
   have g1:((k+1:Nat):Int)-1=(k:Int):=by omega
   have g2:decide ((0:Int)≤(k:Int))=true:=by simp
   simp(disch:=omega) only[g1,g2,cond_true,Hj hC,aa,nu,au]
   exact⟨_,k,rfl,⟨k,Sort.siftDown (lt C) (b-a) a k d',by omega,by rw[eM _ _ _ _ _ (Nat.le_refl _),q2],rfl,rfl,rfl⟩,by omega⟩
 have e2:∀ (d:Array β) (k:Nat),k≤b-a→b≤d.size→d.size≤250→wZ ((a:Int),0,(k:Int)-1,MA v d)=some (MA v (Sort.heapPop (lt C) a k d)):=fun d k hk hb hz=>by
  refine aK (fun s r n=>∃ (k:Nat) (d':Array β),k≤b-a∧d'.size=d.size∧s=((a:Int),0,(k:Int)-1,MA v d')∧r=MA v (Sort.heapPop (lt C) a k d')∧n=k) ⟨k,d,hk,rfl,rfl,rfl,rfl⟩ (by omega) ?_
  rintro s r n ⟨k,d',q1,q2,rfl,rfl,rfl⟩
  simp only[Ej,wY]
  cases n with
  | zero=>left; rfl
  | succ k=>
   right
   have g1:((k+1:Nat):Int)-1=(k:Int):=by omega
   have g2:decide ((0:Int)≤(k:Int))=true:=by simp
   have g3:kT (0,(k:Int),(a:Int),MA v (Sort.swp d' a (a+k)))=some (MA v (Sort.siftDown (lt C) k a 0 (Sort.swp d' a (a+k)))):=Hj hC (lo:=0) (by rw[aw]; omega) (by omega) (by rw[aw]; omega) (by omega)
   simp(disch:=omega) only[g1,g2,cond_true,an,aI,au,aH,aS,Int.toNat_natCast,bC,aX,bD,g3,aa,nu]
   exact⟨_,k,rfl,⟨k,Sort.siftDown (lt C) k a 0 (Sort.swp d' a (a+k)),by omega,by rw[eM _ _ _ _ _ (Nat.le_refl _),aw,q2],rfl,rfl,rfl⟩,by omega⟩
 have t1:((b-a-1:Nat):Int)=(b:Int)-(a:Int)-1:=by omega
 have t2:Int.tdiv ((b-a-1:Nat):Int) 2=((b-a-1) / 2:Nat):=Cl _
 have e1':=e1 ((b-a-1) / 2+1) (by omega)
 rw[show(((b-a-1) / 2+1:Nat):Int)-1=(((b-a-1) / 2:Nat):Int)by omega]at e1'
 have e2':=e2 (Sort.heapBuild (lt C) (b-a) a ((b-a-1) / 2+1) d) (b-a) (Nat.le_refl _) (by rw[dO]; exact hb) (by rw[dO]; exact hz)
 simp(disch:=omega) only[gR,U5,Qh,pn,aI,au,p1,t2,e1',aa,nu]
 rw[show((b-a-1:Nat):Int)=((b-a:Nat):Int)-1 by omega]
 simp(disch:=omega) only[nu,au,e2',aa,Sort.heapSort]
omit hC
theorem Hk {n:Nat}(h:n < 256):P67 (n:Int)=some ((Sort.bitsLen n:Nat):Int):=by
 have f:ai .u8 (n:Int)=true:=by
  rw[ai,decide_eq_true_eq]
  have e2:(2:Int)^8=256:=by decide
  simp only[IntKind.wrap,IntKind.bits,IntKind.signed,Bool.false_and,e2,Bool.false_eq_true,if_false]
  omega
 have d1:decide ((4294967296:Int)≤(n:Int))=false:=by simp; omega
 have d2:decide ((65536:Int)≤(n:Int))=false:=by simp; omega
 have d3:decide ((256:Int)≤(n:Int))=false:=by simp; omega
 simp only[P67,p67,q67,P95,p95,q95,zn,DN,zm,d1,cond_false,aa,d2,d3,f,au]
 have key:∀ m:Fin 256,∀ t:ByteArray,t=tb→aC (m.val:Int) t.size=true∧yM t (m.val:Int)=((Sort.bitsLen m.val:Nat):Int):=by
  intro m t ht
  subst ht
  constructor
  ·exact aE (by have:=m.isLt; exact this)
  ·revert m; decide +kernel
 obtain⟨k1,k2⟩:=key ⟨n,h⟩ _ rfl
 simp only at k1 k2
 have hl:=(Sort.bitsLen_le_iff n 8).2 (by omega)
 have z:(0:Int)+((Sort.bitsLen n:Nat):Int)=((Sort.bitsLen n:Nat):Int):=by omega
 simp(disch:=omega) only[k1,au,k2,z,aI,aa]
theorem npt {n:Nat}(h:n < 256):gS (n:Int)=some (((1 <<< Sort.bitsLen n:Nat)):Int):=by
 have hl:=(Sort.bitsLen_le_iff n 8).2 (by omega)
 have f:ai .u64 (n:Int)=true:=nt (by omega) (by omega)
 have d:decide ((0:Int)≤((Sort.bitsLen n:Nat):Int))=true:=by simp
 have e:gq .u64 1 ((Sort.bitsLen n:Nat):Int)=((1 <<< Sort.bitsLen n:Nat):Int):=by
  have hm:min ((Sort.bitsLen n:Nat):Int).toNat (IntKind.bits .u64)=Sort.bitsLen n:=by show min (Sort.bitsLen n) 64=_; omega
  have h2:2^Sort.bitsLen n≤2^8:=Nat.pow_le_pow_right (by omega) hl
  unfold gq
  rw[hm,show((1:Int)*2^Sort.bitsLen n)=((2^Sort.bitsLen n:Nat):Int)by simp,zf (by omega),Nat.one_shiftLeft]
 simp only[gS,Qk,IS,f,au,Hk h,aa,d,e]
theorem Tf (r:UInt64):gT (r.toNat:Int)=some (((Sort.xorNext r).toNat:Int),((Sort.xorNext r).toNat:Int)):=by
 have s13:∀ a:UInt64,gq .u64 (a.toNat:Int) 13=((a <<< 13).toNat:Int):=fun a=>Iv a 13 (by omega)
 have s7:∀ a:UInt64,bI .u64 (a.toNat:Int) 7=((a >>> 7).toNat:Int):=fun a=>UE a 7 (by omega)
 have s17:∀ a:UInt64,gq .u64 (a.toNat:Int) 17=((a <<< 17).toNat:Int):=fun a=>Iv a 17 (by omega)
 simp only[gT,Qn,IT,s13,s7,s17,KB,Sort.xorNext]
theorem brk {a b:Nat}{d:Array β}(hab:a≤b)(hb:b≤d.size)(hz:d.size≤250):gu ((a:Int),(b:Int),MA v d)=some (MA v (Sort.breakPatterns d a b)):=by
 unfold Sort.breakPatterns
 simp only[]
 by_cases h8:8≤b-a
 ·have g8:decide ((8:Int)≤((b-a:Nat):Int))=true:=by simp; omega
  have hm1:1 <<< Sort.bitsLen (b-a)≤2*(b-a):=by rw[Nat.one_shiftLeft]; exact Sort.two_pow_bitsLen_le (by omega)
  have hm0:0 < 1 <<< Sort.bitsLen (b-a):=by rw[Nat.one_shiftLeft]; exact Nat.two_pow_pos _
  generalize hm:1 <<< Sort.bitsLen (b-a)=m at *
  generalize hn:b-a=n at *
  let st:Nat→UInt64×Array β:=fun k=>Nat.rec (UInt64.ofNat n,d) (fun i s=>Sort.breakStep a n m s (a+n / 4*2-1+i)) k
  have hst:∀ k,(st k).2.size=d.size:=fun k=>by
   induction k with
   | zero=>rfl
   | succ k ih=>show(Sort.swp _ _ _).size=_; rw[aw]; exact ih
  have hrun:w7 ((a:Int),(n:Int),(m:Int),((a+n / 4*2-1:Nat):Int),MA v d,(n:Int))=some (MA v (st 3).2,((st 3).1.toNat:Int)):=by
   have h0:((UInt64.ofNat n).toNat:Int)=(n:Int):=by rw[UInt64.toNat_ofNat']; omega
   refine aW 3 (fun k=>((a:Int),(n:Int),(m:Int),((a+n / 4*2-1+k:Nat):Int),MA v (st k).2,((st k).1.toNat:Int))) _ (fun k hk=>?_) ?_ (by omega) |> fun h=>by
    have e:((a:Int),(n:Int),(m:Int),((a+n / 4*2-1+0:Nat):Int),MA v (st 0).2,((st 0).1.toNat:Int))=((a:Int),(n:Int),(m:Int),((a+n / 4*2-1:Nat):Int),MA v d,(n:Int)):=by
     show(_,_,_,_,_,((UInt64.ofNat n).toNat:Int))=_
     rw[h0]; rfl
    rw[← e]; exact h
   ·have q4:Int.tdiv (n:Int) 4=((n / 4:Nat):Int):=Cl n
    have q5:((n / 4:Nat):Int)*2=((n / 4*2:Nat):Int):=by omega
    have hsz:=hst k
    generalize hr:st k=s at *
    have hnx:st (k+1)=Sort.breakStep a n m (st k) (a+n / 4*2-1+k):=rfl
    rw[hr]at hnx
    have hlt:=(Sort.xorNext s.1).toNat_lt
    have hbd:(Sort.xorNext s.1).toNat &&& (m-1)≤m-1:=Nat.and_le_right
    have fu:ai .u64 ((m-1:Nat):Int)=true:=nt (by omega) (by omega)
    simp(disch:=omega) only[w6,te,q4,aI,au,q5,an,a1,ia,dT,cond_true,Tf,aa,fu,p1,KA]
    rw[hnx]
    unfold Sort.breakStep
    simp only[]
    generalize (Sort.xorNext s.1).toNat &&& (m-1)=o at *
    by_cases ho:n≤o
    ·simp(disch:=omega) only[dT,cond_true,pn,aI,au,an,aH,aS,Int.toNat_natCast,bC,aX,bD,if_pos (show o≥n from ho),a1]
     rw[show a+n / 4*2-1+k+1=a+n / 4*2-1+(k+1)by omega]
    ·simp(disch:=omega) only[dF,cond_false,pn,aI,au,an,aH,aS,Int.toNat_natCast,bC,aX,bD,if_neg (show ¬ o≥n from ho),a1]
     rw[show a+n / 4*2-1+k+1=a+n / 4*2-1+(k+1)by omega]
   ·have q4:Int.tdiv (n:Int) 4=((n / 4:Nat):Int):=Cl n
    have q5:((n / 4:Nat):Int)*2=((n / 4*2:Nat):Int):=by omega
    simp(disch:=omega) only[w6,te,q4,aI,au,q5,an,a1,ia,dF,cond_false]
  have q4:Int.tdiv (n:Int) 4=((n / 4:Nat):Int):=Cl n
  have q5:((n / 4:Nat):Int)*2=((n / 4*2:Nat):Int):=by omega
  have fu:ai .u64 (n:Int)=true:=nt (by omega) (by omega)
  have hn':(b:Int)-(a:Int)=(n:Int):=by omega
  have hnp:=npt (n:=n) (by omega)
  rw[hm]at hnp
  have hst3:st 3=Sort.breakStep a n m (Sort.breakStep a n m (Sort.breakStep a n m (UInt64.ofNat n,d) (a+n / 4*2-1)) (a+n / 4*2-1+1)) (a+n / 4*2-1+2):=rfl
  rw[hst3]at hrun
  rw[if_pos (show n≥8 from h8)]
  simp(disch:=omega) only[gu,Qq,IV,hn',aI,au,g8,cond_true,fu,hnp,aa,q4,q5,an,p1,hrun]
 ·have g8:decide ((8:Int)≤((b-a:Nat):Int))=false:=by simp; omega
  simp(disch:=omega) only[gu,Qq,IV,pn,aI,au,g8,cond_false,if_neg (show ¬ b-a≥8 from h8)]
theorem rev {a b:Nat}{d:Array β}(hab:a≤b)(hb1:1≤b)(hb:b≤d.size)(hz:d.size≤250):gV ((a:Int),(b:Int),MA v d)=some (MA v (Sort.reverseRange d a b)):=by
 have e:xb ((a:Int),((b-1:Nat):Int),MA v d)=some (MA v (Sort.reverseLoop a (b-1) d)):=by
  refine aK (fun s r n=>∃ (i j:Nat) (d:Array β),j < d.size∧d.size≤250∧i≤250∧s=((i:Int),(j:Int),MA v d)∧r=MA v (Sort.reverseLoop i j d)∧n=j-i) ⟨a,b-1,d,by omega,hz,by omega,rfl,rfl,rfl⟩ (by omega) ?_
  rintro s r n ⟨i,j,d,q1,q2,q3,rfl,rfl,rfl⟩
  simp only[Ep,xa]
  by_cases e:i < j
  ·right
   rw[show Sort.reverseLoop i j d=Sort.reverseLoop (i+1) (j-1) (Sort.swp d i j)by rw[Sort.reverseLoop,if_pos e]]
   simp(disch:=omega) only[iM,dT,cond_true,aH,aS,au,Int.toNat_natCast,bC,aX,bD,a1,aI,p1]
   exact⟨_,j-1-(i+1),rfl,⟨i+1,j-1,Sort.swp d i j,by rw[aw]; omega,by rwa [aw],by omega,rfl,rfl,rfl⟩,by omega⟩
  ·left
   rw[show Sort.reverseLoop i j d=d by rw[Sort.reverseLoop,if_neg e]]
   simp(disch:=omega) only[iM,dF,cond_false]
 simp(disch:=omega) only[gV,Vl,QF,p1,aI,au,e,aa,Sort.reverseRange]
include hC
theorem ord {a b s:Nat}{d:Array β}(ha:a < d.size)(hb:b < d.size)(hs:s≤250):qp ((a:Int),(b:Int),MA v d,(s:Int))=some (((Sort.order2 (lt C) d a b s).1:Int),((Sort.order2 (lt C) d a b s).2.1:Int),MA v d,((Sort.order2 (lt C) d a b s).2.2:Int)):=by
 unfold Sort.order2
 simp(disch:=omega) only[qp,Vc,Qt,aH,au,aS,hC,aa,wa,a1,aI]
 cases lt C d[b]! d[a]! <;> rfl
theorem Tg {a b c s:Nat}{d:Array β}(ha:a < d.size)(hb:b < d.size)(hc:c < d.size)(hs:s≤200):mN ((a:Int),(b:Int),(c:Int),MA v d,(s:Int))=some (((Sort.median (lt C) d a b c s).1:Int),MA v d,((Sort.median (lt C) d a b c s).2:Int)):=by
 unfold Sort.median
 simp only[]
 have o1:=Sort.order2_mem (lt C) d a b s
 have n1:=Sort.order2_count (lt C) d a b s
 generalize g1:Sort.order2 (lt C) d a b s=r1 at *
 have o2:=Sort.order2_mem (lt C) d r1.2.1 c r1.2.2
 have n2:=Sort.order2_count (lt C) d r1.2.1 c r1.2.2
 generalize g2:Sort.order2 (lt C) d r1.2.1 c r1.2.2=r2 at *
 have e1:qp ((a:Int),(b:Int),MA v d,(s:Int))=some ((r1.1:Int),(r1.2.1:Int),MA v d,(r1.2.2:Int)):=by rw[ord hC ha hb (by omega),g1]
 have e2:qp ((r1.2.1:Int),(c:Int),MA v d,(r1.2.2:Int))=some ((r2.1:Int),(r2.2.1:Int),MA v d,(r2.2.2:Int)):=by rw[ord hC (by omega) hc (by omega),g2]
 have e3:=ord hC (d:=d) (a:=r1.1) (b:=r2.1) (s:=r2.2.2) (by omega) (by omega) (by omega)
 simp only[mN,Ve,Qw,e1,e2,e3,aa]
theorem Th {a s:Nat}{d:Array β}(ha:1≤a)(hb:a+1 < d.size)(hz:d.size≤250)(hs:s≤200):tf ((a:Int),MA v d,(s:Int))=some (((Sort.medianAdjacent (lt C) d a s).1:Int),MA v d,((Sort.medianAdjacent (lt C) d a s).2:Int)):=by
 have e:=Tg hC (d:=d) (a:=a-1) (b:=a) (c:=a+1) (s:=s) (by omega) (by omega) hb hs
 unfold Sort.medianAdjacent
 simp(disch:=omega) only[tf,Vh,Qz,p1,aI,au,a1,e,aa]
omit hC
def hN:Sort.Hint→Int
 | .unknown=>0
 | .increasing=>1
 | .decreasing=>2
include hC
theorem chp {a b:Nat}{d:Array β}(hab:a < b)(hb:b≤d.size)(hz:d.size≤250):gU ((a:Int),(b:Int),MA v d)=some (((Sort.choosePivot (lt C) d a b).1:Int),hN (Sort.choosePivot (lt C) d a b).2,MA v d):=by
 unfold Sort.choosePivot
 simp only[]
 generalize hn:b-a=n at *
 have q4:Int.tdiv (n:Int) 4=((n / 4:Nat):Int):=Cl n
 have q1:((n / 4:Nat):Int)*1=((n / 4*1:Nat):Int):=by omega
 have q2:((n / 4:Nat):Int)*2=((n / 4*2:Nat):Int):=by omega
 have q3:((n / 4:Nat):Int)*3=((n / 4*3:Nat):Int):=by omega
 have hn':(b:Int)-(a:Int)=(n:Int):=by omega
 have hfin:∀ (p s:Nat),(cond (decide ((s:Int)=0)) (some ((p:Int),(1:Int),MA v d)) (cond (decide ((s:Int)=12)) (some ((p:Int),(2:Int),MA v d)) (some ((p:Int),(0:Int),MA v d)))) =
   some ((p:Int),hN (if s=0 then Sort.Hint.increasing else if s=12 then Sort.Hint.decreasing else Sort.Hint.unknown),MA v d):=fun p s=>by
  by_cases h0:s=0
  ·subst h0; rfl
  ·have d0:decide ((s:Int)=0)=false:=by simp; omega
   rw[d0,if_neg h0]
   by_cases h12:s=12
   ·subst h12; rfl
   ·have d1:decide ((s:Int)=12)=false:=by simp; omega
    rw[d1,if_neg h12]; rfl
 simp(disch:=omega) only[gU,Vj,QC,hn',aI,au,q4,q1,q2,q3,an]
 by_cases h8:8≤n
 ·have d8:decide ((8:Int)≤(n:Int))=true:=by simp; omega
  rw[d8,cond_true,if_pos (show n≥8 from h8)]
  by_cases h50:50≤n
  ·have d50:decide ((50:Int)≤(n:Int))=true:=by simp; omega
   rw[d50,cond_true,if_pos (show n≥50 from h50)]
   have m1:=Sort.medianAdjacent_mem (lt C) d (a+n / 4*1) 0
   have c1:=Sort.medianAdjacent_count (lt C) d (a+n / 4*1) 0
   have e1:=Th hC (d:=d) (a:=a+n / 4*1) (s:=0) (by omega) (by omega) hz (by omega)
   generalize Sort.medianAdjacent (lt C) d (a+n / 4*1) 0=r1 at *
   have m2:=Sort.medianAdjacent_mem (lt C) d (a+n / 4*2) r1.2
   have c2:=Sort.medianAdjacent_count (lt C) d (a+n / 4*2) r1.2
   have e2:=Th hC (d:=d) (a:=a+n / 4*2) (s:=r1.2) (by omega) (by omega) hz (by omega)
   generalize Sort.medianAdjacent (lt C) d (a+n / 4*2) r1.2=r2 at *
   have m3:=Sort.medianAdjacent_mem (lt C) d (a+n / 4*3) r2.2
   have c3:=Sort.medianAdjacent_count (lt C) d (a+n / 4*3) r2.2
   have e3:=Th hC (d:=d) (a:=a+n / 4*3) (s:=r2.2) (by omega) (by omega) hz (by omega)
   generalize Sort.medianAdjacent (lt C) d (a+n / 4*3) r2.2=r3 at *
   have e4:=Tg hC (d:=d) (a:=r1.1) (b:=r2.1) (c:=r3.1) (s:=r3.2) (by omega) (by omega) (by omega) (by omega)
   have e1':tf (((a+n / 4*1:Nat):Int),MA v d,0)=some ((r1.1:Int),MA v d,(r1.2:Int)):=e1
   simp only[e1',e2,e3,e4,aa,hfin]
  ·have d50:decide ((50:Int)≤(n:Int))=false:=by simp; omega
   rw[d50,cond_false,if_neg (show ¬ n≥50 from h50)]
   have e4:mN (((a+n / 4*1:Nat):Int),((a+n / 4*2:Nat):Int),((a+n / 4*3:Nat):Int),MA v d,0)=some (((Sort.median (lt C) d (a+n / 4*1) (a+n / 4*2) (a+n / 4*3) 0).1:Int),MA v d,((Sort.median (lt C) d (a+n / 4*1) (a+n / 4*2) (a+n / 4*3) 0).2:Int)):=Tg hC (s:=0) (by omega) (by omega) (by omega) (by omega)
   simp only[e4,aa,hfin]
 ·have d8:decide ((8:Int)≤(n:Int))=false:=by simp; omega
  rw[d8,cond_false,if_neg (show ¬ n≥8 from h8)]
  rfl
omit hC
theorem p9 (d:Array β)(b:Nat):∀ (n i:Nat),b-i≤n→i≤b→i≤Sort.scanSorted (lt C) d b i∧Sort.scanSorted (lt C) d b i≤b:=by
 intro n
 induction n with
 | zero=>intro i h1 h2; rw[Sort.scanSorted,if_neg (by simp; omega)]; omega
 | succ n ih=>
  intro i h1 h2
  rw[Sort.scanSorted]
  split
  ·rename_i h
   simp only[Bool.and_eq_true,decide_eq_true_eq]at h
   have:=ih (i+1) (by omega) (by omega)
   omega
  ·omega
theorem jy:∀ (j:Nat) (d:Array β),(Sort.shiftDown (lt C) j d).size=d.size
 | 0,d=>by rw[Sort.shiftDown]
 | j+1,d=>by
  rw[Sort.shiftDown]
  split
  ·rfl
  ·rw[jy j,aw]
theorem jz (b:Nat):∀ (n j:Nat) (d:Array β),b-j≤n→(Sort.shiftUp (lt C) b j d).size=d.size:=by
 intro n
 induction n with
 | zero=>intro j d h; rw[Sort.shiftUp,if_neg (by omega)]
 | succ n ih=>
  intro j d h
  rw[Sort.shiftUp]
  split
  ·split
   ·rfl
   ·rw[ih _ _ (by omega),aw]
  ·rfl
include hC
theorem ps1 {a b i j:Nat}{d:Array β}(h1:1≤i)(hb:b≤d.size)(hz:d.size≤250)(hi:i≤250):xe ((a:Int),(b:Int),(i:Int),(j:Int),MA v d)=some ((a:Int),(b:Int),((Sort.scanSorted (lt C) d b i:Nat):Int),(j:Int),MA v d):=by
 refine aK (fun s r n=>∃ i:Nat,1≤i∧i≤251∧s=((a:Int),(b:Int),(i:Int),(j:Int),MA v d)∧r=((a:Int),(b:Int),((Sort.scanSorted (lt C) d b i:Nat):Int),(j:Int),MA v d)∧n=b-i) ⟨i,h1,by omega,rfl,rfl,rfl⟩ (by omega) ?_
 rintro s r n ⟨i,q1,q2,rfl,rfl,rfl⟩
 simp only[Ez,xd]
 by_cases e:i < b
 ·simp(disch:=omega) only[iM,dT,cond_true,aH,au,p1,aI,aS,hC,aa,wa]
  cases hl:lt C d[i]! d[i-1]!
  ·right
   rw[show Sort.scanSorted (lt C) d b i=Sort.scanSorted (lt C) d b (i+1)by rw[Sort.scanSorted,if_pos (by simp[e,hl])]]
   simp(disch:=omega) only[Bool.not_false,cond_true,a1,aI,au]
   exact⟨_,b-(i+1),rfl,⟨i+1,by omega,by omega,rfl,rfl,rfl⟩,by omega⟩
  ·left
   rw[show Sort.scanSorted (lt C) d b i=i by rw[Sort.scanSorted,if_neg (by simp[hl])]]
   simp only[Bool.not_true,cond_false]
 ·left
  rw[show Sort.scanSorted (lt C) d b i=i by rw[Sort.scanSorted,if_neg (by simp[e])]]
  simp(disch:=omega) only[iM,dF,cond_false]
theorem ps3 {a b i j k:Nat}{d:Array β}(hk:k < d.size)(hz:d.size≤250):xg ((a:Int),(b:Int),(i:Int),(j:Int),(k:Int),MA v d)=some ((a:Int),(b:Int),(i:Int),(j:Int),MA v (Sort.shiftDown (lt C) k d)):=by
 refine aK (fun s r n=>∃ (k:Nat) (d:Array β),k < d.size∧d.size≤250∧s=((a:Int),(b:Int),(i:Int),(j:Int),(k:Int),MA v d)∧r=((a:Int),(b:Int),(i:Int),(j:Int),MA v (Sort.shiftDown (lt C) k d))∧n=k) ⟨k,d,hk,hz,rfl,rfl,rfl⟩ (by omega) ?_
 rintro s r n ⟨k,d,q1,q2,rfl,rfl,rfl⟩
 simp only[EB,xf]
 cases n with
 | zero=>left; rw[Sort.shiftDown]; rfl
 | succ k=>
  have g1:decide ((1:Int)≤((k+1:Nat):Int))=true:=by simp; omega
  simp(disch:=omega) only[g1,cond_true,aH,au,p1,aI,aS,hC,aa,wa,Nat.add_sub_cancel]
  cases hl:lt C d[k+1]! d[k]!
  ·left
   rw[show Sort.shiftDown (lt C) (k+1) d=d by rw[Sort.shiftDown,if_pos (by simp[hl])]]
   simp only[Bool.not_false,cond_true]
  ·right
   rw[show Sort.shiftDown (lt C) (k+1) d=Sort.shiftDown (lt C) k (Sort.swp d (k+1) k)by rw[Sort.shiftDown,if_neg (by simp[hl])]]
   simp(disch:=omega) only[Bool.not_true,cond_false,aH,au,aS,Int.toNat_natCast,bC,aX,bD]
   exact⟨_,k,rfl,⟨k,Sort.swp d (k+1) k,by rw[aw]; omega,by rwa [aw],rfl,rfl,rfl⟩,by omega⟩
theorem ps2 {a b i j:Nat}{d:Array β}(ha:a≤i)(h1:1≤i)(hi:i≤d.size)(hz:d.size≤250):tg ((a:Int),(b:Int),(i:Int),(j:Int),MA v d)=some ((a:Int),(b:Int),(i:Int),(j:Int),MA v (if i-a≥2 then Sort.shiftDown (lt C) (i-1) d else d)):=by
 simp only[tg,EC,xh]
 by_cases e:2≤i-a
 ·have g1:decide ((2:Int)≤((i-a:Nat):Int))=true:=by simp; omega
  simp(disch:=omega) only[pn,aI,au,g1,cond_true,p1,ps3 hC,aa,if_pos (show i-a≥2 from e)]
 ·have g1:decide ((2:Int)≤((i-a:Nat):Int))=false:=by simp; omega
  simp(disch:=omega) only[pn,aI,au,g1,cond_false,if_neg (show ¬ i-a≥2 from e)]
theorem ps4 {a b i j k:Nat}{d:Array β}(h1:1≤k)(hk:k≤250)(hb:b≤d.size)(hz:d.size≤250):xj ((a:Int),(b:Int),(i:Int),(j:Int),(k:Int),MA v d)=some ((a:Int),(b:Int),(i:Int),(j:Int),MA v (Sort.shiftUp (lt C) b k d)):=by
 refine aK (fun s r n=>∃ (k:Nat) (d:Array β),1≤k∧k≤251∧b≤d.size∧d.size≤250∧s=((a:Int),(b:Int),(i:Int),(j:Int),(k:Int),MA v d)∧r=((a:Int),(b:Int),(i:Int),(j:Int),MA v (Sort.shiftUp (lt C) b k d))∧n=b-k) ⟨k,d,h1,by omega,hb,hz,rfl,rfl,rfl⟩ (by omega) ?_
 rintro s r n ⟨k,d,q1,q0,q2,q3,rfl,rfl,rfl⟩
 simp only[EE,xi]
 by_cases e:k < b
 ·simp(disch:=omega) only[iM,dT,cond_true,aH,au,p1,aI,aS,hC,aa,wa]
  cases hl:lt C d[k]! d[k-1]!
  ·left
   rw[show Sort.shiftUp (lt C) b k d=d by rw[Sort.shiftUp,if_pos e,if_pos (by simp[hl])]]
   simp only[Bool.not_false,cond_true]
  ·right
   rw[show Sort.shiftUp (lt C) b k d=Sort.shiftUp (lt C) b (k+1) (Sort.swp d k (k-1))by rw[Sort.shiftUp,if_pos e,if_neg (by simp[hl])]]
   simp(disch:=omega) only[Bool.not_true,cond_false,aH,au,aS,Int.toNat_natCast,bC,aX,bD,a1,aI]
   exact⟨_,b-(k+1),rfl,⟨k+1,Sort.swp d k (k-1),by omega,by omega,by rwa [aw],by rwa [aw],rfl,rfl,rfl⟩,by omega⟩
 ·left
  rw[show Sort.shiftUp (lt C) b k d=d by rw[Sort.shiftUp,if_neg e]]
  simp(disch:=omega) only[iM,dF,cond_false]
theorem pis {a b:Nat}{d:Array β}(hab:a < b)(hb:b≤d.size)(hz:d.size≤250):gW ((a:Int),(b:Int),MA v d)=some ((Sort.partialInsertionSort (lt C) d a b).2,MA v (Sort.partialInsertionSort (lt C) d a b).1):=by
 have key:∃ y,xm ((a:Int),(b:Int),((a+1:Nat):Int),0,MA v d)=some y∧Sum.elim (fun y=>(y.2,y.1)) (fun y=>(y,false)) y=(MA v (Sort.partialInsertionSort (lt C) d a b).1,(Sort.partialInsertionSort (lt C) d a b).2):=by
  refine iH (fun s n=>∃ (t i:Nat) (d':Array β),t≤5∧a < i∧i≤b∧b≤d'.size∧d'.size≤250∧s=((a:Int),(b:Int),(i:Int),((5-t:Nat):Int),MA v d')∧Sort.partialIns (lt C) a b t i d'=Sort.partialInsertionSort (lt C) d a b∧n=t) _
   ⟨5,a+1,d,by omega,by omega,by omega,hb,hz,rfl,rfl,rfl⟩ (by omega) ?_
  rintro s n ⟨t,i,d',q1,q2,q3,q4,q5,rfl,q6,rfl⟩
  rw[← q6]
  clear q6
  simp only[EG,xl]
  cases n with
  | zero=>left; exact⟨_,rfl,rfl⟩
  | succ t=>
   have g0:decide (((5-(t+1):Nat):Int) < 5)=true:=by simp; omega
   have hs:=p9 (C:=C) d' b _ i (Nat.le_refl _) q3
   rw[Sort.partialIns]
   simp(disch:=omega) only[g0,cond_true,ps1 hC,aa]
   generalize Sort.scanSorted (lt C) d' b i=i2 at *
   by_cases e:i2=b
   ·left
    have g1:decide ((i2:Int)=(b:Int))=true:=by simp; omega
    simp only[g1,cond_true,if_pos e]
    exact⟨_,rfl,rfl⟩
   ·have g1:decide ((i2:Int)=(b:Int))=false:=by simp; omega
    simp(disch:=omega) only[g1,cond_false,if_neg e,pn,aI,au]
    by_cases e5:b-a < 50
    ·left
     have g2:decide (((b-a:Nat):Int) < 50)=true:=by simp; omega
     simp only[g2,cond_true,if_pos e5]
     exact⟨_,rfl,rfl⟩
    ·right
     have g2:decide (((b-a:Nat):Int) < 50)=false:=by simp; omega
     have z1:(Sort.swp d' i2 (i2-1)).size=d'.size:=aw _ _ _
     simp(disch:=omega) only[g2,cond_false,if_neg e5,p1,aI,au,aH,aS,Int.toNat_natCast,bC,aX,bD,ps2 hC,aa,pn]
     generalize hd2:(if i2-a≥2 then Sort.shiftDown (lt C) (i2-1) (Sort.swp d' i2 (i2-1))else Sort.swp d' i2 (i2-1))=d2
     have z2:d2.size=d'.size:=by
      rw[← hd2]; split
      ·rw[jy,z1]
      ·exact z1
     by_cases e2:2≤b-i2
     ·have g3:decide ((2:Int)≤((b-i2:Nat):Int))=true:=by simp; omega
      simp(disch:=omega) only[g3,cond_true,a1,aI,au,ps4 hC,aa,if_pos (show b-i2≥2 from e2)]
      exact⟨_,t,rfl,⟨t,i2,Sort.shiftUp (lt C) b (i2+1) d2,by omega,by omega,by omega,by rw[jz _ _ _ _ (Nat.le_refl _)]; omega,by rw[jz _ _ _ _ (Nat.le_refl _)]; omega,by rw[show 5-(t+1)+1=5-t by omega],rfl,rfl⟩,by omega⟩
     ·have g3:decide ((2:Int)≤((b-i2:Nat):Int))=false:=by simp; omega
      simp(disch:=omega) only[g3,cond_false,a1,aI,au,if_neg (show ¬ b-i2≥2 from e2)]
      exact⟨_,t,rfl,⟨t,i2,d2,by omega,by omega,by omega,by omega,by omega,by rw[show 5-(t+1)+1=5-t by omega],rfl,rfl⟩,by omega⟩
 obtain⟨y,e1,e2⟩:=key
 simp(disch:=omega) only[gW,Vn,QQ,a1,aI,au,e1,aa]
 cases y with
 | inl x=>
  simp only[Sum.elim_inl,Prod.mk.injEq]at e2 ⊢
  rw[e2.1,e2.2]
 | inr x=>
  simp only[Sum.elim_inr,Prod.mk.injEq]at e2 ⊢
  rw[e2.1,e2.2]
theorem pe1 {a i j:Nat}{d:Array β}(ha:a < d.size)(hj:j < d.size)(hz:d.size≤250):xp ((a:Int),(i:Int),(j:Int),MA v d)=some ((a:Int),((Sort.scanUp (fun x=>!lt C d[a]! x) d j i:Nat):Int),(j:Int),MA v d):=by
 refine aK (fun s r n=>∃ i:Nat,s=((a:Int),(i:Int),(j:Int),MA v d)∧r=((a:Int),((Sort.scanUp (fun x=>!lt C d[a]! x) d j i:Nat):Int),(j:Int),MA v d)∧n=j+1-i) ⟨i,rfl,rfl,rfl⟩ (by omega) ?_
 rintro s r n ⟨i,rfl,rfl,rfl⟩
 simp only[EL,xn]
 by_cases e:i≤j
 ·simp(disch:=omega) only[ia,dT,cond_true,aH,au,aI,aS,hC,aa,wa]
  cases hl:lt C d[a]! d[i]!
  ·right
   rw[show Sort.scanUp (fun x=>!lt C d[a]! x) d j i=Sort.scanUp (fun x=>!lt C d[a]! x) d j (i+1)by rw[Sort.scanUp,if_pos (by simp[e,hl])]]
   simp(disch:=omega) only[Bool.not_false,cond_true,a1,aI,au]
   exact⟨_,j+1-(i+1),rfl,⟨i+1,rfl,rfl,rfl⟩,by omega⟩
  ·left
   rw[show Sort.scanUp (fun x=>!lt C d[a]! x) d j i=i by rw[Sort.scanUp,if_neg (by simp[hl])]]
   simp only[Bool.not_true,cond_false]
 ·left
  rw[show Sort.scanUp (fun x=>!lt C d[a]! x) d j i=i by rw[Sort.scanUp,if_neg (by simp[e])]]
  simp(disch:=omega) only[ia,dF,cond_false]
theorem pe2 {a i j:Nat}{d:Array β}(ha:a < d.size)(hi:1≤i)(hj:j < d.size)(hz:d.size≤250):xt ((a:Int),(i:Int),(j:Int),MA v d)=some ((a:Int),(i:Int),((Sort.scanDown (fun x=>lt C d[a]! x) d i j:Nat):Int),MA v d):=by
 refine aK (fun s r n=>∃ j:Nat,j < d.size∧s=((a:Int),(i:Int),(j:Int),MA v d)∧r=((a:Int),(i:Int),((Sort.scanDown (fun x=>lt C d[a]! x) d i j:Nat):Int),MA v d)∧n=j) ⟨j,hj,rfl,rfl,rfl⟩ (by omega) ?_
 rintro s r n ⟨j,q1,rfl,rfl,rfl⟩
 simp only[EN,xq]
 cases n with
 | zero=>
  left
  rw[show Sort.scanDown (fun x=>lt C d[a]! x) d i 0=0 by rw[Sort.scanDown]]
  simp(disch:=omega) only[ia,dF,cond_false]
 | succ j=>
  by_cases e:i≤j+1
  ·simp(disch:=omega) only[ia,dT,cond_true,aH,au,aI,aS,hC,aa,wa]
   cases hl:lt C d[a]! d[j+1]!
   ·left
    rw[show Sort.scanDown (fun x=>lt C d[a]! x) d i (j+1)=j+1 by rw[Sort.scanDown,if_neg (by simp[hl])]]
    simp only[cond_false]
   ·right
    rw[show Sort.scanDown (fun x=>lt C d[a]! x) d i (j+1)=Sort.scanDown (fun x=>lt C d[a]! x) d i j by rw[Sort.scanDown,if_pos (by simp[e,hl])]]
    simp(disch:=omega) only[cond_true,p1,Nat.add_sub_cancel,aI,au]
    exact⟨_,j,rfl,⟨j,by omega,rfl,rfl,rfl⟩,by omega⟩
  ·left
   rw[show Sort.scanDown (fun x=>lt C d[a]! x) d i (j+1)=j+1 by rw[Sort.scanDown,if_neg (by simp[e])]]
   simp(disch:=omega) only[ia,dF,cond_false]
theorem pr0 {a i j:Nat}{d:Array β}(ha:a < d.size)(hj:j < d.size)(hz:d.size≤250):xy ((a:Int),(i:Int),(j:Int),MA v d)=some ((a:Int),((Sort.scanUp (fun x=>lt C x d[a]!) d j i:Nat):Int),(j:Int),MA v d):=by
 refine aK (fun s r n=>∃ i:Nat,s=((a:Int),(i:Int),(j:Int),MA v d)∧r=((a:Int),((Sort.scanUp (fun x=>lt C x d[a]!) d j i:Nat):Int),(j:Int),MA v d)∧n=j+1-i) ⟨i,rfl,rfl,rfl⟩ (by omega) ?_
 rintro s r n ⟨i,rfl,rfl,rfl⟩
 simp only[EW,xx]
 by_cases e:i≤j
 ·simp(disch:=omega) only[ia,dT,cond_true,aH,au,aI,aS,hC,aa,wa]
  cases hl:lt C d[i]! d[a]!
  ·left
   rw[show Sort.scanUp (fun x=>lt C x d[a]!) d j i=i by rw[Sort.scanUp,if_neg (by simp[hl])]]
   simp only[cond_false]
  ·right
   rw[show Sort.scanUp (fun x=>lt C x d[a]!) d j i=Sort.scanUp (fun x=>lt C x d[a]!) d j (i+1)by rw[Sort.scanUp,if_pos (by simp[e,hl])]]
   simp(disch:=omega) only[cond_true,a1,aI,au]
   exact⟨_,j+1-(i+1),rfl,⟨i+1,rfl,rfl,rfl⟩,by omega⟩
 ·left
  rw[show Sort.scanUp (fun x=>lt C x d[a]!) d j i=i by rw[Sort.scanUp,if_neg (by simp[e])]]
  simp(disch:=omega) only[ia,dF,cond_false]
theorem pr1 {a i j:Nat}{d:Array β}(ha:a < d.size)(hi:1≤i)(hj:j < d.size)(hz:d.size≤250):xA ((a:Int),(i:Int),(j:Int),MA v d)=some ((a:Int),(i:Int),((Sort.scanDown (fun x=>!lt C x d[a]!) d i j:Nat):Int),MA v d):=by
 refine aK (fun s r n=>∃ j:Nat,j < d.size∧s=((a:Int),(i:Int),(j:Int),MA v d)∧r=((a:Int),(i:Int),((Sort.scanDown (fun x=>!lt C x d[a]!) d i j:Nat):Int),MA v d)∧n=j) ⟨j,hj,rfl,rfl,rfl⟩ (by omega) ?_
 rintro s r n ⟨j,q1,rfl,rfl,rfl⟩
 simp only[EY,xz]
 cases n with
 | zero=>
  left
  rw[show Sort.scanDown (fun x=>!lt C x d[a]!) d i 0=0 by rw[Sort.scanDown]]
  simp(disch:=omega) only[ia,dF,cond_false]
 | succ j=>
  by_cases e:i≤j+1
  ·simp(disch:=omega) only[ia,dT,cond_true,aH,au,aI,aS,hC,aa,wa]
   cases hl:lt C d[j+1]! d[a]!
   ·right
    rw[show Sort.scanDown (fun x=>!lt C x d[a]!) d i (j+1)=Sort.scanDown (fun x=>!lt C x d[a]!) d i j by rw[Sort.scanDown,if_pos (by simp[e,hl])]]
    simp(disch:=omega) only[Bool.not_false,cond_true,p1,Nat.add_sub_cancel,aI,au]
    exact⟨_,j,rfl,⟨j,by omega,rfl,rfl,rfl⟩,by omega⟩
   ·left
    rw[show Sort.scanDown (fun x=>!lt C x d[a]!) d i (j+1)=j+1 by rw[Sort.scanDown,if_neg (by simp[hl])]]
    simp only[Bool.not_true,cond_false]
  ·left
   rw[show Sort.scanDown (fun x=>!lt C x d[a]!) d i (j+1)=j+1 by rw[Sort.scanDown,if_neg (by simp[e])]]
   simp(disch:=omega) only[ia,dF,cond_false]
theorem pr3 {a i j:Nat}{d:Array β}(ha:a < d.size)(hj:j < d.size)(hz:d.size≤250):xC ((a:Int),(i:Int),(j:Int),MA v d)=some ((a:Int),((Sort.scanUp (fun x=>lt C x d[a]!) d j i:Nat):Int),(j:Int),MA v d):=by
 refine aK (fun s r n=>∃ i:Nat,s=((a:Int),(i:Int),(j:Int),MA v d)∧r=((a:Int),((Sort.scanUp (fun x=>lt C x d[a]!) d j i:Nat):Int),(j:Int),MA v d)∧n=j+1-i) ⟨i,rfl,rfl,rfl⟩ (by omega) ?_
 rintro s r n ⟨i,rfl,rfl,rfl⟩
 simp only[E2,xB]
 by_cases e:i≤j
 ·simp(disch:=omega) only[ia,dT,cond_true,aH,au,aI,aS,hC,aa,wa]
  cases hl:lt C d[i]! d[a]!
  ·left
   rw[show Sort.scanUp (fun x=>lt C x d[a]!) d j i=i by rw[Sort.scanUp,if_neg (by simp[hl])]]
   simp only[cond_false]
  ·right
   rw[show Sort.scanUp (fun x=>lt C x d[a]!) d j i=Sort.scanUp (fun x=>lt C x d[a]!) d j (i+1)by rw[Sort.scanUp,if_pos (by simp[e,hl])]]
   simp(disch:=omega) only[cond_true,a1,aI,au]
   exact⟨_,j+1-(i+1),rfl,⟨i+1,rfl,rfl,rfl⟩,by omega⟩
 ·left
  rw[show Sort.scanUp (fun x=>lt C x d[a]!) d j i=i by rw[Sort.scanUp,if_neg (by simp[e])]]
  simp(disch:=omega) only[ia,dF,cond_false]
theorem pr4 {a i j:Nat}{d:Array β}(ha:a < d.size)(hi:1≤i)(hj:j < d.size)(hz:d.size≤250):xE ((a:Int),(i:Int),(j:Int),MA v d)=some ((a:Int),(i:Int),((Sort.scanDown (fun x=>!lt C x d[a]!) d i j:Nat):Int),MA v d):=by
 refine aK (fun s r n=>∃ j:Nat,j < d.size∧s=((a:Int),(i:Int),(j:Int),MA v d)∧r=((a:Int),(i:Int),((Sort.scanDown (fun x=>!lt C x d[a]!) d i j:Nat):Int),MA v d)∧n=j) ⟨j,hj,rfl,rfl,rfl⟩ (by omega) ?_
 rintro s r n ⟨j,q1,rfl,rfl,rfl⟩
 simp only[E4,xD]
 cases n with
 | zero=>
  left
  rw[show Sort.scanDown (fun x=>!lt C x d[a]!) d i 0=0 by rw[Sort.scanDown]]
  simp(disch:=omega) only[ia,dF,cond_false]
 | succ j=>
  by_cases e:i≤j+1
  ·simp(disch:=omega) only[ia,dT,cond_true,aH,au,aI,aS,hC,aa,wa]
   cases hl:lt C d[j+1]! d[a]!
   ·right
    rw[show Sort.scanDown (fun x=>!lt C x d[a]!) d i (j+1)=Sort.scanDown (fun x=>!lt C x d[a]!) d i j by rw[Sort.scanDown,if_pos (by simp[e,hl])]]
    simp(disch:=omega) only[Bool.not_false,cond_true,p1,Nat.add_sub_cancel,aI,au]
    exact⟨_,j,rfl,⟨j,by omega,rfl,rfl,rfl⟩,by omega⟩
   ·left
    rw[show Sort.scanDown (fun x=>!lt C x d[a]!) d i (j+1)=j+1 by rw[Sort.scanDown,if_neg (by simp[hl])]]
    simp only[Bool.not_true,cond_false]
  ·left
   rw[show Sort.scanDown (fun x=>!lt C x d[a]!) d i (j+1)=j+1 by rw[Sort.scanDown,if_neg (by simp[e])]]
   simp(disch:=omega) only[ia,dF,cond_false]
theorem peq {a b p:Nat}{d:Array β}(ha:a < d.size)(hp:p < d.size)(hb:b≤d.size)(hb1:1≤b)(hz:d.size≤250):gX ((a:Int),(b:Int),(p:Int),MA v d)=some (((Sort.partitionEqual (lt C) d a b p).1:Int),MA v (Sort.partitionEqual (lt C) d a b p).2):=by
 have key:∀ {i j:Nat} {d:Array β},a < d.size→1≤i→j < d.size→d.size≤250→xw ((a:Int),(i:Int),(j:Int),MA v d)=some (((Sort.partEqLoop (lt C) a i j d).1:Int),MA v (Sort.partEqLoop (lt C) a i j d).2):=by
  intro i j d ha hi hj hz
  refine aK (fun s r n=>∃ (i j:Nat) (d:Array β),a < d.size∧1≤i∧j < d.size∧d.size≤250∧s=((a:Int),(i:Int),(j:Int),MA v d)∧r=(((Sort.partEqLoop (lt C) a i j d).1:Int),MA v (Sort.partEqLoop (lt C) a i j d).2)∧n=j+1-i) ⟨i,j,d,ha,hi,hj,hz,rfl,rfl,rfl⟩ (by omega) ?_
  rintro s r n ⟨i,j,d,q1,q2,q3,q4,rfl,rfl,rfl⟩
  have u1:=Sort.scanUp_ge (fun x=>!lt C d[a]! x) d j i
  have u2:=Sort.scanDown_le (fun x=>lt C d[a]! x) d (Sort.scanUp (fun x=>!lt C d[a]! x) d j i) j
  rw[Sort.partEqLoop_eq]
  simp(disch:=omega) only[EP,xu,pe1 hC,pe2 hC,aa]
  generalize Sort.scanUp (fun x=>!lt C d[a]! x) d j i=i2 at *
  generalize Sort.scanDown (fun x=>lt C d[a]! x) d i2 j=j2 at *
  by_cases e:j2 < i2
  ·left; simp(disch:=omega) only[iM,dT,cond_true,if_pos (show i2 > j2 from e)]
  ·right
   simp(disch:=omega) only[iM,dF,cond_false,if_neg (show ¬ i2 > j2 from e),aH,au,aS,Int.toNat_natCast,bC,aX,bD,a1,aI,p1]
   exact⟨_,j2-1+1-(i2+1),rfl,⟨i2+1,j2-1,Sort.swp d i2 j2,by rwa [aw],by omega,by rw[aw]; omega,by rwa [aw],rfl,rfl,rfl⟩,by omega⟩
 have k:=key (i:=a+1) (j:=b-1) (d:=Sort.swp d a p) (by rwa [aw]) (by omega) (by rw[aw]; omega) (by rwa [aw])
 simp(disch:=omega) only[gX,Vp,QX,aH,au,aS,Int.toNat_natCast,bC,aX,bD,a1,aI,p1,k,aa,Sort.partitionEqual]
omit hC
theorem Hl (a:Nat):∀ (n i j:Nat) (d:Array β),j+1-i≤n→(Sort.partLoop (lt C) a i j d).1≤j∧(Sort.partLoop (lt C) a i j d).2.size=d.size:=by
 intro n
 induction n with
 | zero=>
  intro i j d h
  have u1:=Sort.scanUp_ge (fun x=>lt C x d[a]!) d j i
  have u2:=Sort.scanDown_le (fun x=>!lt C x d[a]!) d (Sort.scanUp (fun x=>lt C x d[a]!) d j i) j
  rw[Sort.partLoop_eq,if_pos (by omega)]
  exact⟨u2,rfl⟩
 | succ n ih=>
  intro i j d h
  have u1:=Sort.scanUp_ge (fun x=>lt C x d[a]!) d j i
  have u2:=Sort.scanDown_le (fun x=>!lt C x d[a]!) d (Sort.scanUp (fun x=>lt C x d[a]!) d j i) j
  rw[Sort.partLoop_eq]
  split
  ·exact⟨u2,rfl⟩
  ·have:=ih (Sort.scanUp (fun x=>lt C x d[a]!) d j i+1) (Sort.scanDown (fun x=>!lt C x d[a]!) d (Sort.scanUp (fun x=>lt C x d[a]!) d j i) j-1) (Sort.swp d (Sort.scanUp (fun x=>lt C x d[a]!) d j i) (Sort.scanDown (fun x=>!lt C x d[a]!) d (Sort.scanUp (fun x=>lt C x d[a]!) d j i) j)) (by omega)
   exact⟨by omega,by rw[this.2,aw]⟩
include hC
theorem jx {a b p:Nat}{d:Array β}(ha:a < d.size)(hp:p < d.size)(hb:b≤d.size)(hb1:1≤b)(hz:d.size≤250):gw ((a:Int),(b:Int),(p:Int),MA v d)=some (((Sort.partition (lt C) d a b p).1:Int),(Sort.partition (lt C) d a b p).2.1,MA v (Sort.partition (lt C) d a b p).2.2):=by
 have key:∀ {i j:Nat} {d:Array β},a < d.size→1≤i→j < d.size→d.size≤250→xG ((a:Int),(i:Int),(j:Int),MA v d)=some ((a:Int),((Sort.partLoop (lt C) a i j d).1:Int),MA v (Sort.partLoop (lt C) a i j d).2):=by
  intro i j d ha hi hj hz
  refine aK (fun s r n=>∃ (i j:Nat) (d:Array β),a < d.size∧1≤i∧j < d.size∧d.size≤250∧s=((a:Int),(i:Int),(j:Int),MA v d)∧r=((a:Int),((Sort.partLoop (lt C) a i j d).1:Int),MA v (Sort.partLoop (lt C) a i j d).2)∧n=j+1-i) ⟨i,j,d,ha,hi,hj,hz,rfl,rfl,rfl⟩ (by omega) ?_
  rintro s r n ⟨i,j,d,q1,q2,q3,q4,rfl,rfl,rfl⟩
  have u1:=Sort.scanUp_ge (fun x=>lt C x d[a]!) d j i
  have u2:=Sort.scanDown_le (fun x=>!lt C x d[a]!) d (Sort.scanUp (fun x=>lt C x d[a]!) d j i) j
  rw[Sort.partLoop_eq]
  simp(disch:=omega) only[E6,xF,pr3 hC,pr4 hC,aa]
  generalize Sort.scanUp (fun x=>lt C x d[a]!) d j i=i2 at *
  generalize Sort.scanDown (fun x=>!lt C x d[a]!) d i2 j=j2 at *
  by_cases e:j2 < i2
  ·left; simp(disch:=omega) only[iM,dT,cond_true,if_pos (show i2 > j2 from e)]
  ·right
   simp(disch:=omega) only[iM,dF,cond_false,if_neg (show ¬ i2 > j2 from e),aH,au,aS,Int.toNat_natCast,bC,aX,bD,a1,aI,p1]
   exact⟨_,j2-1+1-(i2+1),rfl,⟨i2+1,j2-1,Sort.swp d i2 j2,by rwa [aw],by omega,by rw[aw]; omega,by rwa [aw],rfl,rfl,rfl⟩,by omega⟩
 unfold Sort.partition
 simp only[]
 have z1:(Sort.swp d a p).size=d.size:=aw _ _ _
 generalize hd:Sort.swp d a p=d1 at *
 have u1:=Sort.scanUp_ge (fun x=>lt C x d1[a]!) d1 (b-1) (a+1)
 have u2:=Sort.scanDown_le (fun x=>!lt C x d1[a]!) d1 (Sort.scanUp (fun x=>lt C x d1[a]!) d1 (b-1) (a+1)) (b-1)
 simp(disch:=omega) only[gw,Vr,Q8,aH,au,aS,Int.toNat_natCast,bC,aX,bD,hd,a1,aI,p1,pr0 hC,pr1 hC,aa]
 generalize Sort.scanUp (fun x=>lt C x d1[a]!) d1 (b-1) (a+1)=i2 at *
 generalize Sort.scanDown (fun x=>!lt C x d1[a]!) d1 i2 (b-1)=j2 at *
 by_cases e:j2 < i2
 ·simp(disch:=omega) only[iM,dT,cond_true,if_pos (show i2 > j2 from e),aH,au,aS,Int.toNat_natCast,bC,aX,bD]
 ·have z2:(Sort.swp d1 i2 j2).size=d1.size:=aw _ _ _
  have k:=key (i:=i2+1) (j:=j2-1) (d:=Sort.swp d1 i2 j2) (by omega) (by omega) (by omega) (by omega)
  have hl:=Hl (C:=C) a _ (i2+1) (j2-1) (Sort.swp d1 i2 j2) (Nat.le_refl _)
  simp(disch:=omega) only[iM,dF,cond_false,if_neg (show ¬ i2 > j2 from e),aH,au,aS,Int.toNat_natCast,bC,aX,bD,a1,aI,p1,k,aa]
theorem Ti (hS:Sort.SWO (lt C)):∀ (n f m a b limit:Nat) (wb wp:Bool) (d:Array β),n < f→n < m→n≤1000→b-a≤n→a≤b→b≤d.size→d.size≤250→limit≤250→Sort.Below (lt C) a b d →
  goF (fun x=>kV (iS f) x.1 x.2.1 x.2.2.1 x.2.2.2.1 x.2.2.2.2.1 x.2.2.2.2.2) m ((a:Int),(b:Int),(limit:Int),wb,wp,MA v d)=some (MA v (Sort.pdq (lt C) d a b limit wb wp)):=by
 have small:∀ (f m a b limit:Nat) (wb wp:Bool) (d:Array β),0 < m→b-a≤12→a≤b→b≤d.size→d.size≤250→goF (fun x=>kV (iS f) x.1 x.2.1 x.2.2.1 x.2.2.2.1 x.2.2.2.2.1 x.2.2.2.2.2) m ((a:Int),(b:Int),(limit:Int),wb,wp,MA v d)=some (MA v (Sort.pdq (lt C) d a b limit wb wp)):=by
  intro f m a b limit wb wp d hm h12 hab hb hz
  obtain⟨m,rfl⟩:∃ m',m=m'+1:=⟨m-1,by omega⟩
  have g:decide (((b-a:Nat):Int)≤12)=true:=by simp; omega
  rw[Sort.pdq,if_pos h12]
  simp(disch:=omega) only[goF,kV,pI,pn,aI,au,g,cond_true,ins hC,aa]
 intro n
 induction n with
 | zero=>intro f m a b limit wb wp d h1 h2 hn h3 hab hb hz hl hB; exact small f m a b limit wb wp d h2 (by omega) hab hb hz
 | succ n ih=>
  intro f m a b limit wb wp d h1 h2 hn h3 hab hb hz hl hB
  by_cases h12:b-a≤12
  ·exact small f m a b limit wb wp d (by omega) h12 hab hb hz
  obtain⟨m,rfl⟩:∃ m',m=m'+1:=⟨m-1,by omega⟩
  obtain⟨f,rfl⟩:∃ f',f=f'+1:=⟨f-1,by omega⟩
  have g12:decide (((b-a:Nat):Int)≤12)=false:=by simp; omega
  rw[Sort.pdq,if_neg h12]
  by_cases h0:limit=0
  ·subst h0
   have g0:decide (((0:Nat):Int)=0)=true:=rfl
   simp(disch:=omega) only[goF,kV,pI,pn,aI,au,g12,cond_false,g0,cond_true,heap hC,aa,if_true]
  have g0:decide ((limit:Int)=0)=false:=by simp; omega
  rw[if_neg h0]
  simp only[]
  have e1:pH (iS (f+1)) ((a:Int),(b:Int),(limit:Int),wb,wp,((b-a:Nat):Int),MA v d)=some ((a:Int),(b:Int),((if(!wb)=true then limit-1 else limit:Nat):Int),wb,wp,((b-a:Nat):Int),MA v (if(!wb)=true then Sort.breakPatterns d a b else d)):=by
   cases wb
   ·simp(disch:=omega) only[pH,xI,ti,Bool.not_false,cond_true,brk,aa,p1,aI,au,if_true]
   ·simp only[pH,xI,ti,Bool.not_true,cond_false,Bool.false_eq_true,if_false]
  have s1:Sort.PermIn a b d (if(!wb)=true then Sort.breakPatterns d a b else d):=by
   split
   ·exact Sort.breakPatterns_holds d a b hab hb
   ·exact Sort.permIn_refl _ _ _
  have hl1:(if(!wb)=true then limit-1 else limit)≤250:=by split <;> omega
  generalize (if(!wb)=true then Sort.breakPatterns d a b else d)=d1 at *
  generalize (if(!wb)=true then limit-1 else limit)=l1 at *
  have z1:d1.size=d.size:=s1.1
  have e2:=chp hC (d:=d1) (a:=a) (b:=b) (by omega) (by omega) (by omega)
  have hc0:=Sort.choosePivot_holds (lt C) d1 a b (by omega)
  generalize Sort.choosePivot (lt C) d1 a b=c at *
  have e3:tj (iS (f+1)) ((a:Int),(b:Int),(l1:Int),wb,wp,((b-a:Nat):Int),(c.1:Int),hN c.2,MA v d1)=some ((a:Int),(b:Int),(l1:Int),wb,wp,((b-a:Nat):Int),((if c.2 = .decreasing then(b-1)-(c.1-a)else c.1:Nat):Int),hN (if c.2 = .decreasing then Sort.Hint.increasing else c.2),MA v (if c.2 = .decreasing then Sort.reverseRange d1 a b else d1)):=by
   obtain⟨c1,c2⟩:=c
   simp only at hc0
   cases c2
   ·rfl
   ·rfl
   ·have g:decide (hN Sort.Hint.decreasing=2)=true:=rfl
    simp(disch:=omega) only[tj,Fd,xJ,g,cond_true,rev,aa,p1,aI,au,pn,if_true]
    rfl
  have s2:Sort.PermIn a b d1 (if c.2 = .decreasing then Sort.reverseRange d1 a b else d1):=by
   split
   ·exact Sort.reverseRange_holds d1 a b hab (by omega)
   ·exact Sort.permIn_refl _ _ _
  have hpv:a≤(if c.2 = .decreasing then(b-1)-(c.1-a)else c.1)∧(if c.2 = .decreasing then(b-1)-(c.1-a)else c.1) < b:=by split <;> omega
  generalize (if c.2 = .decreasing then Sort.reverseRange d1 a b else d1)=d2 at *
  generalize (if c.2 = .decreasing then(b-1)-(c.1-a)else c.1)=pv at *
  generalize (if c.2 = .decreasing then Sort.Hint.increasing else c.2)=hint at *
  have z2:d2.size=d1.size:=s2.1
  have B2:Sort.Below (lt C) a b d2:=(hB.perm hb s1).perm (by omega) s2
  have s3:Sort.PermIn a b d2 (if(wb&&wp&&decide (hint = .increasing))=true then Sort.partialInsertionSort (lt C) d2 a b else(d2,false)).1:=by
   split
   ·exact(Sort.partialInsertionSort_holds hS d2 a b (by omega) (by omega) B2).1
   ·exact Sort.permIn_refl _ _ _
  have e4:tn (iS (f+1)) ((a:Int),(b:Int),(l1:Int),wb,wp,((b-a:Nat):Int),(pv:Int),hN hint,MA v d2)=some (cond (if(wb&&wp&&decide (hint = .increasing))=true then Sort.partialInsertionSort (lt C) d2 a b else(d2,false)).2
    (.inl (MA v (if(wb&&wp&&decide (hint = .increasing))=true then Sort.partialInsertionSort (lt C) d2 a b else(d2,false)).1))
    (.inr ((a:Int),(b:Int),(l1:Int),wb,wp,((b-a:Nat):Int),(pv:Int),MA v (if(wb&&wp&&decide (hint = .increasing))=true then Sort.partialInsertionSort (lt C) d2 a b else(d2,false)).1))):=by
   have hpis:=pis hC (d:=d2) (a:=a) (b:=b) (by omega) (by omega) (by omega)
   cases wb
   ·rfl
   ·cases wp
    ·rfl
    ·cases hint
     ·rfl
     ·have g:decide (hN Sort.Hint.increasing=1)=true:=rfl
      simp only[tn,Fe,xK,g,cond_true,hpis,aa,Bool.true_and,decide_true,if_true]
      cases(Sort.partialInsertionSort (lt C) d2 a b).2 <;> rfl
     ·rfl
  generalize (if(wb&&wp&&decide (hint = .increasing))=true then Sort.partialInsertionSort (lt C) d2 a b else(d2,false))=pi at *
  obtain⟨d3,fl⟩:=pi
  simp only at s3 e4 ⊢
  have z3:d3.size=d2.size:=s3.1
  have B3:Sort.Below (lt C) a b d3:=B2.perm (by omega) s3
  rw[goF]
  generalize hG:goF (fun x=>kV (iS (f+1)) x.1 x.2.1 x.2.2.1 x.2.2.2.1 x.2.2.2.2.1 x.2.2.2.2.2) m=G
  simp(disch:=omega) only[kV,pI,pn,aI,au,g12,cond_false,g0,e1,aa,e2,e3,e4]
  clear e1 e2 e3 e4
  cases fl
  ·simp only[cond_false,Sum.elim_inr,Bool.false_eq_true,if_false]
   have call:∀ (x y:Nat) (dd:Array β),x≤y→y-x≤n→y≤dd.size→dd.size≤250→Sort.Below (lt C) x y dd→iS (f+1) ((x:Int),(y:Int),(l1:Int),MA v dd)=some (MA v (Sort.pdq (lt C) dd x y l1 true true)):=fun x y dd k1 k2 k3 k4 k5=>by
    have:=ih f 18446744073709551616 x y l1 true true dd (by omega) (by omega) (by omega) k2 k1 k3 k4 hl1 k5
    have this':tp (iS f) ((x:Int),(y:Int),(l1:Int),true,true,MA v dd)=some (MA v (Sort.pdq (lt C) dd x y l1 true true)):=this
    show BN (iS f) _ _ _ _=_
    simp only[BN,IX,this',aa]
   have part:∀ (mid:Nat) (ap:Bool) (d4:Array β),Sort.partition (lt C) d3 a b pv=(mid,ap,d4) →
     ∃ s',(((gw ((a:Int),(b:Int),(pv:Int),MA v d3)).bind fun r17=>aj (ai .i64 (r17.1-(a:Int))) (aj (ai .i64 ((b:Int)-r17.1)) (aj (ai .i64 (Int.tdiv ((b-a:Nat):Int) 8)) (cond (decide ((r17.1-(a:Int)) < ((b:Int)-r17.1)))
      ((iS (f+1) ((a:Int),r17.1,(l1:Int),r17.2.2)).bind fun r18=>aj (ai .i64 (r17.1+1)) (some (Sum.inl ((r17.1+1),(b:Int),(l1:Int),decide (Int.tdiv ((b-a:Nat):Int) 8≤(r17.1-(a:Int))),r17.2.1,r18))))
      (aj (ai .i64 (r17.1+1)) ((iS (f+1) ((r17.1+1),(b:Int),(l1:Int),r17.2.2)).bind fun r19=>some (Sum.inl ((a:Int),r17.1,(l1:Int),decide (Int.tdiv ((b-a:Nat):Int) 8≤((b:Int)-r17.1)),r17.2.1,r19))))))):Option ((Int×Int×Int×Bool×Bool×List E)⊕List E)))=some (Sum.inl s')∧G s'=some (MA v (if h:a≤mid∧mid < b then
       if mid-a < b-mid then Sort.pdq (lt C) (Sort.pdq (lt C) d4 a mid l1 true true) (mid+1) b l1 (decide (mid-a≥(b-a) / 8)) ap
       else Sort.pdq (lt C) (Sort.pdq (lt C) d4 (mid+1) b l1 true true) a mid l1 (decide (b-mid≥(b-a) / 8)) ap else d4)):=fun mid ap d4 hx=>by
    have hr:=jx hC (d:=d3) (a:=a) (b:=b) (p:=pv) (by omega) (by omega) (by omega) (by omega) (by omega)
    obtain⟨g1,g2,hs4,hBa,hBr,hleft,hright⟩:=Sort.round_part hS (Sort.partition_holds _) hpv.1 hpv.2 (by omega) B3 hx
    rw[hx]at hr
    simp only at hr
    have q8:Int.tdiv ((b-a:Nat):Int) 8=(((b-a) / 8:Nat):Int):=Cl _
    rw[dif_pos ⟨g1,g2⟩]
    simp(disch:=omega) only[hr,aa,pn,aI,au,q8,iM,ia,a1]
    by_cases hlt:mid-a < b-mid
    ·have k:=call a mid d4 g1 (by omega) (by omega) (by omega) hBa
     obtain⟨l1',l2'⟩:=Sort.pdq_sorts (lt C) hS d4 a mid l1 true true g1 (by omega) hBa
     have hB':=(hleft _ l1' l2').1
     simp(disch:=omega) only[dT,cond_true,k,aa,if_pos hlt]
     refine⟨_,rfl,?_⟩
     rw[← hG]
     exact ih (f+1) m (mid+1) b l1 _ ap _ (by omega) (by omega) (by omega) (by omega) (by omega) (by rw[l1'.1]; omega) (by rw[l1'.1]; omega) hl1 hB'
    ·have k:=call (mid+1) b d4 (by omega) (by omega) (by omega) (by omega) hBr
     obtain⟨l1',l2'⟩:=Sort.pdq_sorts (lt C) hS d4 (mid+1) b l1 true true (by omega) (by omega) hBr
     have hB':=(hright _ l1' l2').1
     simp(disch:=omega) only[dF,cond_false,k,aa,if_neg hlt]
     refine⟨_,rfl,?_⟩
     rw[← hG]
     exact ih (f+1) m a mid l1 _ ap _ (by omega) (by omega) (by omega) (by omega) (by omega) (by rw[l1'.1]; omega) (by rw[l1'.1]; omega) hl1 hB'
   by_cases ha0:0 < a
   ·have ga:decide ((0:Int) < (a:Int))=true:=by simp; omega
    simp(disch:=omega) only[ga,cond_true,p1,aI,au,aH,aS,hC,aa,wa]
    cases hq:lt C d3[a-1]! d3[pv]!
    ·simp only[Bool.not_false,cond_true,Bool.and_true,decide_eq_true_eq,if_pos (show a > 0 from ha0)]
     have hr:=peq hC (d:=d3) (a:=a) (b:=b) (p:=pv) (by omega) (by omega) (by omega) (by omega) (by omega)
     rcases hx:Sort.partitionEqual (lt C) d3 a b pv with⟨mid,d4⟩
     obtain⟨g1,g2,hs4,hB4,hfin⟩:=Sort.round_eq hS (Sort.partitionEqual_holds _) ha0 hpv.1 hpv.2 (by omega) B3 hq hx
     rw[hx]at hr
     simp only at hr
     simp only[hr,aa,dif_pos (And.intro g1 g2)]
     rw[← hG]
     exact ih (f+1) m mid b l1 wb wp d4 (by omega) (by omega) (by omega) (by omega) g2 (by omega) (by omega) hl1 hB4
    ·simp only[Bool.not_true,cond_false,Bool.and_false,Bool.false_eq_true,if_false]
     rcases hx:Sort.partition (lt C) d3 a b pv with⟨mid,ap,d4⟩
     obtain⟨s',k1,k2⟩:=part mid ap d4 hx
     rw[k1]
     exact k2
   ·have ga:decide ((0:Int) < (a:Int))=false:=by simp; omega
    have gn:decide (a > 0)=false:=by simp; omega
    simp only[ga,cond_false,gn,Bool.false_and,Bool.false_eq_true,if_false]
    rcases hx:Sort.partition (lt C) d3 a b pv with⟨mid,ap,d4⟩
    obtain⟨s',k1,k2⟩:=part mid ap d4 hx
    rw[k1]
    exact k2
  ·simp only[cond_true,Sum.elim_inl,if_true]
theorem top (hS:Sort.SWO (lt C)){d:Array β}(hz:d.size≤250):P109 (MA v d)=some (MA v (Sort.sort (lt C) d)):=by
 have hl:Sort.bitsLen d.size≤8:=(Sort.bitsLen_le_iff d.size 8).2 (by omega)
 have fu:ai .u64 (d.size:Int)=true:=nt (by omega) (by omega)
 have k:=Ti hC hS 1000 18446744073709551615 18446744073709551616 0 d.size (Sort.bitsLen d.size) true true d (by omega) (by omega) (by omega) (by omega) (by omega) (Nat.le_refl _) hz (by omega) (.inl rfl)
 have k':tp (iS 18446744073709551615) (0,(d.size:Int),((Sort.bitsLen d.size:Nat):Int),true,true,MA v d)=some (MA v (Sort.sort (lt C) d)):=k
 have e:P124 (0,(d.size:Int),((Sort.bitsLen d.size:Nat):Int),MA v d)=some (MA v (Sort.sort (lt C) d)):=by
  show BN (iS 18446744073709551615) _ _ _ _=_
  simp only[BN,IX,k',aa]
 simp(disch:=omega) only[P109,Vu,Rk,pF,fu,au,Hk,aa,e]
end
theorem srt (K:E→Int)(gd:E→Prop)(x0:E)(h0:gd x0)(hK:∀ x y,gd x→gd y→∃ c:Int,P80 (x,y)=some c∧(decide (c < 0)=true↔K x < K y)){l:List E}(hl:∀ x∈l,gd x)(hz:l.length≤250):
  ∃ l',P109 l=some l'∧l'.Perm l∧Sd K l' 0 l'.length:=by
 letI:Inhabited {x:E // gd x}:=⟨⟨x0,h0⟩⟩
 let C:{x:E // gd x}→{x:E // gd x}→Int:=fun x y=>Classical.choose (hK x.1 y.1 x.2 y.2)
 have hC:∀ x y:{x:E // gd x},P80 (x.1,y.1)=some (C x y):=fun x y=>(Classical.choose_spec (hK x.1 y.1 x.2 y.2)).1
 have hlt:∀ x y:{x:E // gd x},lt C x y=true↔K x.1 < K y.1:=fun x y=>(Classical.choose_spec (hK x.1 y.1 x.2 y.2)).2
 have hlf:∀ x y:{x:E // gd x},lt C x y=false↔K y.1≤K x.1:=fun x y=>by rw[← Bool.not_eq_true,hlt]; omega
 have hS:Sort.SWO (lt C):=⟨fun x=>(hlf x x).2 (Int.le_refl _),fun x y z h1 h2=>(hlt _ _).2 (Int.lt_trans ((hlt _ _).1 h1) ((hlt _ _).1 h2)),fun x y z h1 h2=>(hlf _ _).2 (Int.le_trans ((hlf _ _).1 h2) ((hlf _ _).1 h1))⟩
 let d:Array {x:E // gd x}:=(l.attach.map fun x=>⟨x.1,hl x.1 x.2⟩).toArray
 have hd:MA (fun x:{x:E // gd x}=>x.1) d=l:=by
  simp only[MA,d,List.map_map]
  exact List.attach_map_subtype_val l
 have hds:d.size=l.length:=by simp[d]
 obtain⟨s1,s2⟩:=Sort.sort_sorts (lt C) hS d
 have ht:=top (v:=fun x:{x:E // gd x}=>x.1) hC hS (d:=d) (by omega)
 rw[hd]at ht
 refine⟨_,ht,?_,fun i j q1 q2 q3=>?_⟩
 ·have hp:=s1.2.2
  have e1:∀ r:Array {x:E // gd x},r.size=d.size→r.extract 0 d.size=r:=fun r hr=>by rw[← hr]; simp
  rw[e1 _ s1.1,show d.extract 0 d.size=d by simp]at hp
  have:=hp.map (fun x:{x:E // gd x}=>x.1)
  rw[← hd]
  exact this
 ·rw[pF]at q3
  have e:∀ k,k < (Sort.sort (lt C) d).size→gt (MA (fun x:{x:E // gd x}=>x.1) (Sort.sort (lt C) d)) k=((Sort.sort (lt C) d)[k]!).1:=fun k hk=>by rw[← bJ,aS hk]
  rw[e i (by omega),e j q3]
  exact(hlf _ _).1 (s2 i j q1 q2 (by have:=s1.1; omega))
end Pdq109
theorem Sy (x y:Int):K8 [x,y]=some (if x≠0 then x else y):=by
 have e:∃ z,zp (0,[x,y],2,0)=some z∧Sum.elim id id z=(if x≠0 then x else y):=by
  by_cases h1:x=0
  ·by_cases h2:y=0
   ·refine⟨Sum.inr 0,aW (step:=fun x=>zo x.1 x.2.1 x.2.2.1 x.2.2.2) 2 (fun k=>(0,[x,y],2,(k:Int))) (Sum.inr 0) (fun i hi=>?_) rfl (by omega),by rw[if_neg (by simpa using h1),h2]; rfl⟩
    subst h1; subst h2
    rcases(show i=0∨i=1 by omega)with rfl | rfl <;> rfl
   ·refine⟨Sum.inl y,aW (step:=fun x=>zo x.1 x.2.1 x.2.2.1 x.2.2.2) 1 (fun k=>(0,[x,y],2,(k:Int))) (Sum.inl y) (fun i hi=>?_) ?_ (by omega),by rw[if_neg (by simpa using h1)]; rfl⟩
    ·subst h1
     obtain rfl:i=0:=by omega
     rfl
    ·show cond (!decide (y=0)) (some (Sum.inr (Sum.inl y))) _=_
     rw[decide_eq_false h2]; rfl
  ·refine⟨Sum.inl x,aW (step:=fun x=>zo x.1 x.2.1 x.2.2.1 x.2.2.2) 0 (fun k=>(0,[x,y],2,(k:Int))) (Sum.inl x) (fun i hi=>by omega) ?_ (by omega),by rw[if_pos h1]; rfl⟩
   show cond (!decide (x=0)) (some (Sum.inr (Sum.inl x))) _=_
   rw[decide_eq_false h1]; rfl
 obtain⟨z,e1,e2⟩:=e
 show q81 zp [x,y]=_
 unfold q81
 rw[show(↑(List.length [x,y]):Int)=2 from rfl,e1,← e2]
 cases z <;> rfl
theorem Sz {a b:aD}(ha:bu a)(hb:bu b):∃ c:Int,P80 (a,b)=some c∧(decide (c < 0)=true↔kc a < kc b):=by
 have h1:=ha.1
 have h2:=ha.2.1
 have h3:=hb.1
 have h4:=hb.2.1
 refine⟨if a.2.1-b.2.1≠0 then a.2.1-b.2.1 else a.1-b.1,?_,?_⟩
 ·show q80 K8 a b=_
  unfold q80
  rw[am (bk (by omega) (by omega)),am (bk (by omega) (by omega)),Sy]
  rfl
 ·rw[decide_eq_true_eq,Om ha hb]
  split <;> omega
theorem Ke (l:List aD)(hl:l.length≤250)(hv:∀ c∈l,bu c)(hk:jw l):
  ∃ s m,zF l=some s∧tR s=some m∧m.Pairwise (fun a b=>kc a < kc b)∧∀ x,x∈m↔x∈l:=by
 obtain⟨s,e1,e2,e3⟩:=Pdq109.srt kc bu (0,0,1,0,1) ⟨⟨by decide,by decide⟩,⟨by decide,by decide⟩,.inl ⟨rfl,by decide,by decide⟩,⟨by decide,by decide⟩⟩ (fun x y hx hy=>Sz hx hy) hv hl
 refine⟨s,iY s s.length,?_,Sv s (by rw[e2.length_eq]; omega),?_,fun x=>?_⟩
 ·show q78 P108 P109 l=_
  unfold q78
  have e:P108 l=some l:=by
   show IL P123 l=_
   unfold IL
   rw[Kb l (by omega)]
   rfl
  rw[e,aa,e1]
  rfl
 ·refine(ddN_asc kc s e3 (fun a ha b hb h=>?_) s.length (Nat.le_refl _)).1
  have ha':=e2.mem_iff.1 ha
  have hb':=e2.mem_iff.1 hb
  exact hk a ha' b hb' (GW (hv a ha') (hv b hb') h)
 ·rw[ny,e2.mem_iff]
noncomputable def hrd (l:List aD):List aD:=(qw l).getD []
theorem lR {l:List aD}(hl:l.length≤250)(hv:∀ c∈l,bu c)(hk:jw l):qw l=some (hrd l)∧(hrd l).Pairwise (fun a b=>kc a < kc b)∧(∀ x,x∈hrd l↔x∈l)∧(hrd l).length≤l.length:=by
 obtain⟨m,e1,e2,e3⟩:=Sx l (by omega) hv hk
 have e:hrd l=m:=by unfold hrd; rw[e1]; rfl
 rw[e]
 exact⟨e1,e2,e3⟩
theorem vQ {l m:List aD}(hl:l.length≤250)(hv:∀ c∈l,bu c)(hk:jw l)(h1:m.Pairwise (fun a b=>kc a < kc b))(h2:∀ x,x∈m↔x∈l):m=hrd l:=by
 obtain⟨_,e2,e3,_⟩:=lR hl hv hk
 exact pU kc h1 e2 fun x=>by rw[h2,e3]
theorem GZ (l:List aD)(hl:l.length≤250)(hv:∀ c∈l,bu c)(hk:jw l):∃ s,zF l=some s∧tR s=some (hrd l):=by
 obtain⟨s,m,e1,e2,e3,e4⟩:=Ke l hl hv hk
 refine⟨s,e1,?_⟩
 rw[e2,vQ hl hv hk e3 e4]
def nz (hold minute:Int):List aD→HM→HM
 | [],x=>x
 | c::cs,x=>if minute < c.2.1 then x else nz hold minute cs (fj (lapM hold c.2.1 x) c)
def Hs (rows:List Int):HM:=(cA rows,fun _=>GP,[])
noncomputable def cD (h:List Int×Int)(l:List aD)(minute:Int):HM:=lapM h.2 minute (nz h.2 minute (hrd l) (Hs h.1))
def cY (h:List Int×Int):Prop:=(1≤h.1.length∧h.1.length≤6)∧(∀ n∈h.1,1≤n∧n≤12)∧(1≤h.2∧h.2≤600)
def kZ (rows:List Int):List Nat:=rows.map Int.toNat
theorem jV {h:List Int×Int}(hh:cY h):∀ k∈kZ h.1,k≤12:=fun k hk=>by
 obtain⟨n,hn,rfl⟩:=List.mem_map.1 hk
 have:=hh.2.1 n hn
 omega
theorem lS {h:List Int×Int}(hh:cY h):(kZ h.1).length≤30:=by
 have:=hh.1
 unfold kZ
 simp only[List.length_map]
 omega
theorem ye {rows:List Int}{r i:Nat}(hr:r < (cA rows).length)(hi:i < (gt (cA rows) r).length):gt (gt (cA rows) r) i = -1:=by
 have hr':r < rows.length:=by simpa [cA]using hr
 have e:gt (cA rows) r=List.replicate (gt rows r).toNat (-1):=by
  rw[cE hr,cE hr']
  simp[cA]
 rw[e]at hi ⊢
 rw[cE hi]
 simp
theorem IM0 (rows:List Int):IM (kZ rows) (Hs rows):=by
 have nh:¬ held GP:=by rintro(e | e) <;> cases e
 refine⟨?_,fun n hn=>absurd hn nh,fun r i hr hi=>.inl (ye hr hi),fun _ _=>rfl,fun _=>.inl rfl⟩
 show(cA rows).map List.length=kZ rows
 unfold cA kZ
 rw[List.map_map]
 exact List.map_congr_left fun n _=>by simp
theorem PK0 (rows:List Int):PK [] (Hs rows).2.1:=⟨by simp,fun _=>rfl,fun n o h=>by cases h⟩
theorem lT {α:Type}[Inhabited α](n:Nat)(a:α){i:Nat}(h:i < n):gt (List.replicate n a) i=a:=by
 rw[cE (by simpa using h)]; simp
theorem RK0 (rows:List Int):RK (List.replicate 100 (0,-1,-1,0)) (List.replicate 100 0) (Hs rows).2.1:=by
 refine⟨by simp,by simp,fun i hi=>?_,fun i hi h=>(by cases h),fun i hi=>?_⟩
 ·rw[lT _ _ hi]; rfl
 ·rw[lT _ _ hi]; exact⟨by decide,by decide⟩
theorem m4 (x:HM)(c:aD):(fj x c).2.2.length≤x.2.2.length+1:=by
 unfold fj yb yc mZ
 split
 ·split
  ·split <;> simp
  ·omega
 ·split
  ·split <;> simp
  ·split <;> simp
theorem IM.go {lens:List Nat}(hold minute:Int):∀ (l:List aD) {x:HM},IM lens x→(∀ c∈l,bu c)→IM lens (nz hold minute l x)
 | [],_,h,_=>h
 | c::l,x,h,hc=>by
  unfold nz
  split
  ·exact h
  ·exact IM.go hold minute l ((h.lap hold c.2.1).hear (hc c (by simp))) fun d hd=>hc d (by simp[hd])
theorem SA {lens:List Nat}{rows:List Int}{hold minute:Int}{m:List aD}{x:HM}{pool:List eB}(hm:m.length≤250)(hc:∀ c∈m,bu c)(h:IM lens x)(k:PK pool x.2.1)(sm:∀ k∈lens,k≤12)(sl:lens.length≤30)(hh:0≤hold∧hold≤100000)(hv:x.2.2.length≤100):
  ∃ pool',L65_0 (minute,(m.length:Int),0,rows,hold,m,x.1,x.2.2,pool)=some (minute,rows,hold,m,(nz hold minute m x).1,(nz hold minute m x).2.2,pool')∧PK pool' (nz hold minute m x).2.1:=by
 have key:=dM (step:=fun x=>Lo x.1 x.2.1 x.2.2.1 x.2.2.2.1 x.2.2.2.2.1 x.2.2.2.2.2.1 x.2.2.2.2.2.2.1 x.2.2.2.2.2.2.2.1 x.2.2.2.2.2.2.2.2)
  (fun s=>m.length-s.2.2.1.toNat)
  (fun s=>∃ (i:Nat) (y:HM) (pool:List eB),i≤m.length∧s=(minute,(m.length:Int),(i:Int),rows,hold,m,y.1,y.2.2,pool)∧IM lens y∧PK pool y.2.1∧y.2.2.length≤100+i∧nz hold minute (m.drop i) y=nz hold minute m x)
  (fun y=>∃ pool',y=(minute,rows,hold,m,(nz hold minute m x).1,(nz hold minute m x).2.2,pool')∧PK pool' (nz hold minute m x).2.1)
  (x:=(minute,(m.length:Int),((0:Nat):Int),rows,hold,m,x.1,x.2.2,pool)) ⟨0,x,pool,Nat.zero_le _,rfl,h,k,by omega,rfl⟩ (by show m.length-_ < _; omega) (by
   rintro s ⟨i,y,pool,hi,rfl,hy,ky,vy,hg⟩
   show(∃ s',rA BG BH zF tR P83 P84 minute (m.length:Int) (i:Int) rows hold m y.1 y.2.2 pool=_∧_)∨∃ z,rA BG BH zF tR P83 P84 minute (m.length:Int) (i:Int) rows hold m y.1 y.2.2 pool=_∧_
   by_cases him:i < m.length
   ·have hd:m.drop i=gt m i::m.drop (i+1):=by rw[List.drop_eq_getElem_cons him,cE him]
    rw[hd,nz]at hg
    unfold rA
    rw[aR him,cond_true,am (aE him),bJ]
    by_cases c:minute < (gt m i).2.1
    ·rw[decide_eq_true c,cond_true]
     rw[if_pos c]at hg
     exact .inr ⟨_,rfl,pool,by rw[← hg],by rw[← hg]; exact ky⟩
    ·rw[decide_eq_false c,cond_false]
     rw[if_neg c]at hg
     left
     obtain⟨pool1,e1,k1⟩:=Oj (rows:=rows) (hold:=hold) (minute:=(gt m i).2.1) hy ky sm hh
     have hy1:=hy.lap hold (gt m i).2.1
     have vy1:(lapM hold (gt m i).2.1 y).2.2.length≤100+i:=vy
     rw[e1,aa]
     obtain⟨pool2,e2,k2⟩:=P84_M (rows:=rows) (hold:=hold) hy1 k1 sm sl (hc _ (cW him)) (by omega)
     simp only
     rw[e2,aa]
     simp only
     rw[am (aM (by omega))]
     have hvv:=m4 (lapM hold (gt m i).2.1 y) (gt m i)
     exact⟨_,rfl,⟨i+1,_,pool2,by omega,rfl,hy1.hear (hc _ (cW him)),k2,by omega,hg⟩,by show m.length-((i:Int)+1).toNat < m.length-((i:Nat):Int).toNat; omega⟩
   ·obtain rfl:i=m.length:=by omega
    rw[List.drop_length]at hg
    refine .inr ⟨_,?_,pool,rfl,?_⟩
    ·unfold rA
     rw[aZ,cond_false,← hg]
     rfl
    ·rw[← hg]; exact ky)
 obtain⟨y,h1,pool',rfl,h2⟩:=key
 exact⟨pool',h1,h2⟩
theorem SB {lens:List Nat}{rows:List Int}{hold minute:Int}{m:List aD}{x:HM}{pl:List nZ}{sn:List Int}(hm:m.length≤250)(hc:∀ c∈m,bu c)(h:IM lens x)(k:RK pl sn x.2.1)(sm:∀ k∈lens,k≤12)(sl:lens.length≤30)(hh:0≤hold∧hold≤100000)(hv:x.2.2.length≤100):
  ∃ pl' sn',L52_0 (minute,m,0,(rows,hold),x.1,pl,sn,x.2.2)=some (minute,(rows,hold),(nz hold minute m x).1,pl',sn',(nz hold minute m x).2.2)∧RK pl' sn' (nz hold minute m x).2.1:=by
 have key:=dM (step:=fun x=>p52_0 x.1 x.2.1 x.2.2.1 x.2.2.2.1 x.2.2.2.2.1 x.2.2.2.2.2.1 x.2.2.2.2.2.2.1 x.2.2.2.2.2.2.2)
  (fun s=>m.length-s.2.2.1.toNat)
  (fun s=>∃ (i:Nat) (y:HM) (pl:List nZ) (sn:List Int),i≤m.length∧s=(minute,m,(i:Int),(rows,hold),y.1,pl,sn,y.2.2)∧IM lens y∧RK pl sn y.2.1∧y.2.2.length≤100+i∧nz hold minute (m.drop i) y=nz hold minute m x)
  (fun y=>∃ pl' sn',y=(minute,(rows,hold),(nz hold minute m x).1,pl',sn',(nz hold minute m x).2.2)∧RK pl' sn' (nz hold minute m x).2.1)
  (x:=(minute,m,((0:Nat):Int),(rows,hold),x.1,pl,sn,x.2.2)) ⟨0,x,pl,sn,Nat.zero_le _,rfl,h,k,by omega,rfl⟩ (by show m.length-_ < _; omega) (by
   rintro s ⟨i,y,pl,sn,hi,rfl,hy,ky,vy,hg⟩
   show(∃ s',p52_0 minute m (i:Int) (rows,hold) y.1 pl sn y.2.2=_∧_)∨∃ z,p52_0 minute m (i:Int) (rows,hold) y.1 pl sn y.2.2=_∧_
   by_cases him:i < m.length
   ·have hd:m.drop i=gt m i::m.drop (i+1):=by rw[List.drop_eq_getElem_cons him,cE him]
    rw[hd,nz]at hg
    by_cases c:minute < (gt m i).2.1
    ·rw[if_pos c]at hg
     refine .inr ⟨_,?_,pl,sn,rfl,by rw[← hg]; exact ky⟩
     show nv tv qw dR rT cn rW minute m (i:Int) (rows,hold) y.1 pl sn y.2.2=_
     unfold nv
     rw[show decide ((i:Int) < (↑(List.length m):Int))=true from aR him,cond_true,am (aE him),bJ,decide_eq_true c,cond_true,← hg]
    ·rw[if_neg c]at hg
     left
     obtain⟨pl1,sn1,e1,k1⟩:=GT (rows:=rows) (hold:=hold) (minute:=minute) him (by omega) hy ky sm sl hh (hc _ (cW him)) (by omega) (by omega)
     have hvv:=m4 (lapM hold (gt m i).2.1 y) (gt m i)
     have vy1:(lapM hold (gt m i).2.1 y).2.2.length≤100+i:=vy
     exact⟨_,e1,⟨i+1,_,pl1,sn1,by omega,rfl,(hy.lap hold _).hear (hc _ (cW him)),k1,by omega,hg⟩,by show m.length-((i+1:Nat):Int).toNat < m.length-((i:Nat):Int).toNat; omega⟩
   ·obtain rfl:i=m.length:=by omega
    rw[List.drop_length]at hg
    refine .inr ⟨_,?_,pl,sn,rfl,by rw[← hg]; exact ky⟩
    show nv tv qw dR rT cn rW minute m (m.length:Int) (rows,hold) y.1 pl sn y.2.2=_
    unfold nv
    rw[show decide ((m.length:Int) < (↑(List.length m):Int))=false from aZ _,cond_false,← hg]
    rfl)
 obtain⟨y,h1,pl',sn',rfl,h2⟩:=key
 exact⟨pl',sn',h1,h2⟩
def dK (l:List aD):Prop:=l.length≤40∧(∀ c∈l,bu c)∧jw l
theorem tI {l:List aD}(h:dK l):(∀ c∈hrd l,bu c)∧(hrd l).length≤250:=by
 obtain⟨h1,h2,h3⟩:=h
 obtain⟨e1,e2,e3,e4⟩:=lR (by omega) h2 h3
 exact⟨fun c hc=>h2 c ((e3 c).1 hc),by omega⟩
theorem sd {h:List Int×Int}(hh:cY h):∀ k,k < h.1.length→1≤gt h.1 k∧gt h.1 k≤12:=fun k hk=>hh.2.1 _ (cW hk)
theorem IM.after {h:List Int×Int}{l:List aD}(hl:dK l)(minute:Int):IM (kZ h.1) (cD h l minute):=
 ((IM0 h.1).go h.2 minute (hrd l) (tI hl).1).lap h.2 minute
theorem P65_M {h:List Int×Int}{l:List aD}(minute:Int)(hh:cY h)(hl:dK l):
  ∃ pool,P65 (h,l,minute)=some (h.1,h.2,(cD h l minute).1,(cD h l minute).2.2,pool)∧PK pool (cD h l minute).2.1:=by
 obtain⟨rows,hold⟩:=h
 have hr:=sd hh
 have h6:=hh.1
 have hH:=hh.2.2
 simp only at hr h6 hH
 obtain⟨s,e1,e2⟩:=GZ l (by have:=hl.1; omega) hl.2.1 hl.2.2
 obtain⟨c1,c2⟩:=tI hl
 obtain⟨p1,e3,k1⟩:=SA (rows:=rows) (hold:=hold) (minute:=minute) c2 c1 (IM0 rows) (PK0 rows) (jV hh) (lS hh) (by omega) (by simp[Hs])
 obtain⟨p2,e4,k2⟩:=Oj (rows:=rows) (hold:=hold) (minute:=minute) ((IM0 rows).go hold minute (hrd l) c1) k1 (jV hh) (by omega)
 refine⟨p2,?_,k2⟩
 show q65 BG BH zF tR P83 P84 L65_0 (rows,hold) l minute=_
 unfold q65
 rw[Td (by omega) hr,aa,show BH l=some l from rfl,aa,e1,aa,e2,aa]
 simp only
 rw[show L65_0 (minute,(↑(List.length (hrd l)):Int),0,rows,hold,hrd l,cA rows,[],[])=_ from e3,aa]
 simp only
 rw[e4]
 rfl
theorem G0 {h:List Int×Int}{l:List aD}(minute:Int)(hh:cY h)(hl:dK l):
  ∃ pl sn,P52 (h,l,minute)=some ((cD h l minute).1,pl,sn,(cD h l minute).2.2)∧RK pl sn (cD h l minute).2.1:=by
 obtain⟨rows,hold⟩:=h
 have hr:=sd hh
 have h6:=hh.1
 have hH:=hh.2.2
 simp only at hr h6 hH
 obtain⟨e1,_,_,_⟩:=lR (l:=l) (by have:=hl.1; omega) hl.2.1 hl.2.2
 obtain⟨c1,c2⟩:=tI hl
 obtain⟨p1,s1,e3,k1⟩:=SB (rows:=rows) (hold:=hold) (minute:=minute) c2 c1 (IM0 rows) (RK0 rows) (jV hh) (lS hh) (by omega) (by simp[Hs])
 obtain⟨p2,e4,k2⟩:=Ok (rows:=rows) (hold:=hold) (minute:=minute) ((IM0 rows).go hold minute (hrd l) c1) k1 (jV hh) (lS hh) (by omega)
 refine⟨p2,s1,?_,k2⟩
 show q52 tv qw dR rT cn L52_0 (rows,hold) l minute=_
 unfold q52
 rw[Ss rows hold (by omega) hr,aa,e1,aa]
 simp only
 rw[show L52_0 (minute,hrd l,0,(rows,hold),cA rows,List.replicate 100 (0,-1,-1,0),List.replicate 100 0,[])=_ from e3,aa]
 simp only
 rw[e4]
 rfl
instance (c:aD):Decidable (bu c):=by unfold bu; infer_instance
instance (h:List Int×Int):Decidable (cY h):=by unfold cY; infer_instance
instance (l:List aD):Decidable (dK l):=by unfold dK jw; infer_instance
def la (h:List Int×Int)(l:List aD):Int:=if cY h then(if dK l then 0 else 41)else 40
theorem m6 (x a b:Int):P60 (x,a,b)=some (wi x a b):=sW x a b
theorem tJ (x a b:Int):P57 (x,a,b)=some (wi x a b):=sW x a b
theorem vR (c:aD):decide (bu c)=(wi c.1 0 99&&wi c.2.1 0 9999&&wi c.2.2.2.1 0 99&&(cond (decide (c.2.2.1=1)) (wi c.2.2.2.2 1 12) (cond (decide (c.2.2.1=2)) (decide (c.2.2.2.2=0)) (cond (decide (c.2.2.1=3)) (decide (c.2.2.2.2=0)) false)))):=by
 rw[Bool.eq_iff_iff,decide_eq_true_eq]
 unfold bu
 rw[Bool.and_eq_true,Bool.and_eq_true,Bool.and_eq_true,du,du,du]
 by_cases k1:c.2.2.1=1
 ·rw[decide_eq_true k1,cond_true,du]; omega
 ·rw[decide_eq_false k1,cond_false]
  by_cases k2:c.2.2.1=2
  ·rw[decide_eq_true k2,cond_true,decide_eq_true_eq]; omega
  ·rw[decide_eq_false k2,cond_false]
   by_cases k3:c.2.2.1=3
   ·rw[decide_eq_true k3,cond_true,decide_eq_true_eq]; omega
   ·rw[decide_eq_false k3,cond_false]
    refine⟨fun h=>by omega,fun h=>absurd h.2 (by decide)⟩
theorem SC (c:aD):P50 c=some (decide (bu c)):=by
 show q50 P57 c=_
 unfold q50
 rw[vR]
 simp only[tJ,aa]
 cases wi c.1 0 99 with
 | false=>rfl
 | true=>
  cases wi c.2.1 0 9999 with
  | false=>rfl
  | true=>
   cases wi c.2.2.2.1 0 99 with
   | false=>rfl
   | true=>
    simp only[Bool.not_true,cond_false,Bool.true_and]
    cases decide (c.2.2.1=1)with
    | true=>rfl
    | false=>
     cases decide (c.2.2.1=2)with
     | true=>rfl
     | false=>cases decide (c.2.2.1=3) <;> rfl
theorem wi00 (x:Int):wi x 0 0=decide (x=0):=by
 rw[Bool.eq_iff_iff,du,decide_eq_true_eq]; omega
theorem SD (c:aD):BD c=some (decide (bu c)):=by
 show q49 P60 c=_
 unfold q49
 rw[vR]
 simp only[m6,aa,wi00]
 cases decide (c.2.2.1=1)with
 | true=>cases wi c.1 0 99 <;> cases wi c.2.1 0 9999 <;> cases wi c.2.2.2.1 0 99 <;> rfl
 | false=>
  cases decide (c.2.2.1=2)with
  | true=>cases wi c.1 0 99 <;> cases wi c.2.1 0 9999 <;> cases wi c.2.2.2.1 0 99 <;> rfl
  | false=>
   cases decide (c.2.2.1=3)with
   | true=>cases wi c.1 0 99 <;> cases wi c.2.1 0 9999 <;> cases wi c.2.2.2.1 0 99 <;> rfl
   | false=>cases wi c.1 0 99 <;> cases wi c.2.1 0 9999 <;> cases wi c.2.2.2.1 0 99 <;> rfl
theorem SE (n:Int):P69 n=some (!wi n 1 12):=by
 show q69 P60 n=_
 unfold q69
 rw[m6]
 rfl
theorem vS (h:List Int×Int):decide (cY h)=(eA h.1.length (fun k=>wi (gt h.1 k) 1 12)&&wi (h.1.length:Int) 1 6&&wi h.2 1 600):=by
 rw[Bool.eq_iff_iff,decide_eq_true_eq]
 unfold cY
 rw[Bool.and_eq_true,Bool.and_eq_true,du,du,PI (p:=fun n=>wi n 1 12)]
 simp only[du]
 constructor
 ·rintro⟨a,b,c⟩; exact⟨⟨b,by omega⟩,c⟩
 ·rintro⟨⟨b,a⟩,c⟩; exact⟨by omega,b,c⟩
theorem SF (h:List Int×Int)(hl:h.1.length≤1000):P37 h=some (decide (cY h)):=by
 show q37 P57 Ah h=_
 unfold q37
 have e:Ah (0,h)=some (cond (eA h.1.length (fun k=>wi (gt h.1 k) 1 12)) (Sum.inr h) (Sum.inl (false,h))):=by
  refine fB (step:=fun x=>M1 x.1 x.2) h.1.length (fun k=>((k:Int),h)) (fun k=>wi (gt h.1 k) 1 12) _ _ (fun k hk=>?_) ?_ (by omega)
  ·show rL P57 (k:Int) h=_
   unfold rL
   rw[show decide ((k:Int) < (↑(List.length h.1):Int))=true from aR hk,cond_true,am (aE hk),bJ,tJ,aa]
   cases wi (gt h.1 k) 1 12 with
   | false=>rfl
   | true=>rw[Bool.not_true,cond_false,am (aM (by omega))]; rfl
  ·show rL P57 (h.1.length:Int) h=_
   unfold rL
   rw[show decide ((h.1.length:Int) < (↑(List.length h.1):Int))=false from aZ _,cond_false]
 rw[e,vS]
 cases eA h.1.length (fun k=>wi (gt h.1 k) 1 12)with
 | false=>rfl
 | true=>
  simp only[cond_true,aa,elim_inr,tJ]
  rw[show((↑(List.length h.1):Int))=(h.1.length:Int)from rfl]
  cases wi (h.1.length:Int) 1 6 <;> rfl
theorem SG (h:List Int×Int)(hl:h.1.length≤1000):BC h=some (decide (cY h)):=by
 have e74:∃ z,P74 h.1=some z∧decide (0≤z)=!eA h.1.length (fun k=>wi (gt h.1 k) 1 12):=by
  rcases eK (step:=fun x=>KT x.1 x.2.1 x.2.2) h.1.length (fun k=>(h.1,(h.1.length:Int),(k:Int))) (fun k=>!wi (gt h.1 k) 1 12) (fun k=>Sum.inl (k:Int)) (Sum.inr ())
   (fun k hk _=>by
    show rt P69 h.1 (h.1.length:Int) (k:Int)=_
    unfold rt
    rw[aR hk,cond_true,am (aE hk),bJ,SE,aa]
    cases wi (gt h.1 k) 1 12 with
    | false=>rfl
    | true=>rw[Bool.not_true,cond_false,am (aM (by omega))]; rfl)
   (fun _=>by
    show rt P69 h.1 (h.1.length:Int) (h.1.length:Int)=_
    unfold rt
    rw[aZ,cond_false]) (by omega)with⟨k,h1,h2,h3,h4⟩ | ⟨h3,h4⟩
  ·refine⟨(k:Int),?_,?_⟩
   ·show TE P69 rx h.1=_
    unfold TE
    rw[show rx (h.1,(↑(List.length h.1):Int),0)=_ from h4]
    rfl
   ·rw[decide_eq_true (by omega)]
    symm
    rw[Bool.not_eq_true',← Bool.not_eq_true]
    intro ha
    have:=cN.1 ha k h1
    rw[this]at h2
    cases h2
  ·refine⟨-1,?_,?_⟩
   ·show TE P69 rx h.1=_
    unfold TE
    rw[show rx (h.1,(↑(List.length h.1):Int),0)=_ from h4]
    rfl
   ·symm
    rw[show decide ((0:Int) ≤ -1)=false from rfl,Bool.not_eq_false']
    exact cN.2 fun k hk=>by have:=h3 k hk; simpa using this
 obtain⟨z,e1,e2⟩:=e74
 have e58:P58 h.1=some (!eA h.1.length (fun k=>wi (gt h.1 k) 1 12)):=by
  show q58 P74 h.1=_
  unfold q58
  rw[e1,aa,e2]
 show q48 P60 P58 h=_
 unfold q48
 rw[vS,m6,aa,e58]
 simp only[m6,aa]
 rw[show((↑(List.length h.1):Int))=(h.1.length:Int)from rfl]
 cases wi (h.1.length:Int) 1 6 <;> cases eA h.1.length (fun k=>wi (gt h.1 k) 1 12) <;> cases wi h.2 1 600 <;> rfl
def tK (l:List aD):Prop:=(∀ c∈l,bu c)∧jw l
theorem vT {l:List aD}(h:tK l)(n:Nat):tK (l.take n):=⟨fun c hc=>h.1 c (List.mem_of_mem_take hc),fun a ha b hb=>h.2 a (List.mem_of_mem_take ha) b (List.mem_of_mem_take hb)⟩
theorem okL_snoc {l:List aD}{c:aD}:tK (l++[c])↔tK l∧bu c∧∀ a∈l,a.1=c.1→a=c:=by
 unfold tK jw
 constructor
 ·rintro⟨h1,h2⟩
  exact⟨⟨fun x hx=>h1 x (by simp[hx]),fun a ha b hb=>h2 a (by simp[ha]) b (by simp[hb])⟩,h1 c (by simp),fun a ha e=>h2 a (by simp[ha]) c (by simp) e⟩
 ·rintro⟨⟨h1,h2⟩,h3,h4⟩
  refine⟨fun x hx=>?_,fun a ha b hb e=>?_⟩
  ·rcases List.mem_append.1 hx with q | q
   ·exact h1 x q
   ·rw[List.mem_singleton.1 q]; exact h3
  ·rcases List.mem_append.1 ha with q | q <;> rcases List.mem_append.1 hb with p | p
   ·exact h2 a q b p e
   ·rw[List.mem_singleton.1 p]at e ⊢; exact h4 a q e
   ·rw[List.mem_singleton.1 q]at e ⊢; exact(h4 b p e.symm).symm
   ·rw[List.mem_singleton.1 q,List.mem_singleton.1 p]
theorem G1 {l:List aD}{i:Nat}(hi:i < l.length)(hl:l.length≤1000):∃ y,L27_1 (l,(i:Int),0)=some y∧((y = .inr (l,(i:Int))∧∀ a∈l.take i,a.1=(gt l i).1→a=gt l i)∨(y = .inl 41∧¬ ∀ a∈l.take i,a.1=(gt l i).1→a=gt l i)):=by
 rcases eK (step:=fun x=>M6 x.1 x.2.1 x.2.2) i (fun k=>(l,(i:Int),(k:Int))) (fun k=>decide ((gt l k).1=(gt l i).1)&&!decide (gt l k=gt l i)) (fun _=>Sum.inl 41) (Sum.inr (l,(i:Int)))
  (fun k hk _=>by
   show rM P37 P50 l (i:Int) (k:Int)=_
   unfold rM
   have f:ai .i64 ((k:Int)+1)=true:=aM (by omega)
   simp only[aR hk,cond_true,aE (show k < l.length by omega),aE hi,au,bJ,Ol,f]
   cases decide ((gt l k).1=(gt l i).1)with
   | false=>rfl
   | true=>cases decide (gt l k=gt l i) <;> rfl)
  (fun _=>by
   show rM P37 P50 l (i:Int) (i:Int)=_
   unfold rM
   rw[aZ,cond_false]) (by omega)with⟨k,h1,h2,h3,h4⟩ | ⟨h3,h4⟩
 ·refine⟨_,h4,.inr ⟨rfl,fun h=>?_⟩⟩
  simp only[Bool.and_eq_true,decide_eq_true_eq,Bool.not_eq_true',decide_eq_false_iff_not]at h2
  exact h2.2 (h _ (by rw[← sX l i k h1]; exact cW (by simp; omega)) h2.1)
 ·refine⟨_,h4,.inl ⟨rfl,fun a ha e=>?_⟩⟩
  obtain⟨j,hj,q⟩:=js ha
  rw[List.length_take]at hj
  rw[sX _ _ _ (by omega)]at q
  have:=h3 j (by omega)
  rw[q]at this
  simpa [e]using this
theorem G2 (l:List aD)(hl:l.length≤1000):(tK l∧vu (l,0)=some (.inr ()))∨(¬ tK l∧vu (l,0)=some (.inl 41)):=by
 have key:=dM (step:=fun x=>M8 x.1 x.2)
  (fun s=>l.length-s.2.toNat)
  (fun s=>∃ i:Nat,i≤l.length∧s=(l,(i:Int))∧tK (l.take i))
  (fun y=>(tK l∧y=Sum.inr ())∨(¬ tK l∧y=Sum.inl 41))
  (x:=(l,((0:Nat):Int))) ⟨0,Nat.zero_le _,rfl,by unfold tK jw; simp⟩ (by show l.length-_ < _; omega) (by
   rintro s ⟨i,hi,rfl,ho⟩
   show(∃ s',q27_0 P37 P50 L27_1 l (i:Int)=_∧_)∨∃ z,q27_0 P37 P50 L27_1 l (i:Int)=_∧_
   unfold q27_0
   by_cases him:i < l.length
   ·have ht:=hX l him
    rw[show decide ((i:Int) < (↑(List.length l):Int))=true from aR him,cond_true,am (aE him),bJ,SC,aa]
    by_cases hc:bu (gt l i)
    ·rw[decide_eq_true hc,Bool.not_true,cond_false]
     obtain⟨y,e1,⟨rfl,e2⟩ | ⟨rfl,e2⟩⟩:=G1 him hl
     ·left
      rw[e1,aa,elim_inr]
      simp only
      rw[am (aM (by omega))]
      exact⟨_,rfl,⟨i+1,by omega,rfl,by rw[ht]; exact okL_snoc.2 ⟨ho,hc,e2⟩⟩,by show l.length-((i:Int)+1).toNat < l.length-((i:Nat):Int).toNat; omega⟩
     ·right
      rw[e1,aa,elim_inl]
      refine⟨_,rfl,.inr ⟨fun h=>e2 ?_,rfl⟩⟩
      have:=vT h (i+1)
      rw[ht]at this
      exact(okL_snoc.1 this).2.2
    ·right
     rw[decide_eq_false hc,Bool.not_false,cond_true]
     exact⟨_,rfl,.inr ⟨fun h=>hc (h.1 _ (cW him)),rfl⟩⟩
   ·obtain rfl:i=l.length:=by omega
    rw[List.take_length]at ho
    right
    rw[show decide ((l.length:Int) < (↑(List.length l):Int))=false from aZ _,cond_false]
    exact⟨_,rfl,.inl ⟨ho,rfl⟩⟩)
 obtain⟨y,h1,⟨h2,rfl⟩ | ⟨h2,rfl⟩⟩:=key
 ·exact .inl ⟨h2,h1⟩
 ·exact .inr ⟨h2,h1⟩
theorem vU {h:List Int×Int}{l:List aD}(h1:cY h)(h2:40 < l.length):la h l=41:=by
 unfold la
 rw[if_pos h1,if_neg fun q=>by have:=q.1; omega]
theorem G3 (h:List Int×Int)(l:List aD)(hh:h.1.length≤1000)(hl:l.length≤1000):vw (h,l)=some (la h l):=by
 show q27 P37 P50 vu h l=_
 unfold q27
 rw[SF h hh,aa]
 by_cases h1:cY h
 ·rw[decide_eq_true h1,Bool.not_true,cond_false]
  by_cases h2:40 < l.length
  ·rw[show decide (40 < (↑(List.length l):Int))=true from decide_eq_true (by omega),cond_true,vU h1 h2]
  ·rw[show decide (40 < (↑(List.length l):Int))=false from decide_eq_false (by omega),cond_false]
   unfold la
   rw[if_pos h1]
   rcases G2 l hl with⟨e1,e2⟩ | ⟨e1,e2⟩
   ·rw[e2,if_pos ⟨by omega,e1.1,e1.2⟩]; rfl
   ·rw[e2,if_neg fun q=>e1 ⟨q.2.1,q.2.2⟩]; rfl
 ·rw[decide_eq_false h1,Bool.not_false,cond_true]
  unfold la
  rw[if_neg h1]
theorem G4 (l:List aD)(hl:l.length≤1000):(tK l∧∃ m,L26_0 (l,(l.length:Int),0,[])=some (.inr m))∨(¬ tK l∧∃ m,L26_0 (l,(l.length:Int),0,[])=some (.inl (41,m))):=by
 have key:=dM (step:=fun x=>KX x.1 x.2.1 x.2.2.1 x.2.2.2)
  (fun s=>l.length-s.2.2.1.toNat)
  (fun s=>∃ (i:Nat) (m:List (List Int×aD)),i≤l.length∧s=(l,(l.length:Int),(i:Int),m)∧tK (l.take i)∧(∀ n x,dm m [n]=some x→x∈l.take i∧x.1=n)∧∀ x∈l.take i,dm m [x.1]=some x)
  (fun y=>(tK l∧∃ m,y=Sum.inr m)∨(¬ tK l∧∃ m,y=Sum.inl (41,m)))
  (x:=(l,(l.length:Int),((0:Nat):Int),[])) ⟨0,[],Nat.zero_le _,rfl,by unfold tK jw; simp,fun n x h=>(by cases h),by simp⟩ (by show l.length-_ < _; omega) (by
   rintro s ⟨i,m,hi,rfl,ho,hm1,hm2⟩
   show(∃ s',uV BC BD l (l.length:Int) (i:Int) m=_∧_)∨∃ z,uV BC BD l (l.length:Int) (i:Int) m=_∧_
   unfold uV
   by_cases him:i < l.length
   ·have ht:=hX l him
    rw[aR him,cond_true,am (aE him),bJ,SD,aa]
    have next:tK (l.take i++[gt l i])→∃ s',(some (Sum.inl (l,(l.length:Int),(i:Int)+1,je m [(gt l i).1] (gt l i))):Option ((List aD×Int×Int×List (List Int×aD))⊕((Int×List (List Int×aD))⊕List (List Int×aD))))=some (.inl s') ∧
      (∃ (i:Nat) (m:List (List Int×aD)),i≤l.length∧s'=(l,(l.length:Int),(i:Int),m)∧tK (l.take i)∧(∀ n x,dm m [n]=some x→x∈l.take i∧x.1=n)∧∀ x∈l.take i,dm m [x.1]=some x)∧l.length-s'.2.2.1.toNat < l.length-((i:Nat):Int).toNat:=fun hok=>by
     refine⟨_,rfl,⟨i+1,_,by omega,rfl,by rw[ht]; exact hok,fun n x hx=>?_,fun x hx=>?_⟩,by show l.length-((i:Int)+1).toNat < l.length-((i:Nat):Int).toNat; omega⟩
     ·rw[mL]at hx
      rw[ht,List.mem_append,List.mem_singleton]
      by_cases c:[n]=[(gt l i).1]
      ·rw[if_pos c]at hx
       have c':n=(gt l i).1:=by simpa using c
       cases hx
       exact⟨.inr rfl,c'.symm⟩
      ·rw[if_neg c]at hx
       exact⟨.inl (hm1 n x hx).1,(hm1 n x hx).2⟩
     ·rw[mL]
      rw[ht,List.mem_append,List.mem_singleton]at hx
      by_cases c:[x.1]=[(gt l i).1]
      ·rw[if_pos c]
       have c':x.1=(gt l i).1:=by simpa using c
       rcases hx with hx | hx
       ·rw[(okL_snoc.1 hok).2.2 x hx c']
       ·rw[hx]
      ·rw[if_neg c]
       rcases hx with hx | hx
       ·exact hm2 x hx
       ·exact absurd (by rw[hx]) c
    by_cases hc:bu (gt l i)
    ·rw[decide_eq_true hc,Bool.not_true,cond_false]
     have f:ai .i64 ((i:Int)+1)=true:=aM (by omega)
     cases hk:dm m [(gt l i).1]with
     | none=>
      left
      rw[show Option.isSome (none:Option aD)=false from rfl,cond_false,am f]
      refine next (okL_snoc.2 ⟨ho,hc,fun a ha e=>?_⟩)
      have:=hm2 a ha
      rw[e,hk]at this
      cases this
     | some old=>
      rw[show Option.isSome (some old)=true from rfl,cond_true,show wC (some old) ((0:Int),((0:Int),((0:Int),((0:Int),(0:Int)))))=old from rfl,Ol]
      obtain⟨g1,g2⟩:=hm1 _ old hk
      by_cases hq:old=gt l i
      ·left
       rw[decide_eq_true hq,Bool.not_true,cond_false,am f]
       refine next (okL_snoc.2 ⟨ho,hc,fun a ha e=>?_⟩)
       have:=hm2 a ha
       rw[e,hk]at this
       cases this
       exact hq
      ·right
       rw[decide_eq_false hq,Bool.not_false,cond_true]
       refine⟨_,rfl,.inr ⟨fun h=>hq ?_,m,rfl⟩⟩
       have:=vT h (i+1)
       rw[ht]at this
       exact(okL_snoc.1 this).2.2 old g1 g2
    ·right
     rw[decide_eq_false hc,Bool.not_false,cond_true]
     exact⟨_,rfl,.inr ⟨fun h=>hc (h.1 _ (cW him)),m,rfl⟩⟩
   ·obtain rfl:i=l.length:=by omega
    rw[List.take_length]at ho
    right
    rw[aZ,cond_false]
    exact⟨_,rfl,.inl ⟨ho,m,rfl⟩⟩)
 obtain⟨y,h1,⟨h2,m,rfl⟩ | ⟨h2,m,rfl⟩⟩:=key
 ·exact .inl ⟨h2,m,h1⟩
 ·exact .inr ⟨h2,m,h1⟩
theorem yf (h:List Int×Int)(l:List aD)(hh:h.1.length≤1000)(hl:l.length≤1000):tQ (h,l)=some (la h l):=by
 show q26 BC BD L26_0 h l=_
 unfold q26
 rw[SG h hh,aa]
 by_cases h1:cY h
 ·rw[decide_eq_true h1,Bool.not_true,cond_false]
  by_cases h2:40 < l.length
  ·rw[show decide (40 < (↑(List.length l):Int))=true from decide_eq_true (by omega),cond_true,vU h1 h2]
  ·rw[show decide (40 < (↑(List.length l):Int))=false from decide_eq_false (by omega),cond_false]
   unfold la
   rw[if_pos h1]
   rcases G4 l hl with⟨e1,m,e2⟩ | ⟨e1,m,e2⟩
   ·rw[show L26_0 (l,(↑(List.length l):Int),0,[])=_ from e2,if_pos ⟨by omega,e1.1,e1.2⟩]; rfl
   ·rw[show L26_0 (l,(↑(List.length l):Int),0,[])=_ from e2,if_neg fun q=>e1 ⟨q.2.1,q.2.2⟩]; rfl
 ·rw[decide_eq_false h1,Bool.not_false,cond_true]
  unfold la
  rw[if_neg h1]
theorem tL {h:List Int×Int}{l:List aD}:la h l=0↔cY h∧dK l:=by
 unfold la
 by_cases h1:cY h
 ·by_cases h2:dK l
  ·simp[h1,h2]
  ·simp[h1,h2]
 ·simp[h1]
def fe (h:List Int×Int)(l:List aD)(minute order size:Int):Int:=if la h l=0 then(if wi minute 0 9999=true∧wi order 0 99=true∧wi size 1 12=true then 0 else 1)else la h l
theorem gi {h:List Int×Int}{l:List aD}{minute order size:Int}:fe h l minute order size=0↔(cY h∧dK l)∧(0≤minute∧minute≤9999)∧(0≤order∧order≤99)∧(1≤size∧size≤12):=by
 unfold fe
 simp only[du]
 by_cases h1:la h l=0
 ·rw[if_pos h1]
  have:=tL.1 h1
  split
  ·rename_i q; exact⟨fun _=>⟨this,q⟩,fun _=>rfl⟩
  ·rename_i q; exact⟨fun e=>(by cases e),fun e=>absurd e.2 q⟩
 ·rw[if_neg h1]
  exact⟨fun e=>absurd e h1,fun e=>absurd (tL.2 e.1) h1⟩
theorem yg (h:List Int×Int)(l:List aD)(minute order size:Int)(hh:h.1.length≤1000)(hl:l.length≤1000):qe (h,l,minute,order,size)=some (fe h l minute order size):=by
 show q51 vw P57 h l minute order size=_
 unfold q51 fe
 rw[G3 h l hh hl,aa]
 by_cases h1:la h l=0
 ·rw[decide_eq_true h1,Bool.not_true,cond_false,if_pos h1]
  simp only[tJ,aa]
  cases wi minute 0 9999 <;> cases wi order 0 99 <;> cases wi size 1 12 <;> rfl
 ·rw[decide_eq_false h1,Bool.not_false,cond_true,if_neg h1]
theorem tM (h:List Int×Int)(l:List aD)(minute order size:Int)(hh:h.1.length≤1000)(hl:l.length≤1000):pJ (h,l,minute,order,size)=(if fe h l minute order size=0 then none else some (fe h l minute order size)):=by
 show q42 tQ P60 P65 h l minute order size=_
 unfold q42
 rw[yf h l hh hl,aa]
 unfold fe
 by_cases h1:la h l=0
 ·rw[decide_eq_true h1,Bool.not_true,cond_false,if_pos h1]
  simp only[m6,aa]
  have hn:∀ o:Option (List Int×Int×List (List Int)×List Int×List eB),(o.bind fun _=>(none:Option Int))=none:=fun o=>by cases o <;> rfl
  cases wi minute 0 9999 <;> cases wi order 0 99 <;> cases wi size 1 12 <;> first | rfl | exact hn _
 ·rw[decide_eq_false h1,Bool.not_false,cond_true,if_neg h1,if_neg h1]
theorem lU {h:List Int×Int}{l:List aD}{minute order size:Int}(h0:fe h l minute order size=0):
  ∃ pool,P42v1 (h,l,minute,order,size)=some (0,h.1,h.2,(cD h l minute).1,(cD h l minute).2.2,pool)∧PK pool (cD h l minute).2.1:=by
 obtain⟨⟨c1,c2⟩,c3,c4,c5⟩:=gi.1 h0
 obtain⟨pool,e1,e2⟩:=P65_M minute c1 c2
 refine⟨pool,?_,e2⟩
 show zO tQ P60 P65 h l minute order size=_
 unfold zO
 rw[yf h l (by have:=c1.1; omega) (by have:=c2.1; omega),aa,tL.2 ⟨c1,c2⟩]
 simp only[m6,aa,du.2 c3,du.2 c4,du.2 c5,e1]
 rfl
namespace Pdq44
abbrev E:=Int
section
variable {β:Type} [Inhabited β] {v:β→E} {C:β→β→Bool}
def lt (C:β→β→Bool)(x y:β):Bool:=C x y
theorem eL (a:Nat):∀ (j:Nat) (d:Array β),(Sort.insInner (lt C) a j d).size=d.size
 | 0,d=>by rw[Sort.insInner]
 | j+1,d=>by
  rw[Sort.insInner]
  split
  ·rw[eL a j,aw]
  ·rfl
theorem eM (hi first:Nat):∀ (n root:Nat) (d:Array β),hi-root≤n→(Sort.siftDown (lt C) hi first root d).size=d.size:=by
 intro n
 induction n with
 | zero=>intro root d h; rw[Sort.siftDown,dif_pos (by omega)]
 | succ n ih=>
  intro root d h
  rw[Sort.siftDown]
  split
  ·rfl
  ·split
   ·split
    ·rfl
    ·rw[dif_pos (by rename_i h1 h2 h3; simp only[Bool.and_eq_true,decide_eq_true_eq]at h2; omega),ih _ _ (by omega),aw]
   ·split
    ·rfl
    ·rw[ih _ _ (by omega),aw]
theorem dO (hi first:Nat):∀ (k:Nat) (d:Array β),(Sort.heapBuild (lt C) hi first k d).size=d.size
 | 0,d=>rfl
 | k+1,d=>by rw[Sort.heapBuild,dO hi first k,eM hi first _ k d (Nat.le_refl _)]
variable (hC:∀ x y,P91 (v x,v y)=some (lt C x y))
include hC
theorem Te {a b i:Nat}{j:Nat}{d:Array β}(h1:j < d.size)(h2:d.size≤250)(h3:a≤250):
  FB ((a:Int),(b:Int),(i:Int),(j:Int),MA v d)=some ((a:Int),(b:Int),(i:Int),MA v (Sort.insInner (lt C) a j d)):=by
 refine aK (fun s r n=>∃ (j:Nat) (d:Array β),j < d.size∧d.size≤250∧s=((a:Int),(b:Int),(i:Int),(j:Int),MA v d)∧r=((a:Int),(b:Int),(i:Int),MA v (Sort.insInner (lt C) a j d))∧n=j) ⟨j,d,h1,h2,rfl,rfl,rfl⟩ (by omega) ?_
 rintro s r n ⟨j,d,q1,q2,rfl,rfl,rfl⟩
 simp only[Lt,FA]
 cases n with
 | zero=>left; simp(disch:=omega) only[iM,dF,cond_false,Sort.insInner]
 | succ j=>
  by_cases e:a < j+1
  ·simp(disch:=omega) only[iM,dT,cond_true,aH,au,p1,aI,aS,hC,aa,Nat.add_sub_cancel,Int.toNat_natCast]
   cases hl:lt C d[j+1]! d[j]!
   ·left
    rw[show Sort.insInner (lt C) a (j+1) d=d by rw[Sort.insInner]; simp[hl]]
    simp only[cond_false]
   ·right
    rw[show Sort.insInner (lt C) a (j+1) d=Sort.insInner (lt C) a j (Sort.swp d (j+1) j)by rw[Sort.insInner]; simp[hl,e]]
    simp(disch:=omega) only[cond_true,bC,aX,bD,au]
    exact⟨_,j,rfl,⟨j,Sort.swp d (j+1) j,by rw[aw]; omega,by rwa [aw],rfl,rfl,rfl⟩,by omega⟩
  ·left
   rw[show Sort.insInner (lt C) a (j+1) d=d by rw[Sort.insInner]; simp[e]]
   simp(disch:=omega) only[iM,dF,cond_false]
theorem ins {a b:Nat}{d:Array β}(hb:b≤d.size)(hz:d.size≤250)(ha:a≤250):rB ((a:Int),(b:Int),MA v d)=some (MA v (Sort.insertionSort (lt C) d a b)):=by
 have e:FD ((a:Int),(b:Int),((a+1:Nat):Int),MA v d)=some (MA v (Sort.insOuter (lt C) a b (a+1) d)):=by
  refine aK (fun s r n=>∃ (i:Nat) (d:Array β),b≤d.size∧d.size≤250∧s=((a:Int),(b:Int),(i:Int),MA v d)∧r=MA v (Sort.insOuter (lt C) a b i d)∧n=b-i) ⟨a+1,d,hb,hz,rfl,rfl,rfl⟩ (by omega) ?_
  rintro s r n ⟨i,d,q1,q2,rfl,rfl,rfl⟩
  simp only[Lv,FC]
  rw[Sort.insOuter]
  by_cases e:i < b
  ·right
   simp(disch:=omega) only[iM,dT,cond_true,Te hC,aa,aI,au,a1]
   exact⟨_,b-(i+1),rfl,⟨i+1,Sort.insInner (lt C) a i d,by rwa [eL],by rwa [eL],rfl,by rw[if_pos e],rfl⟩,by omega⟩
  ·left
   simp(disch:=omega) only[iM,dF,cond_false,if_neg e]
 simp(disch:=omega) only[rB,p85,q85,aI,au,a1,e,aa,Sort.insertionSort]
theorem Hj {lo hi first:Nat}{d:Array β}(hs:first+hi≤d.size)(hl:lo < hi∨hi=0)(hz:d.size≤250)(h0:lo≤250):kX ((lo:Int),(hi:Int),(first:Int),MA v d)=some (MA v (Sort.siftDown (lt C) hi first lo d)):=by
 have key:∃ y,xO ((hi:Int),(first:Int),(lo:Int),MA v d)=some y∧Sum.elim id id y=MA v (Sort.siftDown (lt C) hi first lo d):=by
  refine iH (fun s n=>∃ (root:Nat) (d':Array β),first+hi≤d'.size∧(root < hi∨hi=0)∧d'.size≤250∧root≤250∧s=((hi:Int),(first:Int),(root:Int),MA v d')∧Sort.siftDown (lt C) hi first root d'=Sort.siftDown (lt C) hi first lo d∧n=hi-root) _
   ⟨lo,d,hs,hl,hz,h0,rfl,rfl,rfl⟩ (by omega) ?_
  rintro s n ⟨root,d',g1,g0,g2,g3,rfl,g4,rfl⟩
  rw[← g4]
  clear g4
  simp only[FH,xN]
  rw[Sort.siftDown]
  by_cases e:hi≤2*root+1
  ·left
   simp(disch:=omega) only[m2,aI,au,aI,a1,ia,dT,cond_true,dif_pos (show 2*root+1≥hi from e)]
   exact⟨_,rfl,rfl⟩
  ·simp(disch:=omega) only[m2,aI,au,aI,a1,ia,iM,dF,cond_false,dif_neg (show ¬ 2*root+1≥hi from e),an]
   by_cases e2:2*root+1+1 < hi
   ·simp(disch:=omega) only[dT,cond_true,aI,au,aH,aS,hC,aa,Bool.true_and]
    cases hl1:lt C d'[first+(2*root+1)]! d'[first+(2*root+1)+1]!
    ·simp(disch:=omega) only[cond_false,aI,au,aH,aS,hC,aa,Bool.false_eq_true,if_false]
     cases hl2:lt C d'[first+root]! d'[first+(2*root+1)]!
     ·left; simp only[Bool.not_false,cond_true,if_true]; exact⟨_,rfl,rfl⟩
     ·right
      simp(disch:=omega) only[Bool.not_true,cond_false,Bool.false_eq_true,if_false,aH,au,Int.toNat_natCast,bC,aX,bD]
      exact⟨_,hi-(2*root+1),rfl,⟨2*root+1,Sort.swp d' (first+root) (first+(2*root+1)),by rw[aw]; omega,by omega,by rw[aw]; omega,by omega,rfl,rfl,rfl⟩,by omega⟩
    ·simp(disch:=omega) only[cond_true,aI,au,aH,aS,hC,aa,if_true]
     cases hl2:lt C d'[first+root]! d'[first+(2*root+1+1)]!
     ·left
      have hl2':lt C d'[first+root]! d'[first+(2*root+2)]! = false:=hl2
      simp only[Bool.not_false,cond_true,hl2',if_true]; exact⟨_,rfl,rfl⟩
     ·right
      have hl2':lt C d'[first+root]! d'[first+(2*root+2)]! = true:=hl2
      simp(disch:=omega) only[hl2',Bool.not_true,cond_false,Bool.false_eq_true,if_false,aH,au,Int.toNat_natCast,bC,aX,bD,dif_pos (show 2*root+2 < hi from e2)]
      exact⟨_,hi-(2*root+1+1),rfl,⟨2*root+1+1,Sort.swp d' (first+root) (first+(2*root+2)),by rw[aw]; omega,by omega,by rw[aw]; omega,by omega,rfl,rfl,rfl⟩,by omega⟩
   ·simp(disch:=omega) only[dF,cond_false,aI,au,aH,aS,hC,aa,Bool.false_and,Bool.false_eq_true,if_false]
    cases hl2:lt C d'[first+root]! d'[first+(2*root+1)]!
    ·left; simp only[Bool.not_false,cond_true,if_true]; exact⟨_,rfl,rfl⟩
    ·right
     simp(disch:=omega) only[Bool.not_true,cond_false,Bool.false_eq_true,if_false,aH,au,Int.toNat_natCast,bC,aX,bD]
     exact⟨_,hi-(2*root+1),rfl,⟨2*root+1,Sort.swp d' (first+root) (first+(2*root+1)),by rw[aw]; omega,by omega,by rw[aw]; omega,by omega,rfl,rfl,rfl⟩,by omega⟩
 obtain⟨y,e1,e2⟩:=key
 simp only[kX,VT,Rz,e1,aa]
 cases y with
 | inl x=>simp only[Sum.elim_inl]; rw[← e2]; rfl
 | inr x=>simp only[Sum.elim_inr]; rw[← e2]; rfl
theorem heap {a b:Nat}{d:Array β}(hab:a < b)(hb:b≤d.size)(hz:d.size≤250):rC ((a:Int),(b:Int),MA v d)=some (MA v (Sort.heapSort (lt C) d a b)):=by
 have c0:∀ k:Nat,(0:Int)=((0:Nat):Int):=fun _=>rfl
 have e1:∀ (k:Nat),k≤b-a→FJ ((a:Int),0,((b-a:Nat):Int),(k:Int)-1,MA v d)=some ((a:Int),0,((b-a:Nat):Int),MA v (Sort.heapBuild (lt C) (b-a) a k d)):=fun k hk=>by
  refine aK (fun s r n=>∃ (k:Nat) (d':Array β),k≤b-a∧d'.size=d.size∧s=((a:Int),0,((b-a:Nat):Int),(k:Int)-1,MA v d')∧r=((a:Int),0,((b-a:Nat):Int),MA v (Sort.heapBuild (lt C) (b-a) a k d'))∧n=k) ⟨k,d,hk,rfl,rfl,rfl,rfl⟩ (by omega) ?_
  rintro s r n ⟨k,d',q1,q2,rfl,rfl,rfl⟩
  simp only[LB,FI]
  cases n with
  | zero=>left; rfl
  | succ k=>
   right
   have g1:((k+1:Nat):Int)-1=(k:Int):=by omega
   have g2:decide ((0:Int)≤(k:Int))=true:=by simp
   simp(disch:=omega) only[g1,g2,cond_true,Hj hC,aa,nu,au]
   exact⟨_,k,rfl,⟨k,Sort.siftDown (lt C) (b-a) a k d',by omega,by rw[eM _ _ _ _ _ (Nat.le_refl _),q2],rfl,rfl,rfl⟩,by omega⟩
 have e2:∀ (d:Array β) (k:Nat),k≤b-a→b≤d.size→d.size≤250→FL ((a:Int),0,(k:Int)-1,MA v d)=some (MA v (Sort.heapPop (lt C) a k d)):=fun d k hk hb hz=>by
  refine aK (fun s r n=>∃ (k:Nat) (d':Array β),k≤b-a∧d'.size=d.size∧s=((a:Int),0,(k:Int)-1,MA v d')∧r=MA v (Sort.heapPop (lt C) a k d')∧n=k) ⟨k,d,hk,rfl,rfl,rfl,rfl⟩ (by omega) ?_
  rintro s r n ⟨k,d',q1,q2,rfl,rfl,rfl⟩
  simp only[LD,FK]
  cases n with
  | zero=>left; rfl
  | succ k=>
   right
   have g1:((k+1:Nat):Int)-1=(k:Int):=by omega
   have g2:decide ((0:Int)≤(k:Int))=true:=by simp
   have g3:kX (0,(k:Int),(a:Int),MA v (Sort.swp d' a (a+k)))=some (MA v (Sort.siftDown (lt C) k a 0 (Sort.swp d' a (a+k)))):=Hj hC (lo:=0) (by rw[aw]; omega) (by omega) (by rw[aw]; omega) (by omega)
   simp(disch:=omega) only[g1,g2,cond_true,an,aI,au,aH,aS,Int.toNat_natCast,bC,aX,bD,g3,aa,nu]
   exact⟨_,k,rfl,⟨k,Sort.siftDown (lt C) k a 0 (Sort.swp d' a (a+k)),by omega,by rw[eM _ _ _ _ _ (Nat.le_refl _),aw,q2],rfl,rfl,rfl⟩,by omega⟩
 have t1:((b-a-1:Nat):Int)=(b:Int)-(a:Int)-1:=by omega
 have t2:Int.tdiv ((b-a-1:Nat):Int) 2=((b-a-1) / 2:Nat):=Cl _
 have e1':=e1 ((b-a-1) / 2+1) (by omega)
 rw[show(((b-a-1) / 2+1:Nat):Int)-1=(((b-a-1) / 2:Nat):Int)by omega]at e1'
 have e2':=e2 (Sort.heapBuild (lt C) (b-a) a ((b-a-1) / 2+1) d) (b-a) (Nat.le_refl _) (by rw[dO]; exact hb) (by rw[dO]; exact hz)
 simp(disch:=omega) only[rC,p86,q86,pn,aI,au,p1,t2,e1',aa,nu]
 rw[show((b-a-1:Nat):Int)=((b-a:Nat):Int)-1 by omega]
 simp(disch:=omega) only[nu,au,e2',aa,Sort.heapSort]
omit hC
theorem Hk {n:Nat}(h:n < 256):P67 (n:Int)=some ((Sort.bitsLen n:Nat):Int):=by
 have f:ai .u8 (n:Int)=true:=by
  rw[ai,decide_eq_true_eq]
  have e2:(2:Int)^8=256:=by decide
  simp only[IntKind.wrap,IntKind.bits,IntKind.signed,Bool.false_and,e2,Bool.false_eq_true,if_false]
  omega
 have d1:decide ((4294967296:Int)≤(n:Int))=false:=by simp; omega
 have d2:decide ((65536:Int)≤(n:Int))=false:=by simp; omega
 have d3:decide ((256:Int)≤(n:Int))=false:=by simp; omega
 simp only[P67,p67,q67,P95,p95,q95,zn,DN,zm,d1,cond_false,aa,d2,d3,f,au]
 have key:∀ m:Fin 256,∀ t:ByteArray,t=tb→aC (m.val:Int) t.size=true∧yM t (m.val:Int)=((Sort.bitsLen m.val:Nat):Int):=by
  intro m t ht
  subst ht
  constructor
  ·exact aE (by have:=m.isLt; exact this)
  ·revert m; decide +kernel
 obtain⟨k1,k2⟩:=key ⟨n,h⟩ _ rfl
 simp only at k1 k2
 have hl:=(Sort.bitsLen_le_iff n 8).2 (by omega)
 have z:(0:Int)+((Sort.bitsLen n:Nat):Int)=((Sort.bitsLen n:Nat):Int):=by omega
 simp(disch:=omega) only[k1,au,k2,z,aI,aa]
theorem npt {n:Nat}(h:n < 256):gS (n:Int)=some (((1 <<< Sort.bitsLen n:Nat)):Int):=by
 have hl:=(Sort.bitsLen_le_iff n 8).2 (by omega)
 have f:ai .u64 (n:Int)=true:=nt (by omega) (by omega)
 have d:decide ((0:Int)≤((Sort.bitsLen n:Nat):Int))=true:=by simp
 have e:gq .u64 1 ((Sort.bitsLen n:Nat):Int)=((1 <<< Sort.bitsLen n:Nat):Int):=by
  have hm:min ((Sort.bitsLen n:Nat):Int).toNat (IntKind.bits .u64)=Sort.bitsLen n:=by show min (Sort.bitsLen n) 64=_; omega
  have h2:2^Sort.bitsLen n≤2^8:=Nat.pow_le_pow_right (by omega) hl
  unfold gq
  rw[hm,show((1:Int)*2^Sort.bitsLen n)=((2^Sort.bitsLen n:Nat):Int)by simp,zf (by omega),Nat.one_shiftLeft]
 simp only[gS,Qk,IS,f,au,Hk h,aa,d,e]
theorem Tf (r:UInt64):gT (r.toNat:Int)=some (((Sort.xorNext r).toNat:Int),((Sort.xorNext r).toNat:Int)):=by
 have s13:∀ a:UInt64,gq .u64 (a.toNat:Int) 13=((a <<< 13).toNat:Int):=fun a=>Iv a 13 (by omega)
 have s7:∀ a:UInt64,bI .u64 (a.toNat:Int) 7=((a >>> 7).toNat:Int):=fun a=>UE a 7 (by omega)
 have s17:∀ a:UInt64,gq .u64 (a.toNat:Int) 17=((a <<< 17).toNat:Int):=fun a=>Iv a 17 (by omega)
 simp only[gT,Qn,IT,s13,s7,s17,KB,Sort.xorNext]
theorem brk {a b:Nat}{d:Array β}(hab:a≤b)(hb:b≤d.size)(hz:d.size≤250):qt ((a:Int),(b:Int),MA v d)=some (MA v (Sort.breakPatterns d a b)):=by
 unfold Sort.breakPatterns
 simp only[]
 by_cases h8:8≤b-a
 ·have g8:decide ((8:Int)≤((b-a:Nat):Int))=true:=by simp; omega
  have hm1:1 <<< Sort.bitsLen (b-a)≤2*(b-a):=by rw[Nat.one_shiftLeft]; exact Sort.two_pow_bitsLen_le (by omega)
  have hm0:0 < 1 <<< Sort.bitsLen (b-a):=by rw[Nat.one_shiftLeft]; exact Nat.two_pow_pos _
  generalize hm:1 <<< Sort.bitsLen (b-a)=m at *
  generalize hn:b-a=n at *
  let st:Nat→UInt64×Array β:=fun k=>Nat.rec (UInt64.ofNat n,d) (fun i s=>Sort.breakStep a n m s (a+n / 4*2-1+i)) k
  have hst:∀ k,(st k).2.size=d.size:=fun k=>by
   induction k with
   | zero=>rfl
   | succ k ih=>show(Sort.swp _ _ _).size=_; rw[aw]; exact ih
  have hrun:FN ((a:Int),(n:Int),(m:Int),((a+n / 4*2-1:Nat):Int),MA v d,(n:Int))=some (MA v (st 3).2,((st 3).1.toNat:Int)):=by
   have h0:((UInt64.ofNat n).toNat:Int)=(n:Int):=by rw[UInt64.toNat_ofNat']; omega
   refine aW 3 (fun k=>((a:Int),(n:Int),(m:Int),((a+n / 4*2-1+k:Nat):Int),MA v (st k).2,((st k).1.toNat:Int))) _ (fun k hk=>?_) ?_ (by omega) |> fun h=>by
    have e:((a:Int),(n:Int),(m:Int),((a+n / 4*2-1+0:Nat):Int),MA v (st 0).2,((st 0).1.toNat:Int))=((a:Int),(n:Int),(m:Int),((a+n / 4*2-1:Nat):Int),MA v d,(n:Int)):=by
     show(_,_,_,_,_,((UInt64.ofNat n).toNat:Int))=_
     rw[h0]; rfl
    rw[← e]; exact h
   ·have q4:Int.tdiv (n:Int) 4=((n / 4:Nat):Int):=Cl n
    have q5:((n / 4:Nat):Int)*2=((n / 4*2:Nat):Int):=by omega
    have hsz:=hst k
    generalize hr:st k=s at *
    have hnx:st (k+1)=Sort.breakStep a n m (st k) (a+n / 4*2-1+k):=rfl
    rw[hr]at hnx
    have hlt:=(Sort.xorNext s.1).toNat_lt
    have hbd:(Sort.xorNext s.1).toNat &&& (m-1)≤m-1:=Nat.and_le_right
    have fu:ai .u64 ((m-1:Nat):Int)=true:=nt (by omega) (by omega)
    simp(disch:=omega) only[FM,zT,q4,aI,au,q5,an,a1,ia,dT,cond_true,Tf,aa,fu,p1,KA]
    rw[hnx]
    unfold Sort.breakStep
    simp only[]
    generalize (Sort.xorNext s.1).toNat &&& (m-1)=o at *
    by_cases ho:n≤o
    ·simp(disch:=omega) only[dT,cond_true,pn,aI,au,an,aH,aS,Int.toNat_natCast,bC,aX,bD,if_pos (show o≥n from ho),a1]
     rw[show a+n / 4*2-1+k+1=a+n / 4*2-1+(k+1)by omega]
    ·simp(disch:=omega) only[dF,cond_false,pn,aI,au,an,aH,aS,Int.toNat_natCast,bC,aX,bD,if_neg (show ¬ o≥n from ho),a1]
     rw[show a+n / 4*2-1+k+1=a+n / 4*2-1+(k+1)by omega]
   ·have q4:Int.tdiv (n:Int) 4=((n / 4:Nat):Int):=Cl n
    have q5:((n / 4:Nat):Int)*2=((n / 4*2:Nat):Int):=by omega
    simp(disch:=omega) only[FM,zT,q4,aI,au,q5,an,a1,ia,dF,cond_false]
  have q4:Int.tdiv (n:Int) 4=((n / 4:Nat):Int):=Cl n
  have q5:((n / 4:Nat):Int)*2=((n / 4*2:Nat):Int):=by omega
  have fu:ai .u64 (n:Int)=true:=nt (by omega) (by omega)
  have hn':(b:Int)-(a:Int)=(n:Int):=by omega
  have hnp:=npt (n:=n) (by omega)
  rw[hm]at hnp
  have hst3:st 3=Sort.breakStep a n m (Sort.breakStep a n m (Sort.breakStep a n m (UInt64.ofNat n,d) (a+n / 4*2-1)) (a+n / 4*2-1+1)) (a+n / 4*2-1+2):=rfl
  rw[hst3]at hrun
  rw[if_pos (show n≥8 from h8)]
  simp(disch:=omega) only[qt,p87,q87,hn',aI,au,g8,cond_true,fu,hnp,aa,q4,q5,an,p1,hrun]
 ·have g8:decide ((8:Int)≤((b-a:Nat):Int))=false:=by simp; omega
  simp(disch:=omega) only[qt,p87,q87,pn,aI,au,g8,cond_false,if_neg (show ¬ b-a≥8 from h8)]
theorem rev {a b:Nat}{d:Array β}(hab:a≤b)(hb1:1≤b)(hb:b≤d.size)(hz:d.size≤250):rE ((a:Int),(b:Int),MA v d)=some (MA v (Sort.reverseRange d a b)):=by
 have e:FP ((a:Int),((b-1:Nat):Int),MA v d)=some (MA v (Sort.reverseLoop a (b-1) d)):=by
  refine aK (fun s r n=>∃ (i j:Nat) (d:Array β),j < d.size∧d.size≤250∧i≤250∧s=((i:Int),(j:Int),MA v d)∧r=MA v (Sort.reverseLoop i j d)∧n=j-i) ⟨a,b-1,d,by omega,hz,by omega,rfl,rfl,rfl⟩ (by omega) ?_
  rintro s r n ⟨i,j,d,q1,q2,q3,rfl,rfl,rfl⟩
  simp only[LJ,FO]
  by_cases e:i < j
  ·right
   rw[show Sort.reverseLoop i j d=Sort.reverseLoop (i+1) (j-1) (Sort.swp d i j)by rw[Sort.reverseLoop,if_pos e]]
   simp(disch:=omega) only[iM,dT,cond_true,aH,aS,au,Int.toNat_natCast,bC,aX,bD,a1,aI,p1]
   exact⟨_,j-1-(i+1),rfl,⟨i+1,j-1,Sort.swp d i j,by rw[aw]; omega,by rwa [aw],by omega,rfl,rfl,rfl⟩,by omega⟩
  ·left
   rw[show Sort.reverseLoop i j d=d by rw[Sort.reverseLoop,if_neg e]]
   simp(disch:=omega) only[iM,dF,cond_false]
 simp(disch:=omega) only[rE,p89,q89,p1,aI,au,e,aa,Sort.reverseRange]
include hC
theorem ord {a b s:Nat}{d:Array β}(ha:a < d.size)(hb:b < d.size)(hs:s≤250):qu ((a:Int),(b:Int),MA v d,(s:Int))=some (((Sort.order2 (lt C) d a b s).1:Int),((Sort.order2 (lt C) d a b s).2.1:Int),MA v d,((Sort.order2 (lt C) d a b s).2.2:Int)):=by
 unfold Sort.order2
 simp(disch:=omega) only[qu,V2,RE,aH,au,aS,hC,aa,a1,aI]
 cases lt C d[b]! d[a]! <;> rfl
theorem Tg {a b c s:Nat}{d:Array β}(ha:a < d.size)(hb:b < d.size)(hc:c < d.size)(hs:s≤200):mU ((a:Int),(b:Int),(c:Int),MA v d,(s:Int))=some (((Sort.median (lt C) d a b c s).1:Int),MA v d,((Sort.median (lt C) d a b c s).2:Int)):=by
 unfold Sort.median
 simp only[]
 have o1:=Sort.order2_mem (lt C) d a b s
 have n1:=Sort.order2_count (lt C) d a b s
 generalize g1:Sort.order2 (lt C) d a b s=r1 at *
 have o2:=Sort.order2_mem (lt C) d r1.2.1 c r1.2.2
 have n2:=Sort.order2_count (lt C) d r1.2.1 c r1.2.2
 generalize g2:Sort.order2 (lt C) d r1.2.1 c r1.2.2=r2 at *
 have e1:qu ((a:Int),(b:Int),MA v d,(s:Int))=some ((r1.1:Int),(r1.2.1:Int),MA v d,(r1.2.2:Int)):=by rw[ord hC ha hb (by omega),g1]
 have e2:qu ((r1.2.1:Int),(c:Int),MA v d,(r1.2.2:Int))=some ((r2.1:Int),(r2.2.1:Int),MA v d,(r2.2.2:Int)):=by rw[ord hC (by omega) hc (by omega),g2]
 have e3:=ord hC (d:=d) (a:=r1.1) (b:=r2.1) (s:=r2.2.2) (by omega) (by omega) (by omega)
 simp only[mU,V4,RH,e1,e2,e3,aa]
theorem Th {a s:Nat}{d:Array β}(ha:1≤a)(hb:a+1 < d.size)(hz:d.size≤250)(hs:s≤200):tt ((a:Int),MA v d,(s:Int))=some (((Sort.medianAdjacent (lt C) d a s).1:Int),MA v d,((Sort.medianAdjacent (lt C) d a s).2:Int)):=by
 have e:=Tg hC (d:=d) (a:=a-1) (b:=a) (c:=a+1) (s:=s) (by omega) (by omega) hb hs
 unfold Sort.medianAdjacent
 simp(disch:=omega) only[tt,V7,RL,p1,aI,au,a1,e,aa]
omit hC
def hN:Sort.Hint→Int
 | .unknown=>0
 | .increasing=>1
 | .decreasing=>2
include hC
theorem chp {a b:Nat}{d:Array β}(hab:a < b)(hb:b≤d.size)(hz:d.size≤250):rD ((a:Int),(b:Int),MA v d)=some (((Sort.choosePivot (lt C) d a b).1:Int),hN (Sort.choosePivot (lt C) d a b).2,MA v d):=by
 unfold Sort.choosePivot
 simp only[]
 generalize hn:b-a=n at *
 have q4:Int.tdiv (n:Int) 4=((n / 4:Nat):Int):=Cl n
 have q1:((n / 4:Nat):Int)*1=((n / 4*1:Nat):Int):=by omega
 have q2:((n / 4:Nat):Int)*2=((n / 4*2:Nat):Int):=by omega
 have q3:((n / 4:Nat):Int)*3=((n / 4*3:Nat):Int):=by omega
 have hn':(b:Int)-(a:Int)=(n:Int):=by omega
 have hfin:∀ (p s:Nat),(cond (decide ((s:Int)=0)) (some ((p:Int),(1:Int),MA v d)) (cond (decide ((s:Int)=12)) (some ((p:Int),(2:Int),MA v d)) (some ((p:Int),(0:Int),MA v d)))) =
   some ((p:Int),hN (if s=0 then Sort.Hint.increasing else if s=12 then Sort.Hint.decreasing else Sort.Hint.unknown),MA v d):=fun p s=>by
  by_cases h0:s=0
  ·subst h0; rfl
  ·have d0:decide ((s:Int)=0)=false:=by simp; omega
   rw[d0,if_neg h0]
   by_cases h12:s=12
   ·subst h12; rfl
   ·have d1:decide ((s:Int)=12)=false:=by simp; omega
    rw[d1,if_neg h12]; rfl
 simp(disch:=omega) only[rD,p88,q88,hn',aI,au,q4,q1,q2,q3,an]
 by_cases h8:8≤n
 ·have d8:decide ((8:Int)≤(n:Int))=true:=by simp; omega
  rw[d8,cond_true,if_pos (show n≥8 from h8)]
  by_cases h50:50≤n
  ·have d50:decide ((50:Int)≤(n:Int))=true:=by simp; omega
   rw[d50,cond_true,if_pos (show n≥50 from h50)]
   have m1:=Sort.medianAdjacent_mem (lt C) d (a+n / 4*1) 0
   have c1:=Sort.medianAdjacent_count (lt C) d (a+n / 4*1) 0
   have e1:=Th hC (d:=d) (a:=a+n / 4*1) (s:=0) (by omega) (by omega) hz (by omega)
   generalize Sort.medianAdjacent (lt C) d (a+n / 4*1) 0=r1 at *
   have m2:=Sort.medianAdjacent_mem (lt C) d (a+n / 4*2) r1.2
   have c2:=Sort.medianAdjacent_count (lt C) d (a+n / 4*2) r1.2
   have e2:=Th hC (d:=d) (a:=a+n / 4*2) (s:=r1.2) (by omega) (by omega) hz (by omega)
   generalize Sort.medianAdjacent (lt C) d (a+n / 4*2) r1.2=r2 at *
   have m3:=Sort.medianAdjacent_mem (lt C) d (a+n / 4*3) r2.2
   have c3:=Sort.medianAdjacent_count (lt C) d (a+n / 4*3) r2.2
   have e3:=Th hC (d:=d) (a:=a+n / 4*3) (s:=r2.2) (by omega) (by omega) hz (by omega)
   generalize Sort.medianAdjacent (lt C) d (a+n / 4*3) r2.2=r3 at *
   have e4:=Tg hC (d:=d) (a:=r1.1) (b:=r2.1) (c:=r3.1) (s:=r3.2) (by omega) (by omega) (by omega) (by omega)
   have e1':tt (((a+n / 4*1:Nat):Int),MA v d,0)=some ((r1.1:Int),MA v d,(r1.2:Int)):=e1
   simp only[e1',e2,e3,e4,aa,hfin]
  ·have d50:decide ((50:Int)≤(n:Int))=false:=by simp; omega
   rw[d50,cond_false,if_neg (show ¬ n≥50 from h50)]
   have e4:mU (((a+n / 4*1:Nat):Int),((a+n / 4*2:Nat):Int),((a+n / 4*3:Nat):Int),MA v d,0)=some (((Sort.median (lt C) d (a+n / 4*1) (a+n / 4*2) (a+n / 4*3) 0).1:Int),MA v d,((Sort.median (lt C) d (a+n / 4*1) (a+n / 4*2) (a+n / 4*3) 0).2:Int)):=Tg hC (s:=0) (by omega) (by omega) (by omega) (by omega)
   simp only[e4,aa,hfin]
 ·have d8:decide ((8:Int)≤(n:Int))=false:=by simp; omega
  rw[d8,cond_false,if_neg (show ¬ n≥8 from h8)]
  rfl
omit hC
theorem p9 (d:Array β)(b:Nat):∀ (n i:Nat),b-i≤n→i≤b→i≤Sort.scanSorted (lt C) d b i∧Sort.scanSorted (lt C) d b i≤b:=by
 intro n
 induction n with
 | zero=>intro i h1 h2; rw[Sort.scanSorted,if_neg (by simp; omega)]; omega
 | succ n ih=>
  intro i h1 h2
  rw[Sort.scanSorted]
  split
  ·rename_i h
   simp only[Bool.and_eq_true,decide_eq_true_eq]at h
   have:=ih (i+1) (by omega) (by omega)
   omega
  ·omega
theorem jy:∀ (j:Nat) (d:Array β),(Sort.shiftDown (lt C) j d).size=d.size
 | 0,d=>by rw[Sort.shiftDown]
 | j+1,d=>by
  rw[Sort.shiftDown]
  split
  ·rfl
  ·rw[jy j,aw]
theorem jz (b:Nat):∀ (n j:Nat) (d:Array β),b-j≤n→(Sort.shiftUp (lt C) b j d).size=d.size:=by
 intro n
 induction n with
 | zero=>intro j d h; rw[Sort.shiftUp,if_neg (by omega)]
 | succ n ih=>
  intro j d h
  rw[Sort.shiftUp]
  split
  ·split
   ·rfl
   ·rw[ih _ _ (by omega),aw]
  ·rfl
include hC
theorem ps1 {a b i j:Nat}{d:Array β}(h1:1≤i)(hb:b≤d.size)(hz:d.size≤250)(hi:i≤250):FR ((a:Int),(b:Int),(i:Int),(j:Int),MA v d)=some ((a:Int),(b:Int),((Sort.scanSorted (lt C) d b i:Nat):Int),(j:Int),MA v d):=by
 refine aK (fun s r n=>∃ i:Nat,1≤i∧i≤251∧s=((a:Int),(b:Int),(i:Int),(j:Int),MA v d)∧r=((a:Int),(b:Int),((Sort.scanSorted (lt C) d b i:Nat):Int),(j:Int),MA v d)∧n=b-i) ⟨i,h1,by omega,rfl,rfl,rfl⟩ (by omega) ?_
 rintro s r n ⟨i,q1,q2,rfl,rfl,rfl⟩
 simp only[LT,FQ]
 by_cases e:i < b
 ·simp(disch:=omega) only[iM,dT,cond_true,aH,au,p1,aI,aS,hC,aa]
  cases hl:lt C d[i]! d[i-1]!
  ·right
   rw[show Sort.scanSorted (lt C) d b i=Sort.scanSorted (lt C) d b (i+1)by rw[Sort.scanSorted,if_pos (by simp[e,hl])]]
   simp(disch:=omega) only[Bool.not_false,cond_true,a1,aI,au]
   exact⟨_,b-(i+1),rfl,⟨i+1,by omega,by omega,rfl,rfl,rfl⟩,by omega⟩
  ·left
   rw[show Sort.scanSorted (lt C) d b i=i by rw[Sort.scanSorted,if_neg (by simp[hl])]]
   simp only[Bool.not_true,cond_false]
 ·left
  rw[show Sort.scanSorted (lt C) d b i=i by rw[Sort.scanSorted,if_neg (by simp[e])]]
  simp(disch:=omega) only[iM,dF,cond_false]
theorem ps3 {a b i j k:Nat}{d:Array β}(hk:k < d.size)(hz:d.size≤250):FT ((a:Int),(b:Int),(i:Int),(j:Int),(k:Int),MA v d)=some ((a:Int),(b:Int),(i:Int),(j:Int),MA v (Sort.shiftDown (lt C) k d)):=by
 refine aK (fun s r n=>∃ (k:Nat) (d:Array β),k < d.size∧d.size≤250∧s=((a:Int),(b:Int),(i:Int),(j:Int),(k:Int),MA v d)∧r=((a:Int),(b:Int),(i:Int),(j:Int),MA v (Sort.shiftDown (lt C) k d))∧n=k) ⟨k,d,hk,hz,rfl,rfl,rfl⟩ (by omega) ?_
 rintro s r n ⟨k,d,q1,q2,rfl,rfl,rfl⟩
 simp only[LV,FS]
 cases n with
 | zero=>left; rw[Sort.shiftDown]; rfl
 | succ k=>
  have g1:decide ((1:Int)≤((k+1:Nat):Int))=true:=by simp; omega
  simp(disch:=omega) only[g1,cond_true,aH,au,p1,aI,aS,hC,aa,Nat.add_sub_cancel]
  cases hl:lt C d[k+1]! d[k]!
  ·left
   rw[show Sort.shiftDown (lt C) (k+1) d=d by rw[Sort.shiftDown,if_pos (by simp[hl])]]
   simp only[Bool.not_false,cond_true]
  ·right
   rw[show Sort.shiftDown (lt C) (k+1) d=Sort.shiftDown (lt C) k (Sort.swp d (k+1) k)by rw[Sort.shiftDown,if_neg (by simp[hl])]]
   simp(disch:=omega) only[Bool.not_true,cond_false,aH,au,aS,Int.toNat_natCast,bC,aX,bD]
   exact⟨_,k,rfl,⟨k,Sort.swp d (k+1) k,by rw[aw]; omega,by rwa [aw],rfl,rfl,rfl⟩,by omega⟩
theorem ps2 {a b i j:Nat}{d:Array β}(ha:a≤i)(h1:1≤i)(hi:i≤d.size)(hz:d.size≤250):zW ((a:Int),(b:Int),(i:Int),(j:Int),MA v d)=some ((a:Int),(b:Int),(i:Int),(j:Int),MA v (if i-a≥2 then Sort.shiftDown (lt C) (i-1) d else d)):=by
 simp only[zW,LW,FU]
 by_cases e:2≤i-a
 ·have g1:decide ((2:Int)≤((i-a:Nat):Int))=true:=by simp; omega
  simp(disch:=omega) only[pn,aI,au,g1,cond_true,p1,ps3 hC,aa,if_pos (show i-a≥2 from e)]
 ·have g1:decide ((2:Int)≤((i-a:Nat):Int))=false:=by simp; omega
  simp(disch:=omega) only[pn,aI,au,g1,cond_false,if_neg (show ¬ i-a≥2 from e)]
theorem ps4 {a b i j k:Nat}{d:Array β}(h1:1≤k)(hk:k≤250)(hb:b≤d.size)(hz:d.size≤250):FY ((a:Int),(b:Int),(i:Int),(j:Int),(k:Int),MA v d)=some ((a:Int),(b:Int),(i:Int),(j:Int),MA v (Sort.shiftUp (lt C) b k d)):=by
 refine aK (fun s r n=>∃ (k:Nat) (d:Array β),1≤k∧k≤251∧b≤d.size∧d.size≤250∧s=((a:Int),(b:Int),(i:Int),(j:Int),(k:Int),MA v d)∧r=((a:Int),(b:Int),(i:Int),(j:Int),MA v (Sort.shiftUp (lt C) b k d))∧n=b-k) ⟨k,d,h1,by omega,hb,hz,rfl,rfl,rfl⟩ (by omega) ?_
 rintro s r n ⟨k,d,q1,q0,q2,q3,rfl,rfl,rfl⟩
 simp only[LY,FX]
 by_cases e:k < b
 ·simp(disch:=omega) only[iM,dT,cond_true,aH,au,p1,aI,aS,hC,aa]
  cases hl:lt C d[k]! d[k-1]!
  ·left
   rw[show Sort.shiftUp (lt C) b k d=d by rw[Sort.shiftUp,if_pos e,if_pos (by simp[hl])]]
   simp only[Bool.not_false,cond_true]
  ·right
   rw[show Sort.shiftUp (lt C) b k d=Sort.shiftUp (lt C) b (k+1) (Sort.swp d k (k-1))by rw[Sort.shiftUp,if_pos e,if_neg (by simp[hl])]]
   simp(disch:=omega) only[Bool.not_true,cond_false,aH,au,aS,Int.toNat_natCast,bC,aX,bD,a1,aI]
   exact⟨_,b-(k+1),rfl,⟨k+1,Sort.swp d k (k-1),by omega,by omega,by rwa [aw],by rwa [aw],rfl,rfl,rfl⟩,by omega⟩
 ·left
  rw[show Sort.shiftUp (lt C) b k d=d by rw[Sort.shiftUp,if_neg e]]
  simp(disch:=omega) only[iM,dF,cond_false]
theorem pis {a b:Nat}{d:Array β}(hab:a < b)(hb:b≤d.size)(hz:d.size≤250):rG ((a:Int),(b:Int),MA v d)=some ((Sort.partialInsertionSort (lt C) d a b).2,MA v (Sort.partialInsertionSort (lt C) d a b).1):=by
 have key:∃ y,F0 ((a:Int),(b:Int),((a+1:Nat):Int),0,MA v d)=some y∧Sum.elim (fun y=>(y.2,y.1)) (fun y=>(y,false)) y=(MA v (Sort.partialInsertionSort (lt C) d a b).1,(Sort.partialInsertionSort (lt C) d a b).2):=by
  refine iH (fun s n=>∃ (t i:Nat) (d':Array β),t≤5∧a < i∧i≤b∧b≤d'.size∧d'.size≤250∧s=((a:Int),(b:Int),(i:Int),((5-t:Nat):Int),MA v d')∧Sort.partialIns (lt C) a b t i d'=Sort.partialInsertionSort (lt C) d a b∧n=t) _
   ⟨5,a+1,d,by omega,by omega,by omega,hb,hz,rfl,rfl,rfl⟩ (by omega) ?_
  rintro s n ⟨t,i,d',q1,q2,q3,q4,q5,rfl,q6,rfl⟩
  rw[← q6]
  clear q6
  simp only[Ma,FZ]
  cases n with
  | zero=>left; exact⟨_,rfl,rfl⟩
  | succ t=>
   have g0:decide (((5-(t+1):Nat):Int) < 5)=true:=by simp; omega
   have hs:=p9 (C:=C) d' b _ i (Nat.le_refl _) q3
   rw[Sort.partialIns]
   simp(disch:=omega) only[g0,cond_true,ps1 hC,aa]
   generalize Sort.scanSorted (lt C) d' b i=i2 at *
   by_cases e:i2=b
   ·left
    have g1:decide ((i2:Int)=(b:Int))=true:=by simp; omega
    simp only[g1,cond_true,if_pos e]
    exact⟨_,rfl,rfl⟩
   ·have g1:decide ((i2:Int)=(b:Int))=false:=by simp; omega
    simp(disch:=omega) only[g1,cond_false,if_neg e,pn,aI,au]
    by_cases e5:b-a < 50
    ·left
     have g2:decide (((b-a:Nat):Int) < 50)=true:=by simp; omega
     simp only[g2,cond_true,if_pos e5]
     exact⟨_,rfl,rfl⟩
    ·right
     have g2:decide (((b-a:Nat):Int) < 50)=false:=by simp; omega
     have z1:(Sort.swp d' i2 (i2-1)).size=d'.size:=aw _ _ _
     simp(disch:=omega) only[g2,cond_false,if_neg e5,p1,aI,au,aH,aS,Int.toNat_natCast,bC,aX,bD,ps2 hC,aa,pn]
     generalize hd2:(if i2-a≥2 then Sort.shiftDown (lt C) (i2-1) (Sort.swp d' i2 (i2-1))else Sort.swp d' i2 (i2-1))=d2
     have z2:d2.size=d'.size:=by
      rw[← hd2]; split
      ·rw[jy,z1]
      ·exact z1
     by_cases e2:2≤b-i2
     ·have g3:decide ((2:Int)≤((b-i2:Nat):Int))=true:=by simp; omega
      simp(disch:=omega) only[g3,cond_true,a1,aI,au,ps4 hC,aa,if_pos (show b-i2≥2 from e2)]
      exact⟨_,t,rfl,⟨t,i2,Sort.shiftUp (lt C) b (i2+1) d2,by omega,by omega,by omega,by rw[jz _ _ _ _ (Nat.le_refl _)]; omega,by rw[jz _ _ _ _ (Nat.le_refl _)]; omega,by rw[show 5-(t+1)+1=5-t by omega],rfl,rfl⟩,by omega⟩
     ·have g3:decide ((2:Int)≤((b-i2:Nat):Int))=false:=by simp; omega
      simp(disch:=omega) only[g3,cond_false,a1,aI,au,if_neg (show ¬ b-i2≥2 from e2)]
      exact⟨_,t,rfl,⟨t,i2,d2,by omega,by omega,by omega,by omega,by omega,by rw[show 5-(t+1)+1=5-t by omega],rfl,rfl⟩,by omega⟩
 obtain⟨y,e1,e2⟩:=key
 simp(disch:=omega) only[rG,p90,q90,a1,aI,au,e1,aa]
 cases y with
 | inl x=>
  simp only[Sum.elim_inl,Prod.mk.injEq]at e2 ⊢
  rw[e2.1,e2.2]
 | inr x=>
  simp only[Sum.elim_inr,Prod.mk.injEq]at e2 ⊢
  rw[e2.1,e2.2]
theorem pe1 {a i j:Nat}{d:Array β}(ha:a < d.size)(hj:j < d.size)(hz:d.size≤250):F2 ((a:Int),(i:Int),(j:Int),MA v d)=some ((a:Int),((Sort.scanUp (fun x=>!lt C d[a]! x) d j i:Nat):Int),(j:Int),MA v d):=by
 refine aK (fun s r n=>∃ i:Nat,s=((a:Int),(i:Int),(j:Int),MA v d)∧r=((a:Int),((Sort.scanUp (fun x=>!lt C d[a]! x) d j i:Nat):Int),(j:Int),MA v d)∧n=j+1-i) ⟨i,rfl,rfl,rfl⟩ (by omega) ?_
 rintro s r n ⟨i,rfl,rfl,rfl⟩
 simp only[Mf,F1]
 by_cases e:i≤j
 ·simp(disch:=omega) only[ia,dT,cond_true,aH,au,aI,aS,hC,aa]
  cases hl:lt C d[a]! d[i]!
  ·right
   rw[show Sort.scanUp (fun x=>!lt C d[a]! x) d j i=Sort.scanUp (fun x=>!lt C d[a]! x) d j (i+1)by rw[Sort.scanUp,if_pos (by simp[e,hl])]]
   simp(disch:=omega) only[Bool.not_false,cond_true,a1,aI,au]
   exact⟨_,j+1-(i+1),rfl,⟨i+1,rfl,rfl,rfl⟩,by omega⟩
  ·left
   rw[show Sort.scanUp (fun x=>!lt C d[a]! x) d j i=i by rw[Sort.scanUp,if_neg (by simp[hl])]]
   simp only[Bool.not_true,cond_false]
 ·left
  rw[show Sort.scanUp (fun x=>!lt C d[a]! x) d j i=i by rw[Sort.scanUp,if_neg (by simp[e])]]
  simp(disch:=omega) only[ia,dF,cond_false]
theorem pe2 {a i j:Nat}{d:Array β}(ha:a < d.size)(hi:1≤i)(hj:j < d.size)(hz:d.size≤250):F4 ((a:Int),(i:Int),(j:Int),MA v d)=some ((a:Int),(i:Int),((Sort.scanDown (fun x=>lt C d[a]! x) d i j:Nat):Int),MA v d):=by
 refine aK (fun s r n=>∃ j:Nat,j < d.size∧s=((a:Int),(i:Int),(j:Int),MA v d)∧r=((a:Int),(i:Int),((Sort.scanDown (fun x=>lt C d[a]! x) d i j:Nat):Int),MA v d)∧n=j) ⟨j,hj,rfl,rfl,rfl⟩ (by omega) ?_
 rintro s r n ⟨j,q1,rfl,rfl,rfl⟩
 simp only[Mh,F3]
 cases n with
 | zero=>
  left
  rw[show Sort.scanDown (fun x=>lt C d[a]! x) d i 0=0 by rw[Sort.scanDown]]
  simp(disch:=omega) only[ia,dF,cond_false]
 | succ j=>
  by_cases e:i≤j+1
  ·simp(disch:=omega) only[ia,dT,cond_true,aH,au,aI,aS,hC,aa]
   cases hl:lt C d[a]! d[j+1]!
   ·left
    rw[show Sort.scanDown (fun x=>lt C d[a]! x) d i (j+1)=j+1 by rw[Sort.scanDown,if_neg (by simp[hl])]]
    simp only[cond_false]
   ·right
    rw[show Sort.scanDown (fun x=>lt C d[a]! x) d i (j+1)=Sort.scanDown (fun x=>lt C d[a]! x) d i j by rw[Sort.scanDown,if_pos (by simp[e,hl])]]
    simp(disch:=omega) only[cond_true,p1,Nat.add_sub_cancel,aI,au]
    exact⟨_,j,rfl,⟨j,by omega,rfl,rfl,rfl⟩,by omega⟩
  ·left
   rw[show Sort.scanDown (fun x=>lt C d[a]! x) d i (j+1)=j+1 by rw[Sort.scanDown,if_neg (by simp[e])]]
   simp(disch:=omega) only[ia,dF,cond_false]
theorem pr0 {a i j:Nat}{d:Array β}(ha:a < d.size)(hj:j < d.size)(hz:d.size≤250):F8 ((a:Int),(i:Int),(j:Int),MA v d)=some ((a:Int),((Sort.scanUp (fun x=>lt C x d[a]!) d j i:Nat):Int),(j:Int),MA v d):=by
 refine aK (fun s r n=>∃ i:Nat,s=((a:Int),(i:Int),(j:Int),MA v d)∧r=((a:Int),((Sort.scanUp (fun x=>lt C x d[a]!) d j i:Nat):Int),(j:Int),MA v d)∧n=j+1-i) ⟨i,rfl,rfl,rfl⟩ (by omega) ?_
 rintro s r n ⟨i,rfl,rfl,rfl⟩
 simp only[Ms,F7]
 by_cases e:i≤j
 ·simp(disch:=omega) only[ia,dT,cond_true,aH,au,aI,aS,hC,aa]
  cases hl:lt C d[i]! d[a]!
  ·left
   rw[show Sort.scanUp (fun x=>lt C x d[a]!) d j i=i by rw[Sort.scanUp,if_neg (by simp[hl])]]
   simp only[cond_false]
  ·right
   rw[show Sort.scanUp (fun x=>lt C x d[a]!) d j i=Sort.scanUp (fun x=>lt C x d[a]!) d j (i+1)by rw[Sort.scanUp,if_pos (by simp[e,hl])]]
   simp(disch:=omega) only[cond_true,a1,aI,au]
   exact⟨_,j+1-(i+1),rfl,⟨i+1,rfl,rfl,rfl⟩,by omega⟩
 ·left
  rw[show Sort.scanUp (fun x=>lt C x d[a]!) d j i=i by rw[Sort.scanUp,if_neg (by simp[e])]]
  simp(disch:=omega) only[ia,dF,cond_false]
theorem pr1 {a i j:Nat}{d:Array β}(ha:a < d.size)(hi:1≤i)(hj:j < d.size)(hz:d.size≤250):Ga ((a:Int),(i:Int),(j:Int),MA v d)=some ((a:Int),(i:Int),((Sort.scanDown (fun x=>!lt C x d[a]!) d i j:Nat):Int),MA v d):=by
 refine aK (fun s r n=>∃ j:Nat,j < d.size∧s=((a:Int),(i:Int),(j:Int),MA v d)∧r=((a:Int),(i:Int),((Sort.scanDown (fun x=>!lt C x d[a]!) d i j:Nat):Int),MA v d)∧n=j) ⟨j,hj,rfl,rfl,rfl⟩ (by omega) ?_
 rintro s r n ⟨j,q1,rfl,rfl,rfl⟩
 simp only[Mw,F9]
 cases n with
 | zero=>
  left
  rw[show Sort.scanDown (fun x=>!lt C x d[a]!) d i 0=0 by rw[Sort.scanDown]]
  simp(disch:=omega) only[ia,dF,cond_false]
 | succ j=>
  by_cases e:i≤j+1
  ·simp(disch:=omega) only[ia,dT,cond_true,aH,au,aI,aS,hC,aa]
   cases hl:lt C d[j+1]! d[a]!
   ·right
    rw[show Sort.scanDown (fun x=>!lt C x d[a]!) d i (j+1)=Sort.scanDown (fun x=>!lt C x d[a]!) d i j by rw[Sort.scanDown,if_pos (by simp[e,hl])]]
    simp(disch:=omega) only[Bool.not_false,cond_true,p1,Nat.add_sub_cancel,aI,au]
    exact⟨_,j,rfl,⟨j,by omega,rfl,rfl,rfl⟩,by omega⟩
   ·left
    rw[show Sort.scanDown (fun x=>!lt C x d[a]!) d i (j+1)=j+1 by rw[Sort.scanDown,if_neg (by simp[hl])]]
    simp only[Bool.not_true,cond_false]
  ·left
   rw[show Sort.scanDown (fun x=>!lt C x d[a]!) d i (j+1)=j+1 by rw[Sort.scanDown,if_neg (by simp[e])]]
   simp(disch:=omega) only[ia,dF,cond_false]
theorem pr3 {a i j:Nat}{d:Array β}(ha:a < d.size)(hj:j < d.size)(hz:d.size≤250):Gc ((a:Int),(i:Int),(j:Int),MA v d)=some ((a:Int),((Sort.scanUp (fun x=>lt C x d[a]!) d j i:Nat):Int),(j:Int),MA v d):=by
 refine aK (fun s r n=>∃ i:Nat,s=((a:Int),(i:Int),(j:Int),MA v d)∧r=((a:Int),((Sort.scanUp (fun x=>lt C x d[a]!) d j i:Nat):Int),(j:Int),MA v d)∧n=j+1-i) ⟨i,rfl,rfl,rfl⟩ (by omega) ?_
 rintro s r n ⟨i,rfl,rfl,rfl⟩
 simp only[My,Gb]
 by_cases e:i≤j
 ·simp(disch:=omega) only[ia,dT,cond_true,aH,au,aI,aS,hC,aa]
  cases hl:lt C d[i]! d[a]!
  ·left
   rw[show Sort.scanUp (fun x=>lt C x d[a]!) d j i=i by rw[Sort.scanUp,if_neg (by simp[hl])]]
   simp only[cond_false]
  ·right
   rw[show Sort.scanUp (fun x=>lt C x d[a]!) d j i=Sort.scanUp (fun x=>lt C x d[a]!) d j (i+1)by rw[Sort.scanUp,if_pos (by simp[e,hl])]]
   simp(disch:=omega) only[cond_true,a1,aI,au]
   exact⟨_,j+1-(i+1),rfl,⟨i+1,rfl,rfl,rfl⟩,by omega⟩
 ·left
  rw[show Sort.scanUp (fun x=>lt C x d[a]!) d j i=i by rw[Sort.scanUp,if_neg (by simp[e])]]
  simp(disch:=omega) only[ia,dF,cond_false]
theorem pr4 {a i j:Nat}{d:Array β}(ha:a < d.size)(hi:1≤i)(hj:j < d.size)(hz:d.size≤250):Ge ((a:Int),(i:Int),(j:Int),MA v d)=some ((a:Int),(i:Int),((Sort.scanDown (fun x=>!lt C x d[a]!) d i j:Nat):Int),MA v d):=by
 refine aK (fun s r n=>∃ j:Nat,j < d.size∧s=((a:Int),(i:Int),(j:Int),MA v d)∧r=((a:Int),(i:Int),((Sort.scanDown (fun x=>!lt C x d[a]!) d i j:Nat):Int),MA v d)∧n=j) ⟨j,hj,rfl,rfl,rfl⟩ (by omega) ?_
 rintro s r n ⟨j,q1,rfl,rfl,rfl⟩
 simp only[MB,Gd]
 cases n with
 | zero=>
  left
  rw[show Sort.scanDown (fun x=>!lt C x d[a]!) d i 0=0 by rw[Sort.scanDown]]
  simp(disch:=omega) only[ia,dF,cond_false]
 | succ j=>
  by_cases e:i≤j+1
  ·simp(disch:=omega) only[ia,dT,cond_true,aH,au,aI,aS,hC,aa]
   cases hl:lt C d[j+1]! d[a]!
   ·right
    rw[show Sort.scanDown (fun x=>!lt C x d[a]!) d i (j+1)=Sort.scanDown (fun x=>!lt C x d[a]!) d i j by rw[Sort.scanDown,if_pos (by simp[e,hl])]]
    simp(disch:=omega) only[Bool.not_false,cond_true,p1,Nat.add_sub_cancel,aI,au]
    exact⟨_,j,rfl,⟨j,by omega,rfl,rfl,rfl⟩,by omega⟩
   ·left
    rw[show Sort.scanDown (fun x=>!lt C x d[a]!) d i (j+1)=j+1 by rw[Sort.scanDown,if_neg (by simp[hl])]]
    simp only[Bool.not_true,cond_false]
  ·left
   rw[show Sort.scanDown (fun x=>!lt C x d[a]!) d i (j+1)=j+1 by rw[Sort.scanDown,if_neg (by simp[e])]]
   simp(disch:=omega) only[ia,dF,cond_false]
theorem peq {a b p:Nat}{d:Array β}(ha:a < d.size)(hp:p < d.size)(hb:b≤d.size)(hb1:1≤b)(hz:d.size≤250):rI ((a:Int),(b:Int),(p:Int),MA v d)=some (((Sort.partitionEqual (lt C) d a b p).1:Int),MA v (Sort.partitionEqual (lt C) d a b p).2):=by
 have key:∀ {i j:Nat} {d:Array β},a < d.size→1≤i→j < d.size→d.size≤250→F6 ((a:Int),(i:Int),(j:Int),MA v d)=some (((Sort.partEqLoop (lt C) a i j d).1:Int),MA v (Sort.partEqLoop (lt C) a i j d).2):=by
  intro i j d ha hi hj hz
  refine aK (fun s r n=>∃ (i j:Nat) (d:Array β),a < d.size∧1≤i∧j < d.size∧d.size≤250∧s=((a:Int),(i:Int),(j:Int),MA v d)∧r=(((Sort.partEqLoop (lt C) a i j d).1:Int),MA v (Sort.partEqLoop (lt C) a i j d).2)∧n=j+1-i) ⟨i,j,d,ha,hi,hj,hz,rfl,rfl,rfl⟩ (by omega) ?_
  rintro s r n ⟨i,j,d,q1,q2,q3,q4,rfl,rfl,rfl⟩
  have u1:=Sort.scanUp_ge (fun x=>!lt C d[a]! x) d j i
  have u2:=Sort.scanDown_le (fun x=>lt C d[a]! x) d (Sort.scanUp (fun x=>!lt C d[a]! x) d j i) j
  rw[Sort.partEqLoop_eq]
  simp(disch:=omega) only[Mj,F5,pe1 hC,pe2 hC,aa]
  generalize Sort.scanUp (fun x=>!lt C d[a]! x) d j i=i2 at *
  generalize Sort.scanDown (fun x=>lt C d[a]! x) d i2 j=j2 at *
  by_cases e:j2 < i2
  ·left; simp(disch:=omega) only[iM,dT,cond_true,if_pos (show i2 > j2 from e)]
  ·right
   simp(disch:=omega) only[iM,dF,cond_false,if_neg (show ¬ i2 > j2 from e),aH,au,aS,Int.toNat_natCast,bC,aX,bD,a1,aI,p1]
   exact⟨_,j2-1+1-(i2+1),rfl,⟨i2+1,j2-1,Sort.swp d i2 j2,by rwa [aw],by omega,by rw[aw]; omega,by rwa [aw],rfl,rfl,rfl⟩,by omega⟩
 have k:=key (i:=a+1) (j:=b-1) (d:=Sort.swp d a p) (by rwa [aw]) (by omega) (by rw[aw]; omega) (by rwa [aw])
 simp(disch:=omega) only[rI,p92,q92,aH,au,aS,Int.toNat_natCast,bC,aX,bD,a1,aI,p1,k,aa,Sort.partitionEqual]
omit hC
theorem Hl (a:Nat):∀ (n i j:Nat) (d:Array β),j+1-i≤n→(Sort.partLoop (lt C) a i j d).1≤j∧(Sort.partLoop (lt C) a i j d).2.size=d.size:=by
 intro n
 induction n with
 | zero=>
  intro i j d h
  have u1:=Sort.scanUp_ge (fun x=>lt C x d[a]!) d j i
  have u2:=Sort.scanDown_le (fun x=>!lt C x d[a]!) d (Sort.scanUp (fun x=>lt C x d[a]!) d j i) j
  rw[Sort.partLoop_eq,if_pos (by omega)]
  exact⟨u2,rfl⟩
 | succ n ih=>
  intro i j d h
  have u1:=Sort.scanUp_ge (fun x=>lt C x d[a]!) d j i
  have u2:=Sort.scanDown_le (fun x=>!lt C x d[a]!) d (Sort.scanUp (fun x=>lt C x d[a]!) d j i) j
  rw[Sort.partLoop_eq]
  split
  ·exact⟨u2,rfl⟩
  ·have:=ih (Sort.scanUp (fun x=>lt C x d[a]!) d j i+1) (Sort.scanDown (fun x=>!lt C x d[a]!) d (Sort.scanUp (fun x=>lt C x d[a]!) d j i) j-1) (Sort.swp d (Sort.scanUp (fun x=>lt C x d[a]!) d j i) (Sort.scanDown (fun x=>!lt C x d[a]!) d (Sort.scanUp (fun x=>lt C x d[a]!) d j i) j)) (by omega)
   exact⟨by omega,by rw[this.2,aw]⟩
include hC
theorem jx {a b p:Nat}{d:Array β}(ha:a < d.size)(hp:p < d.size)(hb:b≤d.size)(hb1:1≤b)(hz:d.size≤250):qv ((a:Int),(b:Int),(p:Int),MA v d)=some (((Sort.partition (lt C) d a b p).1:Int),(Sort.partition (lt C) d a b p).2.1,MA v (Sort.partition (lt C) d a b p).2.2):=by
 have key:∀ {i j:Nat} {d:Array β},a < d.size→1≤i→j < d.size→d.size≤250→Gg ((a:Int),(i:Int),(j:Int),MA v d)=some ((a:Int),((Sort.partLoop (lt C) a i j d).1:Int),MA v (Sort.partLoop (lt C) a i j d).2):=by
  intro i j d ha hi hj hz
  refine aK (fun s r n=>∃ (i j:Nat) (d:Array β),a < d.size∧1≤i∧j < d.size∧d.size≤250∧s=((a:Int),(i:Int),(j:Int),MA v d)∧r=((a:Int),((Sort.partLoop (lt C) a i j d).1:Int),MA v (Sort.partLoop (lt C) a i j d).2)∧n=j+1-i) ⟨i,j,d,ha,hi,hj,hz,rfl,rfl,rfl⟩ (by omega) ?_
  rintro s r n ⟨i,j,d,q1,q2,q3,q4,rfl,rfl,rfl⟩
  have u1:=Sort.scanUp_ge (fun x=>lt C x d[a]!) d j i
  have u2:=Sort.scanDown_le (fun x=>!lt C x d[a]!) d (Sort.scanUp (fun x=>lt C x d[a]!) d j i) j
  rw[Sort.partLoop_eq]
  simp(disch:=omega) only[MD,Gf,pr3 hC,pr4 hC,aa]
  generalize Sort.scanUp (fun x=>lt C x d[a]!) d j i=i2 at *
  generalize Sort.scanDown (fun x=>!lt C x d[a]!) d i2 j=j2 at *
  by_cases e:j2 < i2
  ·left; simp(disch:=omega) only[iM,dT,cond_true,if_pos (show i2 > j2 from e)]
  ·right
   simp(disch:=omega) only[iM,dF,cond_false,if_neg (show ¬ i2 > j2 from e),aH,au,aS,Int.toNat_natCast,bC,aX,bD,a1,aI,p1]
   exact⟨_,j2-1+1-(i2+1),rfl,⟨i2+1,j2-1,Sort.swp d i2 j2,by rwa [aw],by omega,by rw[aw]; omega,by rwa [aw],rfl,rfl,rfl⟩,by omega⟩
 unfold Sort.partition
 simp only[]
 have z1:(Sort.swp d a p).size=d.size:=aw _ _ _
 generalize hd:Sort.swp d a p=d1 at *
 have u1:=Sort.scanUp_ge (fun x=>lt C x d1[a]!) d1 (b-1) (a+1)
 have u2:=Sort.scanDown_le (fun x=>!lt C x d1[a]!) d1 (Sort.scanUp (fun x=>lt C x d1[a]!) d1 (b-1) (a+1)) (b-1)
 simp(disch:=omega) only[qv,p93,q93,aH,au,aS,Int.toNat_natCast,bC,aX,bD,hd,a1,aI,p1,pr0 hC,pr1 hC,aa]
 generalize Sort.scanUp (fun x=>lt C x d1[a]!) d1 (b-1) (a+1)=i2 at *
 generalize Sort.scanDown (fun x=>!lt C x d1[a]!) d1 i2 (b-1)=j2 at *
 by_cases e:j2 < i2
 ·simp(disch:=omega) only[iM,dT,cond_true,if_pos (show i2 > j2 from e),aH,au,aS,Int.toNat_natCast,bC,aX,bD]
 ·have z2:(Sort.swp d1 i2 j2).size=d1.size:=aw _ _ _
  have k:=key (i:=i2+1) (j:=j2-1) (d:=Sort.swp d1 i2 j2) (by omega) (by omega) (by omega) (by omega)
  have hl:=Hl (C:=C) a _ (i2+1) (j2-1) (Sort.swp d1 i2 j2) (Nat.le_refl _)
  simp(disch:=omega) only[iM,dF,cond_false,if_neg (show ¬ i2 > j2 from e),aH,au,aS,Int.toNat_natCast,bC,aX,bD,a1,aI,p1,k,aa]
theorem Ti (hS:Sort.SWO (lt C)):∀ (n f m a b limit:Nat) (wb wp:Bool) (d:Array β),n < f→n < m→n≤1000→b-a≤n→a≤b→b≤d.size→d.size≤250→limit≤250→Sort.Below (lt C) a b d →
  goF (fun x=>pK (tU f) x.1 x.2.1 x.2.2.1 x.2.2.2.1 x.2.2.2.2.1 x.2.2.2.2.2) m ((a:Int),(b:Int),(limit:Int),wb,wp,MA v d)=some (MA v (Sort.pdq (lt C) d a b limit wb wp)):=by
 have small:∀ (f m a b limit:Nat) (wb wp:Bool) (d:Array β),0 < m→b-a≤12→a≤b→b≤d.size→d.size≤250→goF (fun x=>pK (tU f) x.1 x.2.1 x.2.2.1 x.2.2.2.1 x.2.2.2.2.1 x.2.2.2.2.2) m ((a:Int),(b:Int),(limit:Int),wb,wp,MA v d)=some (MA v (Sort.pdq (lt C) d a b limit wb wp)):=by
  intro f m a b limit wb wp d hm h12 hab hb hz
  obtain⟨m,rfl⟩:∃ m',m=m'+1:=⟨m-1,by omega⟩
  have g:decide (((b-a:Nat):Int)≤12)=true:=by simp; omega
  rw[Sort.pdq,if_pos h12]
  simp(disch:=omega) only[goF,pK,vt,pn,aI,au,g,cond_true,ins hC,aa]
 intro n
 induction n with
 | zero=>intro f m a b limit wb wp d h1 h2 hn h3 hab hb hz hl hB; exact small f m a b limit wb wp d h2 (by omega) hab hb hz
 | succ n ih=>
  intro f m a b limit wb wp d h1 h2 hn h3 hab hb hz hl hB
  by_cases h12:b-a≤12
  ·exact small f m a b limit wb wp d (by omega) h12 hab hb hz
  obtain⟨m,rfl⟩:∃ m',m=m'+1:=⟨m-1,by omega⟩
  obtain⟨f,rfl⟩:∃ f',f=f'+1:=⟨f-1,by omega⟩
  have g12:decide (((b-a:Nat):Int)≤12)=false:=by simp; omega
  rw[Sort.pdq,if_neg h12]
  by_cases h0:limit=0
  ·subst h0
   have g0:decide (((0:Nat):Int)=0)=true:=rfl
   simp(disch:=omega) only[goF,pK,vt,pn,aI,au,g12,cond_false,g0,cond_true,heap hC,aa,if_true]
  have g0:decide ((limit:Int)=0)=false:=by simp; omega
  rw[if_neg h0]
  simp only[]
  have e1:vr (tU (f+1)) ((a:Int),(b:Int),(limit:Int),wb,wp,((b-a:Nat):Int),MA v d)=some ((a:Int),(b:Int),((if(!wb)=true then limit-1 else limit:Nat):Int),wb,wp,((b-a:Nat):Int),MA v (if(!wb)=true then Sort.breakPatterns d a b else d)):=by
   cases wb
   ·simp(disch:=omega) only[vr,Gh,zY,Bool.not_false,cond_true,brk,aa,p1,aI,au,if_true]
   ·simp only[vr,Gh,zY,Bool.not_true,cond_false,Bool.false_eq_true,if_false]
  have s1:Sort.PermIn a b d (if(!wb)=true then Sort.breakPatterns d a b else d):=by
   split
   ·exact Sort.breakPatterns_holds d a b hab hb
   ·exact Sort.permIn_refl _ _ _
  have hl1:(if(!wb)=true then limit-1 else limit)≤250:=by split <;> omega
  generalize (if(!wb)=true then Sort.breakPatterns d a b else d)=d1 at *
  generalize (if(!wb)=true then limit-1 else limit)=l1 at *
  have z1:d1.size=d.size:=s1.1
  have e2:=chp hC (d:=d1) (a:=a) (b:=b) (by omega) (by omega) (by omega)
  have hc0:=Sort.choosePivot_holds (lt C) d1 a b (by omega)
  generalize Sort.choosePivot (lt C) d1 a b=c at *
  have e3:zZ (tU (f+1)) ((a:Int),(b:Int),(l1:Int),wb,wp,((b-a:Nat):Int),(c.1:Int),hN c.2,MA v d1)=some ((a:Int),(b:Int),(l1:Int),wb,wp,((b-a:Nat):Int),((if c.2 = .decreasing then(b-1)-(c.1-a)else c.1:Nat):Int),hN (if c.2 = .decreasing then Sort.Hint.increasing else c.2),MA v (if c.2 = .decreasing then Sort.reverseRange d1 a b else d1)):=by
   obtain⟨c1,c2⟩:=c
   simp only at hc0
   cases c2
   ·rfl
   ·rfl
   ·have g:decide (hN Sort.Hint.decreasing=2)=true:=rfl
    simp(disch:=omega) only[zZ,MK,Gi,g,cond_true,rev,aa,p1,aI,au,pn,if_true]
    rfl
  have s2:Sort.PermIn a b d1 (if c.2 = .decreasing then Sort.reverseRange d1 a b else d1):=by
   split
   ·exact Sort.reverseRange_holds d1 a b hab (by omega)
   ·exact Sort.permIn_refl _ _ _
  have hpv:a≤(if c.2 = .decreasing then(b-1)-(c.1-a)else c.1)∧(if c.2 = .decreasing then(b-1)-(c.1-a)else c.1) < b:=by split <;> omega
  generalize (if c.2 = .decreasing then Sort.reverseRange d1 a b else d1)=d2 at *
  generalize (if c.2 = .decreasing then(b-1)-(c.1-a)else c.1)=pv at *
  generalize (if c.2 = .decreasing then Sort.Hint.increasing else c.2)=hint at *
  have z2:d2.size=d1.size:=s2.1
  have B2:Sort.Below (lt C) a b d2:=(hB.perm hb s1).perm (by omega) s2
  have s3:Sort.PermIn a b d2 (if(wb&&wp&&decide (hint = .increasing))=true then Sort.partialInsertionSort (lt C) d2 a b else(d2,false)).1:=by
   split
   ·exact(Sort.partialInsertionSort_holds hS d2 a b (by omega) (by omega) B2).1
   ·exact Sort.permIn_refl _ _ _
  have e4:Aa (tU (f+1)) ((a:Int),(b:Int),(l1:Int),wb,wp,((b-a:Nat):Int),(pv:Int),hN hint,MA v d2)=some (cond (if(wb&&wp&&decide (hint = .increasing))=true then Sort.partialInsertionSort (lt C) d2 a b else(d2,false)).2
    (.inl (MA v (if(wb&&wp&&decide (hint = .increasing))=true then Sort.partialInsertionSort (lt C) d2 a b else(d2,false)).1))
    (.inr ((a:Int),(b:Int),(l1:Int),wb,wp,((b-a:Nat):Int),(pv:Int),MA v (if(wb&&wp&&decide (hint = .increasing))=true then Sort.partialInsertionSort (lt C) d2 a b else(d2,false)).1))):=by
   have hpis:=pis hC (d:=d2) (a:=a) (b:=b) (by omega) (by omega) (by omega)
   cases wb
   ·rfl
   ·cases wp
    ·rfl
    ·cases hint
     ·rfl
     ·have g:decide (hN Sort.Hint.increasing=1)=true:=rfl
      simp only[Aa,ML,Gj,g,cond_true,hpis,aa,Bool.true_and,decide_true,if_true]
      cases(Sort.partialInsertionSort (lt C) d2 a b).2 <;> rfl
     ·rfl
  generalize (if(wb&&wp&&decide (hint = .increasing))=true then Sort.partialInsertionSort (lt C) d2 a b else(d2,false))=pi at *
  obtain⟨d3,fl⟩:=pi
  simp only at s3 e4 ⊢
  have z3:d3.size=d2.size:=s3.1
  have B3:Sort.Below (lt C) a b d3:=B2.perm (by omega) s3
  rw[goF]
  generalize hG:goF (fun x=>pK (tU (f+1)) x.1 x.2.1 x.2.2.1 x.2.2.2.1 x.2.2.2.2.1 x.2.2.2.2.2) m=G
  simp(disch:=omega) only[pK,vt,pn,aI,au,g12,cond_false,g0,e1,aa,e2,e3,e4]
  clear e1 e2 e3 e4
  cases fl
  ·simp only[cond_false,Sum.elim_inr,Bool.false_eq_true,if_false]
   have call:∀ (x y:Nat) (dd:Array β),x≤y→y-x≤n→y≤dd.size→dd.size≤250→Sort.Below (lt C) x y dd→tU (f+1) ((x:Int),(y:Int),(l1:Int),MA v dd)=some (MA v (Sort.pdq (lt C) dd x y l1 true true)):=fun x y dd k1 k2 k3 k4 k5=>by
    have:=ih f 18446744073709551616 x y l1 true true dd (by omega) (by omega) (by omega) k2 k1 k3 k4 hl1 k5
    have this':Ab (tU f) ((x:Int),(y:Int),(l1:Int),true,true,MA v dd)=some (MA v (Sort.pdq (lt C) dd x y l1 true true)):=this
    show TR (tU f) _ _ _ _=_
    simp only[TR,q66,this',aa]
   have part:∀ (mid:Nat) (ap:Bool) (d4:Array β),Sort.partition (lt C) d3 a b pv=(mid,ap,d4) →
     ∃ s',(((qv ((a:Int),(b:Int),(pv:Int),MA v d3)).bind fun r17=>aj (ai .i64 (r17.1-(a:Int))) (aj (ai .i64 ((b:Int)-r17.1)) (aj (ai .i64 (Int.tdiv ((b-a:Nat):Int) 8)) (cond (decide ((r17.1-(a:Int)) < ((b:Int)-r17.1)))
      ((tU (f+1) ((a:Int),r17.1,(l1:Int),r17.2.2)).bind fun r18=>aj (ai .i64 (r17.1+1)) (some (Sum.inl ((r17.1+1),(b:Int),(l1:Int),decide (Int.tdiv ((b-a:Nat):Int) 8≤(r17.1-(a:Int))),r17.2.1,r18))))
      (aj (ai .i64 (r17.1+1)) ((tU (f+1) ((r17.1+1),(b:Int),(l1:Int),r17.2.2)).bind fun r19=>some (Sum.inl ((a:Int),r17.1,(l1:Int),decide (Int.tdiv ((b-a:Nat):Int) 8≤((b:Int)-r17.1)),r17.2.1,r19))))))):Option ((Int×Int×Int×Bool×Bool×List E)⊕List E)))=some (Sum.inl s')∧G s'=some (MA v (if h:a≤mid∧mid < b then
       if mid-a < b-mid then Sort.pdq (lt C) (Sort.pdq (lt C) d4 a mid l1 true true) (mid+1) b l1 (decide (mid-a≥(b-a) / 8)) ap
       else Sort.pdq (lt C) (Sort.pdq (lt C) d4 (mid+1) b l1 true true) a mid l1 (decide (b-mid≥(b-a) / 8)) ap else d4)):=fun mid ap d4 hx=>by
    have hr:=jx hC (d:=d3) (a:=a) (b:=b) (p:=pv) (by omega) (by omega) (by omega) (by omega) (by omega)
    obtain⟨g1,g2,hs4,hBa,hBr,hleft,hright⟩:=Sort.round_part hS (Sort.partition_holds _) hpv.1 hpv.2 (by omega) B3 hx
    rw[hx]at hr
    simp only at hr
    have q8:Int.tdiv ((b-a:Nat):Int) 8=(((b-a) / 8:Nat):Int):=Cl _
    rw[dif_pos ⟨g1,g2⟩]
    simp(disch:=omega) only[hr,aa,pn,aI,au,q8,iM,ia,a1]
    by_cases hlt:mid-a < b-mid
    ·have k:=call a mid d4 g1 (by omega) (by omega) (by omega) hBa
     obtain⟨l1',l2'⟩:=Sort.pdq_sorts (lt C) hS d4 a mid l1 true true g1 (by omega) hBa
     have hB':=(hleft _ l1' l2').1
     simp(disch:=omega) only[dT,cond_true,k,aa,if_pos hlt]
     refine⟨_,rfl,?_⟩
     rw[← hG]
     exact ih (f+1) m (mid+1) b l1 _ ap _ (by omega) (by omega) (by omega) (by omega) (by omega) (by rw[l1'.1]; omega) (by rw[l1'.1]; omega) hl1 hB'
    ·have k:=call (mid+1) b d4 (by omega) (by omega) (by omega) (by omega) hBr
     obtain⟨l1',l2'⟩:=Sort.pdq_sorts (lt C) hS d4 (mid+1) b l1 true true (by omega) (by omega) hBr
     have hB':=(hright _ l1' l2').1
     simp(disch:=omega) only[dF,cond_false,k,aa,if_neg hlt]
     refine⟨_,rfl,?_⟩
     rw[← hG]
     exact ih (f+1) m a mid l1 _ ap _ (by omega) (by omega) (by omega) (by omega) (by omega) (by rw[l1'.1]; omega) (by rw[l1'.1]; omega) hl1 hB'
   by_cases ha0:0 < a
   ·have ga:decide ((0:Int) < (a:Int))=true:=by simp; omega
    simp(disch:=omega) only[ga,cond_true,p1,aI,au,aH,aS,hC,aa]
    cases hq:lt C d3[a-1]! d3[pv]!
    ·simp only[Bool.not_false,cond_true,Bool.and_true,decide_eq_true_eq,if_pos (show a > 0 from ha0)]
     have hr:=peq hC (d:=d3) (a:=a) (b:=b) (p:=pv) (by omega) (by omega) (by omega) (by omega) (by omega)
     rcases hx:Sort.partitionEqual (lt C) d3 a b pv with⟨mid,d4⟩
     obtain⟨g1,g2,hs4,hB4,hfin⟩:=Sort.round_eq hS (Sort.partitionEqual_holds _) ha0 hpv.1 hpv.2 (by omega) B3 hq hx
     rw[hx]at hr
     simp only at hr
     simp only[hr,aa,dif_pos (And.intro g1 g2)]
     rw[← hG]
     exact ih (f+1) m mid b l1 wb wp d4 (by omega) (by omega) (by omega) (by omega) g2 (by omega) (by omega) hl1 hB4
    ·simp only[Bool.not_true,cond_false,Bool.and_false,Bool.false_eq_true,if_false]
     rcases hx:Sort.partition (lt C) d3 a b pv with⟨mid,ap,d4⟩
     obtain⟨s',k1,k2⟩:=part mid ap d4 hx
     rw[k1]
     exact k2
   ·have ga:decide ((0:Int) < (a:Int))=false:=by simp; omega
    have gn:decide (a > 0)=false:=by simp; omega
    simp only[ga,cond_false,gn,Bool.false_and,Bool.false_eq_true,if_false]
    rcases hx:Sort.partition (lt C) d3 a b pv with⟨mid,ap,d4⟩
    obtain⟨s',k1,k2⟩:=part mid ap d4 hx
    rw[k1]
    exact k2
  ·simp only[cond_true,Sum.elim_inl,if_true]
theorem top (hS:Sort.SWO (lt C)){d:Array β}(hz:d.size≤250):Gk (MA v d)=some (MA v (Sort.sort (lt C) d)):=by
 have hl:Sort.bitsLen d.size≤8:=(Sort.bitsLen_le_iff d.size 8).2 (by omega)
 have fu:ai .u64 (d.size:Int)=true:=nt (by omega) (by omega)
 have k:=Ti hC hS 1000 18446744073709551615 18446744073709551616 0 d.size (Sort.bitsLen d.size) true true d (by omega) (by omega) (by omega) (by omega) (by omega) (Nat.le_refl _) hz (by omega) (.inl rfl)
 have k':Ab (tU 18446744073709551615) (0,(d.size:Int),((Sort.bitsLen d.size:Nat):Int),true,true,MA v d)=some (MA v (Sort.sort (lt C) d)):=k
 have e:P66 (0,(d.size:Int),((Sort.bitsLen d.size:Nat):Int),MA v d)=some (MA v (Sort.sort (lt C) d)):=by
  show TR (tU 18446744073709551615) _ _ _ _=_
  simp only[TR,q66,k',aa]
 simp(disch:=omega) only[Gk,p44,q44,pF,fu,au,Hk,aa,e]
end
theorem srt (K:E→Int)(gd:E→Prop)(x0:E)(h0:gd x0)(hK:∀ x y,gd x→gd y→∃ c:Bool,P91 (x,y)=some c∧(c=true↔K x < K y)){l:List E}(hl:∀ x∈l,gd x)(hz:l.length≤250):
  ∃ l',Gk l=some l'∧l'.Perm l∧Sd K l' 0 l'.length:=by
 letI:Inhabited {x:E // gd x}:=⟨⟨x0,h0⟩⟩
 let C:{x:E // gd x}→{x:E // gd x}→Bool:=fun x y=>Classical.choose (hK x.1 y.1 x.2 y.2)
 have hC:∀ x y:{x:E // gd x},P91 (x.1,y.1)=some (lt C x y):=fun x y=>(Classical.choose_spec (hK x.1 y.1 x.2 y.2)).1
 have hlt:∀ x y:{x:E // gd x},lt C x y=true↔K x.1 < K y.1:=fun x y=>(Classical.choose_spec (hK x.1 y.1 x.2 y.2)).2
 have hlf:∀ x y:{x:E // gd x},lt C x y=false↔K y.1≤K x.1:=fun x y=>by rw[← Bool.not_eq_true,hlt]; omega
 have hS:Sort.SWO (lt C):=⟨fun x=>(hlf x x).2 (Int.le_refl _),fun x y z h1 h2=>(hlt _ _).2 (Int.lt_trans ((hlt _ _).1 h1) ((hlt _ _).1 h2)),fun x y z h1 h2=>(hlf _ _).2 (Int.le_trans ((hlf _ _).1 h2) ((hlf _ _).1 h1))⟩
 let d:Array {x:E // gd x}:=(l.attach.map fun x=>⟨x.1,hl x.1 x.2⟩).toArray
 have hd:MA (fun x:{x:E // gd x}=>x.1) d=l:=by
  simp only[MA,d,List.map_map]
  exact List.attach_map_subtype_val l
 have hds:d.size=l.length:=by simp[d]
 obtain⟨s1,s2⟩:=Sort.sort_sorts (lt C) hS d
 have ht:=top (v:=fun x:{x:E // gd x}=>x.1) hC hS (d:=d) (by omega)
 rw[hd]at ht
 refine⟨_,ht,?_,fun i j q1 q2 q3=>?_⟩
 ·have hp:=s1.2.2
  have e1:∀ r:Array {x:E // gd x},r.size=d.size→r.extract 0 d.size=r:=fun r hr=>by rw[← hr]; simp
  rw[e1 _ s1.1,show d.extract 0 d.size=d by simp]at hp
  have:=hp.map (fun x:{x:E // gd x}=>x.1)
  rw[← hd]
  exact this
 ·rw[pF]at q3
  have e:∀ k,k < (Sort.sort (lt C) d).size→gt (MA (fun x:{x:E // gd x}=>x.1) (Sort.sort (lt C) d)) k=((Sort.sort (lt C) d)[k]!).1:=fun k hk=>by rw[← bJ,aS hk]
  rw[e i (by omega),e j q3]
  exact(hlf _ _).1 (s2 i j q1 q2 (by have:=s1.1; omega))
end Pdq44
end Go.Proofs.Ytdkaijofmigmbaa.D
