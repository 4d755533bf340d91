/- Cut down from longer texts. -/
import Derived.Test.YtdkaijofmigmbaaH2w
import Derived.Test.YtdkaijofmigmbaaB3w
import Derived.Test.YtdkaijofmigmbaaG9w
import Derived.Test.YtdkaijofmigmbaaG2w
import Derived.Sort.LotD4
import Derived.Test.YtdkaijofmigmbaaG6w
set_option linter.unusedVariables false
set_option linter.unusedSimpArgs false
set_option linter.unusedSectionVars false
set_option maxRecDepth 100000
namespace Go.Proofs.Ytdkaijofmigmbaa.D
open Go Go.Proofs Go.Proofs.Ytdkaijofmigmbaa.L
theorem Ln (l:List au)(h:l.length≤1000000):tr wl (l,(l.length:Int),0,0,[])=some (Sum.inr (0,l)):=by
 refine(aY (step:=fun x=>Er wl x.1 x.2.1 x.2.2.1 x.2.2.2.1 x.2.2.2.2) l.length (fun k=>(l,(l.length:Int),(k:Int),(0:Int),l.take k)) (Sum.inr (0,l)) (fun k hk=>?_) ?_ (by omega))
 ·show mZ wl l (l.length:Int) (k:Int) 0 (l.take k)=_;unfold mZ;rw[aN hk,cond_true,aj (aC hk)];have e:wl (ix l (k:Int),0,l.take k)=some (true,0,l.take (k+1)):=by
   unfold wl;simp only;rw[aj (bY (by simp; omega)),bI,List.take_add_one,List.getElem?_eq_getElem hk,ca hk];rfl
  rw[e];show ah (af .i64 ((k:Int)+1)) _=_;rw[aj (aE (by omega))];rfl
 ·show mZ wl l (l.length:Int) (l.length:Int) 0 (l.take l.length)=_;unfold mZ;rw[aV,cond_false,List.take_length]
theorem Lo (l:List au)(h:l.length≤1000000):P123 l=some l:=by
 have e:vw wl (l,0,[])=some (l,0,l):=by
  show Jy wl (tr wl) l 0 []=_;unfold Jy;rw[Ln l h];rfl
 unfold P123;rw[e];rfl
def fr (l:List Int)(i:Int):Bool:=wi i 0 ((l.length:Int)-1)&&decide (ix l i = -1)
def ji (l:List Int)(s n:Nat):Bool:=fp n fun k=>decide (gt l (s+k) = -1)
def gp (l:List Int)(s:Int)(n:Int):Bool:=(fr l (s-1)&&!fr l (s-2))||(fr l (s+n)&&!fr l (s+n+1))
theorem UK {r:Nat}(i:Int){rows vain:List Int}{hold:Int}{seats:List (List Int)}{pool:List dY}(hr:r < seats.length)(hl:(gt seats r).length≤1000):
  P97 ((r:Int),i,rows,hold,seats,vain,pool)=some (fr (gt seats r) i,rows,hold,seats,vain,pool):=by
 show q97 P60 (r:Int) i rows hold seats vain pool=_;unfold q97;rw[aj (aC hr),bI,aj (aO (by omega) (by omega))];have e:P60 (i,0,(((gt seats r).length:Int)-1))=some (wi i 0 (((gt seats r).length:Int)-1)):=tp _ _ _;rw[e];simp only[Option.bind_some];unfold fr;cases hw:wi i 0 (((gt seats r).length:Int)-1)with
 | false=>rfl
 | true=>
  have:=cS.1 hw;rw[cond_true,aj (aC hr),aj (Ek (by omega) (by omega))];rfl
theorem HH {r s n:Nat}{a0 a3 a4 a5 a6 k size:Int}{fst:bT}{fnd:Bool}{rows vain:List Int}{hold:Int}{seats:List (List Int)}{pool:List dY}(hr:r < seats.length)(hs:s+n≤(gt seats r).length)(hl:(gt seats r).length≤1000):
  L96_2 PYb (a0,(r:Int),(s:Int),a3,a4,a5,a6,(n:Int),0,k,fst,fnd,size,seats,rows,hold,vain,pool) =
  some (cond (ji (gt seats r) s n) (Sum.inr (a0,(r:Int),(s:Int),a3,a4,a5,a6,k,fst,fnd,size,seats,rows,hold,vain,pool)) (Sum.inl (a0,(r:Int),a3,a4,a5,a6,k,fst,fnd,size,seats,rows,hold,vain,pool))):=by
 refine kd (step:=fun x=>Mj PYb x.1 x.2.1 x.2.2.1 x.2.2.2.1 x.2.2.2.2.1 x.2.2.2.2.2.1 x.2.2.2.2.2.2.1 x.2.2.2.2.2.2.2.1 x.2.2.2.2.2.2.2.2.1 x.2.2.2.2.2.2.2.2.2.1 x.2.2.2.2.2.2.2.2.2.2.1 x.2.2.2.2.2.2.2.2.2.2.2.1 x.2.2.2.2.2.2.2.2.2.2.2.2.1 x.2.2.2.2.2.2.2.2.2.2.2.2.2.1 x.2.2.2.2.2.2.2.2.2.2.2.2.2.2.1 x.2.2.2.2.2.2.2.2.2.2.2.2.2.2.2.1 x.2.2.2.2.2.2.2.2.2.2.2.2.2.2.2.2.1 x.2.2.2.2.2.2.2.2.2.2.2.2.2.2.2.2.2)
  n (fun q=>(a0,(r:Int),(s:Int),a3,a4,a5,a6,(n:Int),(q:Int),k,fst,fnd,size,seats,rows,hold,vain,pool)) (fun q=>decide (gt (gt seats r) (s+q) = -1)) _ _ (fun q hq=>?_) ?_ (by omega)
 ·show rH P97 PYb a0 (r:Int) (s:Int) a3 a4 a5 a6 (n:Int) (q:Int) k fst fnd size seats rows hold vain pool=_;unfold rH;rw[aN hq,cond_true,aj (aO (by omega) (by omega)),bI,show((s:Int)+(q:Int))=((s+q:Nat):Int)by omega,aj (aC (by omega)),bI];cases hd:decide (gt (gt seats r) (s+q) = -1)with
  | false=>rfl
  | true=>
   rw[Bool.not_true,cond_false,aj (aE (by omega))];rfl
 ·show rH P97 PYb a0 (r:Int) (s:Int) a3 a4 a5 a6 (n:Int) (n:Int) k fst fnd size seats rows hold vain pool=_;unfold rH;rw[aV,cond_false];rfl
theorem PYb_0 (p f:bT)(g b:Bool):PYb (p,g,0,f,b)=some (cond g (true,0,cond b f p,true) (false,1,p,true)):=by
 cases g <;> cases b <;> rfl
theorem H4 {r s n m:Nat}{a2 a3:Int}{fst:bT}{fnd:Bool}{rows vain:List Int}{hold:Int}{seats:List (List Int)}{pool:List dY}(hr:r < seats.length)(hl:(gt seats r).length≤1000)(hn:n≤1000)(hs:s < m)(hm:m+n=(gt seats r).length+1):
  q96_1 P97 PYb (L96_2 PYb) (r:Int) (r:Int) a2 a3 (m:Int) (s:Int) 0 fst fnd (n:Int) seats rows hold vain pool =
  some (cond (ji (gt seats r) s n) (cond (gp (gt seats r) s n)
    (Sum.inl ((r:Int),(r:Int),a2,a3,(m:Int),((s+1:Nat):Int),0,cond fnd fst (0,(r:Int),(s:Int),(n:Int)),true,(n:Int),seats,rows,hold,vain,pool))
    (Sum.inr (Sum.inl (1,(0,(r:Int),(s:Int),(n:Int)),true,(n:Int),seats,rows,hold,vain,pool))))
   (Sum.inl ((r:Int),(r:Int),a2,a3,(m:Int),((s+1:Nat):Int),0,fst,fnd,(n:Int),seats,rows,hold,vain,pool))):=by
 unfold q96_1;rw[aN hs,cond_true,show(↑((r:Int).toNat):Int)=(r:Int)from rfl,HH hr (by omega) hl];cases hp:ji (gt seats r) s n with
 | false=>
  simp only[cond_false,bind_some',elim_inl];rw[aj (aE (by omega))];rfl
 | true=>
  simp only[cond_true,bind_some',elim_inr];rw[aj (aO (by omega) (by omega)),aj (aO (by omega) (by omega))];simp only[UK _ hr hl,bind_some',PYb_0,gp];have f1:af .i64 ((s:Int)-2)=true:=aO (by omega) (by omega);have f2:af .i64 ((s:Int)+(n:Int)+1)=true:=aO (by omega) (by omega);have f3:af .i64 ((s:Int)+1)=true:=aE (by omega);simp only[f1,f2,f3,al];cases fr (gt seats r) ((s:Int)-1) <;> cases fr (gt seats r) ((s:Int)-2) <;> cases fr (gt seats r) ((s:Int)+(n:Int)) <;> cases fr (gt seats r) ((s:Int)+(n:Int)+1) <;> rfl
def oi (seats:List (List Int))(n:Nat):List (Nat×Nat)→bT×Bool→bT×Bool×Bool
 | [],(f,b)=>(f,b,false)
 | (r,s)::cs,(f,b)=>cond (ji (gt seats r) s n) (cond (gp (gt seats r) s n) (oi seats n cs (cond b f (0,(r:Int),(s:Int),(n:Int)),true)) ((0,(r:Int),(s:Int),(n:Int)),true,true)) (oi seats n cs (f,b))
theorem uj (seats:List (List Int))(n:Nat):∀ (cs ds:List (Nat×Nat)) (a:bT×Bool),oi seats n (cs++ds) a=(match oi seats n cs a with
  | (f,b,true)=>(f,b,true)
  | (f,b,false)=>oi seats n ds (f,b))
 | [],ds,(f,b)=>rfl
 | (r,s)::cs,ds,(f,b)=>by
  simp only[List.cons_append,oi];cases ji (gt seats r) s n with
  | false=>simp only[cond_false]; exact uj seats n cs ds _
  | true=>
   cases gp (gt seats r) s n with
   | false=>rfl
   | true=>simp only[cond_true]; exact uj seats n cs ds _
def nr (r s k:Nat):List (Nat×Nat):=(List.range' s k).map fun s=>(r,s)
theorem H5 {r n m:Nat}{a2 a3:Int}{fst:bT}{fnd:Bool}{rows vain:List Int}{hold:Int}{seats:List (List Int)}{pool:List dY}(hr:r < seats.length)(hl:(gt seats r).length≤1000)(hn:n≤1000)(hm:m=0∨m+n=(gt seats r).length+1){mi:Int}(hmi:mi=(m:Int)∨(m=0∧mi≤0)):
  vz PYb ((r:Int),(r:Int),a2,a3,mi,0,0,fst,fnd,(n:Int),seats,rows,hold,vain,pool)=some (match oi seats n (nr r 0 m) (fst,fnd)with
   | (f,b,true)=>Sum.inl (1,f,b,(n:Int),seats,rows,hold,vain,pool)
   | (f,b,false)=>Sum.inr (a2,a3,0,f,b,(n:Int),seats,rows,hold,vain,pool)):=by
 have key:=du (step:=fun x=>Mm PYb x.1 x.2.1 x.2.2.1 x.2.2.2.1 x.2.2.2.2.1 x.2.2.2.2.2.1 x.2.2.2.2.2.2.1 x.2.2.2.2.2.2.2.1 x.2.2.2.2.2.2.2.2.1 x.2.2.2.2.2.2.2.2.2.1 x.2.2.2.2.2.2.2.2.2.2.1 x.2.2.2.2.2.2.2.2.2.2.2.1 x.2.2.2.2.2.2.2.2.2.2.2.2.1 x.2.2.2.2.2.2.2.2.2.2.2.2.2.1 x.2.2.2.2.2.2.2.2.2.2.2.2.2.2)
  (fun x=>m-x.2.2.2.2.2.1.toNat)
  (fun x=>∃ s f b,s≤m∧x=((r:Int),(r:Int),a2,a3,mi,(s:Int),0,f,b,(n:Int),seats,rows,hold,vain,pool)∧oi seats n (nr r s (m-s)) (f,b)=oi seats n (nr r 0 m) (fst,fnd))
  (fun y=>y=(match oi seats n (nr r 0 m) (fst,fnd)with
   | (f,b,true)=>Sum.inl (1,f,b,(n:Int),seats,rows,hold,vain,pool)
   | (f,b,false)=>Sum.inr (a2,a3,0,f,b,(n:Int),seats,rows,hold,vain,pool)))
  (x:=((r:Int),(r:Int),a2,a3,mi,((0:Nat):Int),0,fst,fnd,(n:Int),seats,rows,hold,vain,pool)) ⟨0,fst,fnd,Nat.zero_le _,rfl,rfl⟩ (by show m-_ < _; omega) (by
   rintro x ⟨s,f,b,hs,rfl,hg⟩;show(∃ s',q96_1 P97 PYb (L96_2 PYb) (r:Int) (r:Int) a2 a3 mi (s:Int) 0 f b (n:Int) seats rows hold vain pool=_∧_)∨∃ y,q96_1 P97 PYb (L96_2 PYb) (r:Int) (r:Int) a2 a3 mi (s:Int) 0 f b (n:Int) seats rows hold vain pool=_∧_;by_cases hsm:s < m
   ·have hmi':mi=(m:Int):=by omega
    subst hmi';rw[H4 hr hl hn hsm (by omega)];have hstep:oi seats n (nr r s (m-s)) (f,b)=cond (ji (gt seats r) s n) (cond (gp (gt seats r) s n) (oi seats n (nr r (s+1) (m-(s+1))) (cond b f (0,(r:Int),(s:Int),(n:Int)),true)) ((0,(r:Int),(s:Int),(n:Int)),true,true)) (oi seats n (nr r (s+1) (m-(s+1))) (f,b)):=by
     rw[show m-s=(m-(s+1))+1 by omega];rfl
    rw[hstep]at hg;cases hp:ji (gt seats r) s n with
    | false=>
     rw[hp]at hg;exact .inl ⟨_,rfl,⟨s+1,f,b,by omega,rfl,hg⟩,by show m-((s+1:Nat):Int).toNat < m-((s:Nat):Int).toNat; simp only[Int.toNat_natCast]; omega⟩
    | true=>
     rw[hp]at hg;cases hq:gp (gt seats r) s n with
     | true=>
      rw[hq]at hg;exact .inl ⟨_,rfl,⟨s+1,_,true,by omega,rfl,hg⟩,by show m-((s+1:Nat):Int).toNat < m-((s:Nat):Int).toNat; simp only[Int.toNat_natCast]; omega⟩
     | false=>
      rw[hq]at hg;refine .inr ⟨_,rfl,?_⟩;rw[← hg];rfl
   ·obtain rfl:s=m:=by omega
    refine .inr ⟨Sum.inr (a2,a3,0,f,b,(n:Int),seats,rows,hold,vain,pool),?_,?_⟩
    ·unfold q96_1;rw[show decide ((s:Int) < mi)=false from decide_eq_false (by omega),cond_false]
    ·rw[← hg,Nat.sub_self];rfl)
 obtain⟨y,h1,h2⟩:=key;rw[← h2];exact h1
def eI (seats:List (List Int))(n r k:Nat):List (Nat×Nat):=(List.range' r k).flatMap fun r=>nr r 0 ((gt seats r).length+1-n)
theorem Ib {n:Nat}{fst:bT}{fnd:Bool}{rows vain:List Int}{hold:Int}{seats:List (List Int)}{pool:List dY}(hl:∀ r,r < seats.length→(gt seats r).length≤1000)(hs:seats.length≤1000)(hn:n≤1000):
  zO PYb ((seats.length:Int),0,0,fst,fnd,(n:Int),seats,rows,hold,vain,pool)=some (match oi seats n (eI seats n 0 seats.length) (fst,fnd)with
   | (f,b,true)=>Sum.inl (1,f,b,(n:Int),seats,rows,hold,vain,pool)
   | (f,b,false)=>Sum.inr (0,f,b,(n:Int),seats,rows,hold,vain,pool)):=by
 have key:=du (step:=fun x=>Mo PYb x.1 x.2.1 x.2.2.1 x.2.2.2.1 x.2.2.2.2.1 x.2.2.2.2.2.1 x.2.2.2.2.2.2.1 x.2.2.2.2.2.2.2.1 x.2.2.2.2.2.2.2.2.1 x.2.2.2.2.2.2.2.2.2.1 x.2.2.2.2.2.2.2.2.2.2)
  (fun x=>seats.length-x.2.1.toNat)
  (fun x=>∃ r f b,r≤seats.length∧x=((seats.length:Int),(r:Int),0,f,b,(n:Int),seats,rows,hold,vain,pool)∧oi seats n (eI seats n r (seats.length-r)) (f,b)=oi seats n (eI seats n 0 seats.length) (fst,fnd))
  (fun y=>y=(match oi seats n (eI seats n 0 seats.length) (fst,fnd)with
   | (f,b,true)=>Sum.inl (1,f,b,(n:Int),seats,rows,hold,vain,pool)
   | (f,b,false)=>Sum.inr (0,f,b,(n:Int),seats,rows,hold,vain,pool)))
  (x:=((seats.length:Int),((0:Nat):Int),0,fst,fnd,(n:Int),seats,rows,hold,vain,pool)) ⟨0,fst,fnd,Nat.zero_le _,rfl,rfl⟩ (by show seats.length-_ < _; omega) (by
   rintro x ⟨r,f,b,hr,rfl,hg⟩;show(∃ s',rI P97 PYb (vz PYb) (seats.length:Int) (r:Int) 0 f b (n:Int) seats rows hold vain pool=_∧_)∨∃ y,rI P97 PYb (vz PYb) (seats.length:Int) (r:Int) 0 f b (n:Int) seats rows hold vain pool=_∧_;by_cases hrm:r < seats.length
   ·have hlr:=hl r hrm;have hstep:eI seats n r (seats.length-r)=nr r 0 ((gt seats r).length+1-n)++eI seats n (r+1) (seats.length-(r+1)):=by
     rw[show seats.length-r=(seats.length-(r+1))+1 by omega];rfl
    rw[hstep,uj]at hg;unfold rI;rw[aN hrm,cond_true,aj (aC hrm),bI,aj (aO (by omega) (by omega)),aj (aO (by omega) (by omega)),show(↑((r:Int).toNat):Int)=(r:Int)from rfl,
     H5 hrm hlr hn (m:=(gt seats r).length+1-n) (by omega) (by omega)]
    cases hq:oi seats n (nr r 0 ((gt seats r).length+1-n)) (f,b)with
    | mk f' y=>
     obtain⟨b',t⟩:=y;rw[hq]at hg;cases t with
     | true=>
      refine .inr ⟨_,rfl,?_⟩;rw[← hg]
     | false=>
      left;refine⟨((seats.length:Int),((r+1:Nat):Int),0,f',b',(n:Int),seats,rows,hold,vain,pool),?_,⟨r+1,f',b',by omega,rfl,hg⟩,by show seats.length-((r+1:Nat):Int).toNat < seats.length-((r:Nat):Int).toNat; simp only[Int.toNat_natCast]; omega⟩;simp only[bind_some',elim_inr];rw[aj (aE (by omega))];rfl
   ·obtain rfl:r=seats.length:=by omega
    refine .inr ⟨Sum.inr (0,f,b,(n:Int),seats,rows,hold,vain,pool),?_,?_⟩
    ·unfold rI;rw[aV,cond_false]
    ·rw[← hg,Nat.sub_self];rfl)
 obtain⟨y,h1,h2⟩:=key;rw[← h2];exact h1
def nM (seats:List (List Int))(n:Nat):bT×Bool:=((oi seats n (eI seats n 0 seats.length) ((0,0,0,0),false)).1,(oi seats n (eI seats n 0 seats.length) ((0,0,0,0),false)).2.1)
theorem yS {n:Nat}{rows vain:List Int}{hold:Int}{seats:List (List Int)}{pool:List dY}(hl:∀ r,r < seats.length→(gt seats r).length≤1000)(hs:seats.length≤1000)(hn:n≤1000):
  qL ((n:Int),rows,hold,seats,vain,pool)=some ((nM seats n).1,(nM seats n).2,rows,hold,seats,vain,pool):=by
 have e:Mp PYb (0,(0,0,0,0),false,(n:Int),rows,hold,seats,vain,pool)=some ((match oi seats n (eI seats n 0 seats.length) ((0,0,0,0),false)with
   | (f,b,true)=>(1,f,b,(n:Int),rows,hold,seats,vain,pool)
   | (f,b,false)=>(0,f,b,(n:Int),rows,hold,seats,vain,pool))):=by
  show q96 P97 PYb (zO PYb) 0 (0,0,0,0) false (n:Int) rows hold seats vain pool=_;unfold q96;rw[show(↑(List.length seats):Int)=(seats.length:Int)from rfl,Ib hl hs hn];cases oi seats n (eI seats n 0 seats.length) ((0,0,0,0),false)with
  | mk f y=>obtain⟨b,t⟩:=y; cases t <;> rfl
 unfold qL nM;rw[e];cases oi seats n (eI seats n 0 seats.length) ((0,0,0,0),false)with
 | mk f y=>obtain⟨b,t⟩:=y; cases t <;> rfl
theorem Ic (l:List Int)(i:Int):uo (l,i)=some (fr l i):=by
 show q47 l i=_;unfold q47 fr;by_cases h1:0≤i
 ·by_cases h2:i < (l.length:Int)
  ·rw[decide_eq_true h1,show decide (i < (↑(List.length l):Int))=true from decide_eq_true h2,cond_true,cond_true,aj (Ek h1 h2),show wi i 0 ((l.length:Int)-1)=true from cS.2 ⟨h1,by omega⟩];rfl
  ·have:wi i 0 ((l.length:Int)-1)=false:=by
    cases h:wi i 0 ((l.length:Int)-1)with
    | false=>rfl
    | true=>have:=cS.1 h; omega
   rw[decide_eq_true h1,show decide (i < (↑(List.length l):Int))=false from decide_eq_false h2,this];rfl
 ·have:wi i 0 ((l.length:Int)-1)=false:=by
   cases h:wi i 0 ((l.length:Int)-1)with
   | false=>rfl
   | true=>have:=cS.1 h; omega
  rw[decide_eq_false h1,this];rfl
theorem Id {l:List Int}{k:Nat}(h:k < l.length):fr l (k:Int)=decide (gt l k = -1):=by
 unfold fr;rw[show wi (k:Int) 0 ((l.length:Int)-1)=true from cS.2 ⟨by omega,by omega⟩,bI];rfl
def LI (l:List Int)(s:Int)(n:Nat):Bool:=fp n fun k=>fr l (s+(k:Int))
theorem Ie (l:List Int){s:Int}{n:Nat}(hs:0≤s)(hs':s≤1000)(hn:n≤1000):P22 (l,s,(n:Int))=some (LI l s n):=by
 show q22 uo AP l s (n:Int)=_;unfold q22;have e:AP (l,s,(n:Int),s)=some (cond (LI l s n) (Sum.inr ()) (Sum.inl false)):=by
  have:=kd (step:=fun x=>O5 x.1 x.2.1 x.2.2.1 x.2.2.2) n (fun k=>(l,s,(n:Int),s+(k:Int))) (fun k=>fr l (s+(k:Int))) (Sum.inl false) (Sum.inr ()) (fun k hk=>by
   show sd uo l s (n:Int) (s+(k:Int))=_;unfold sd;rw[aj (aO (by omega) (by omega)),decide_eq_true (show s+(k:Int) < s+(n:Int)by omega),cond_true,Ic,bind_some'];cases fr l (s+(k:Int))with
   | false=>rfl
   | true=>
    rw[Bool.not_true,cond_false,aj (aO (by omega) (by omega)),cond_true];show some (Sum.inl (l,s,(n:Int),s+(k:Int)+1))=some (Sum.inl (l,s,(n:Int),s+((k+1:Nat):Int)));rw[show s+((k+1:Nat):Int)=s+(k:Int)+1 by omega]) (by
   show sd uo l s (n:Int) (s+(n:Int))=_;unfold sd;rw[aj (aO (by omega) (by omega)),decide_eq_false (by omega),cond_false]) (by omega)
  have h0:s+((0:Nat):Int)=s:=by omega
  simp only[h0]at this;exact this
 rw[e];cases LI l s n <;> rfl
theorem If (l:List Int){s n:Int}(hs:0≤s)(hs':s≤1000)(hn:0≤n)(hn':n≤1000):P23 (l,s,n)=some (gp l s n):=by
 show q23 uo l s n=_;unfold q23 gp;have f1:af .i64 (s-1)=true:=aO (by omega) (by omega);have f2:af .i64 (s+n)=true:=aO (by omega) (by omega);have f3:af .i64 (s-1-1)=true:=aO (by omega) (by omega);have f4:af .i64 (s+n+1)=true:=aO (by omega) (by omega);simp only[f1,f2,f3,f4,al,Ic,bind_some'];rw[show s-1-1=s-2 by omega];cases fr l (s-1) <;> cases fr l (s-2) <;> cases fr l (s+n) <;> cases fr l (s+n+1) <;> rfl
def pB (seats:List (List Int))(n:Nat)(g:Bool)(c:Nat×Nat):Bool:=ji (gt seats c.1) c.2 n&&(g||!gp (gt seats c.1) (c.2:Int) (n:Int))
theorem qp (seats:List (List Int))(n:Nat):∀ (cs:List (Nat×Nat)) (f:bT) (b:Bool),oi seats n cs (f,b)=(match cs.find? (pB seats n false)with
  | some c=>((0,(c.1:Int),(c.2:Int),(n:Int)),true,true)
  | none=>match b,cs.find? (pB seats n true)with
   | true,_=>(f,true,false)
   | false,some c=>((0,(c.1:Int),(c.2:Int),(n:Int)),true,false)
   | false,none=>(f,false,false))
 | [],f,b=>by cases b <;> rfl
 | (r,s)::cs,f,b=>by
  simp only[oi,List.find?_cons,pB,Bool.false_or,Bool.true_or,Bool.and_true];cases hp:ji (gt seats r) s n with
  | false=>simp only[cond_false,Bool.false_and]; rw[qp seats n cs]
  | true=>
   cases hq:gp (gt seats r) (s:Int) (n:Int)with
   | false=>simp
   | true=>
    simp only[cond_true,Bool.true_and,Bool.not_true];rw[qp seats n cs];cases cs.find? (pB seats n false)with
    | some c=>rfl
    | none=>cases b <;> rfl
theorem Ig (seats:List (List Int))(n:Nat):nM seats n=(match((eI seats n 0 seats.length).find? (pB seats n false)).or ((eI seats n 0 seats.length).find? (pB seats n true))with
  | some c=>((0,(c.1:Int),(c.2:Int),(n:Int)),true)
  | none=>((0,0,0,0),false)):=by
 unfold nM;rw[qp];cases(eI seats n 0 seats.length).find? (pB seats n false)with
 | some c=>rfl
 | none=>cases(eI seats n 0 seats.length).find? (pB seats n true) <;> rfl
theorem U3:P107 ([-1],1)=some (List.replicate 1 (-1)):=by kernel_rfl
theorem U4:P107 ([-1],2)=some (List.replicate 2 (-1)):=by kernel_rfl
theorem U5:P107 ([-1],3)=some (List.replicate 3 (-1)):=by kernel_rfl
theorem U6:P107 ([-1],4)=some (List.replicate 4 (-1)):=by kernel_rfl
theorem U7:P107 ([-1],5)=some (List.replicate 5 (-1)):=by kernel_rfl
theorem U8:P107 ([-1],6)=some (List.replicate 6 (-1)):=by kernel_rfl
theorem U9:P107 ([-1],7)=some (List.replicate 7 (-1)):=by kernel_rfl
theorem Va:P107 ([-1],8)=some (List.replicate 8 (-1)):=by kernel_rfl
theorem Vb:P107 ([-1],9)=some (List.replicate 9 (-1)):=by kernel_rfl
theorem LJ:P107 ([-1],10)=some (List.replicate 10 (-1)):=by kernel_rfl
theorem LK:P107 ([-1],11)=some (List.replicate 11 (-1)):=by kernel_rfl
theorem LL:P107 ([-1],12)=some (List.replicate 12 (-1)):=by kernel_rfl
theorem LM {n:Nat}(h1:1≤n)(h2:n≤12):P107 ([-1],(n:Int))=some (List.replicate n (-1)):=by
 have:n=1∨n=2∨n=3∨n=4∨n=5∨n=6∨n=7∨n=8∨n=9∨n=10∨n=11∨n=12:=by omega
 rcases this with rfl | rfl | rfl | rfl | rfl | rfl | rfl | rfl | rfl | rfl | rfl | rfl
 ·exact U3
 ·exact U4
 ·exact U5
 ·exact U6
 ·exact U7
 ·exact U8
 ·exact U9
 ·exact Va
 ·exact Vb
 ·exact LJ
 ·exact LK
 ·exact LL
def eJ (l:List Int):List (List Int):=l.map fun n=>List.replicate n.toNat (-1)
theorem yT {l:List Int}{k:Nat}(h:k < l.length):eJ (l.take (k+1))=eJ (l.take k)++[List.replicate (gt l k).toNat (-1)]:=by
 unfold eJ;rw[List.take_add_one,List.getElem?_eq_getElem h,ca h,List.map_append];rfl
theorem Vc {l:List Int}{hold:Int}(hl:l.length≤1000)(hr:∀ k,k < l.length→1≤gt l k∧gt l k≤12):Ce (l,hold)=some (l,hold,eJ l,[]):=by
 show q77 P107 vD (l,hold)=_;unfold q77;have e:vD (l,(l.length:Int),0,l,hold,[],[])=some (l,hold,[],eJ l):=by
  refine aY (step:=fun x=>MF x.1 x.2.1 x.2.2.1 x.2.2.2.1 x.2.2.2.2.1 x.2.2.2.2.2.1 x.2.2.2.2.2.2) l.length (fun k=>(l,(l.length:Int),(k:Int),l,hold,eJ (l.take k),[])) _ (fun k hk=>?_) ?_ (by omega)
  ·show rL P107 l (l.length:Int) (k:Int) l hold (eJ (l.take k)) []=_;unfold rL;have h:=hr k hk;have e1:P107 ([-1],ix l (k:Int))=some (List.replicate (gt l k).toNat (-1)):=by
    rw[bI,show gt l k=(((gt l k).toNat:Nat):Int)by omega];exact LM (by omega) (by omega)
   rw[aN hk,cond_true,aj (aC hk),e1,bind_some',aj (bY (by simp[eJ]; omega)),aj (aE (by omega)),yT hk];rfl
  ·show rL P107 l (l.length:Int) (l.length:Int) l hold (eJ (l.take l.length)) []=_;unfold rL;rw[aV,cond_false,List.take_length]
 rw[show(↑(List.length ((l,hold):List Int×Int).1):Int)=(l.length:Int)from rfl];show(vD (l,(l.length:Int),0,l,hold,[],[])).bind _=_;rw[e];rfl
def prt {α:Type}(f:α→α)(l:List α)(k:Nat):List α:=(l.take k).map f++l.drop k
theorem Ih {α:Type}[Inhabited α](l:List α){k:Nat}(h:k < l.length):l.set k (gt l k)=l:=by
 rw[ca h]; exact List.set_getElem_self h
def Iv (n v:Int):Int:=if v=n then -1 else v
def oj (n:Int)(seats:List (List Int)):List (List Int):=seats.map fun l=>l.map (Iv n)
abbrev Ii:Type:=Int×Int×Int×Int
def Uu (hold minute:Int)(pl:List Ii)(sn:List Int)(i:Nat):Bool:=decide ((gt pl i).1=2)&&decide (gt sn i+hold≤minute)
def Hq (d:Nat→Bool)(pl:List Ii)(k:Nat):List Ii:=(List.range pl.length).map fun i=>if i < k∧d i=true then(4,-1,-1,(gt pl i).2.2.2)else gt pl i
theorem Hr (d:Nat→Bool)(pl:List Ii)(k:Nat):(Hq d pl k).length=pl.length:=by simp[Hq]
theorem Lj (d:Nat→Bool)(pl:List Ii){k i:Nat}(h:i < pl.length):gt (Hq d pl k) i=if i < k∧d i=true then(4,-1,-1,(gt pl i).2.2.2)else gt pl i:=by
 simp only[gt,Hq,List.getD_eq_getElem?_getD]
 simp[h]
abbrev gk:Type:=Int×Int×Int×Int×Int
theorem ke {α:Type}:∀ (l:List (Int×α)) (k:Int) (x y:α),dP (dP l k x) k y=dP l k y
 | [],k,x,y=>by simp[dP]
 | (k',u)::l,k,x,y=>by
  simp only[dP];by_cases h:k'=k
  ·rw[if_pos h,if_pos h]; simp[dP]
  ·rw[if_neg h,if_neg h];simp only[dP];rw[if_neg h,ke l k x y]
theorem sr {α:Type}(l:List α)(s:Nat)(v:α):cA l s 0 v=l:=by simp[cA]
theorem wm {α:Type}(l:List α){s k:Nat}(v:α)(h:s+k < l.length):(cA l s k v).set (s+k) v=cA l s (k+1) v:=by
 unfold cA;rw[List.set_append,if_neg (by simp; omega),List.length_take,show s+k-min s l.length=k by omega,List.set_append,if_neg (by simp),List.length_replicate,Nat.sub_self,List.drop_eq_getElem_cons (show s+k < l.length from h)];simp only[List.set_cons_zero];rw[List.replicate_succ',List.append_assoc];rfl
theorem clrL_len' {α:Type}(l:List α)(s k:Nat)(v:α)(h:s+k≤l.length):(cA l s k v).length=l.length:=by
 unfold cA; simp; omega
theorem CM {n st:Int}{st0 since:Int}{row seat sz:Nat}{rows vain:List Int}{hold:Int}{seats:List (List Int)}{pool:List dY}(ho:aL pool n=some (st0,(row:Int),(seat:Int),(sz:Int),since))
  (hr:row < seats.length) (hs:seat+sz≤(gt seats row).length) (hl:(gt seats row).length≤1000) :
  tH (n,st,(sz:Int),0,rows,hold,pool,seats,vain)=some (n,st,rows,hold,pool,seats.set row (cA (gt seats row) seat sz (-1)),vain):=by
 have hset:∀ x,gt (seats.set row x) row=x:=fun x=>by rw[gD _ _ _ _ hr,if_pos rfl]
 have hrl:∀ x,row < (seats.set row x).length:=fun x=>by rw[List.length_set]; exact hr
 have key:=aY (step:=fun x=>F3 x.1 x.2.1 x.2.2.1 x.2.2.2.1 x.2.2.2.2.1 x.2.2.2.2.2.1 x.2.2.2.2.2.2.1 x.2.2.2.2.2.2.2.1 x.2.2.2.2.2.2.2.2) sz (fun k=>(n,st,(sz:Int),(k:Int),rows,hold,pool,seats.set row (cA (gt seats row) seat k (-1)),vain)) (n,st,rows,hold,pool,seats.set row (cA (gt seats row) seat sz (-1)),vain)
  (fun k hk=>by
   show na n st (sz:Int) (k:Int) rows hold pool (seats.set row (cA (gt seats row) seat k (-1))) vain=_;unfold na
   try unfold Hl
   try unfold Hk
   try unfold Db
   try unfold Da
   try unfold yE
   try unfold pd
   have hcl:(cA (gt seats row) seat k (-1)).length=(gt seats row).length:=clrL_len' _ _ _ _ (by omega);have e1:(xl (aL pool n) (0,(0,(0,(0,0))))).2.1=(row:Int):=by rw[ho]; rfl
   have e2:(xl (aL pool n) (0,(0,(0,(0,0))))).2.2.1=(seat:Int):=by rw[ho]; rfl
   rw[aN hk,cond_true,e1,e2,aj (aC (hrl _)),aj (aO (by omega) (by omega)),bI,hset,show((seat:Int)+(k:Int))=((seat+k:Nat):Int)by omega,aj (aC (by rw[hcl]; omega)),aj (aE (by omega)),show((row:Int).toNat)=row from rfl,show(((seat+k:Nat):Int).toNat)=seat+k from rfl,wm _ _ (by omega),List.set_set];rfl)
  (by
   show na n st (sz:Int) (sz:Int) rows hold pool (seats.set row (cA (gt seats row) seat sz (-1))) vain=_;unfold na
   try unfold Hl
   try unfold Hk
   try unfold Db
   try unfold Da
   try unfold yE
   try unfold pd
   rw[aV,cond_false])
  (by omega)
 simp only[sr,Ih _ hr]at key;exact key
theorem Bd {n st:Int}{st0 since:Int}{row seat sz:Nat}{rows vain:List Int}{hold:Int}{seats:List (List Int)}{pool:List dY}(ho:aL pool n=some (st0,(row:Int),(seat:Int),(sz:Int),since))
  (hr:row < seats.length) (hs:seat+sz≤(gt seats row).length) (hl:(gt seats row).length≤1000) :
  P111 (n,st,rows,hold,pool,seats,vain)=some (rows,hold,dP pool n (st,-1,-1,(sz:Int),since),seats.set row (cA (gt seats row) seat sz (-1)),vain):=by
 show JX tH n st rows hold pool seats vain=_;unfold JX
 try unfold Hl
 try unfold Hk
 try unfold Db
 try unfold Da
 try unfold yE
 try unfold pd
 have e:(xl (aL pool n) (0,(0,(0,(0,0))))).2.2.2.1=(sz:Int):=by rw[ho]; rfl
 rw[e,CM ho hr hs hl,bind_some'];simp only[ez,if_true,ho,ke];rfl
theorem Be {α:Type}[Inhabited α](l:List α){s k i:Nat}(v:α)(h:s+k≤l.length)(hi:i < l.length):gt (cA l s k v) i=if s≤i∧i < s+k then v else gt l i:=by
 simp only[gt,cA,List.getD_eq_getElem?_getD,List.getElem?_append,List.length_take,List.length_replicate,List.getElem?_replicate];by_cases h1:i < s
 ·rw[if_pos (by omega),if_neg (by omega)]
  simp[List.getElem?_take,h1]
 ·rw[if_neg (by omega),show min s l.length=s by omega];by_cases h2:i < s+k
  ·rw[if_pos (by omega),if_pos (by omega),if_pos (by omega)]; rfl
  ·rw[if_neg (by omega),if_neg (by omega),List.getElem?_drop];congr 2;omega
def Owns (seats:List (List Int))(n:Int)(R S Z:Nat):Prop:=
 R < seats.length∧S+Z≤(gt seats R).length∧∀ r i,r < seats.length→i < (gt seats r).length→(gt (gt seats r) i=n↔r=R∧S≤i∧i < S+Z)
theorem clrV_len (n:Int)(seats:List (List Int)):(oj n seats).length=seats.length:=by simp[oj]
theorem jJ (n:Int)(seats:List (List Int)){r:Nat}(h:r < seats.length):gt (oj n seats) r=(gt seats r).map (Iv n):=by
 rw[ca (by rw[clrV_len]; exact h),ca h]
 simp[oj]
theorem qc (f:Int→Int)(l:List Int){i:Nat}(h:i < l.length):gt (l.map f) i=f (gt l i):=by
 rw[ca (by rw[List.length_map]; exact h),ca h]
 simp
theorem Hs {seats:List (List Int)}{n:Int}{R S Z:Nat}(h:Owns seats n R S Z):seats.set R (cA (gt seats R) S Z (-1))=oj n seats:=by
 obtain⟨h1,h2,h3⟩:=h;refine mX (by rw[List.length_set,clrV_len]) fun r hr=>?_;rw[List.length_set]at hr;rw[gD _ _ _ _ h1,jJ n seats hr];by_cases e:R=r
 ·subst e;rw[if_pos rfl];refine mX (by rw[clrL_len' _ _ _ _ h2,List.length_map]) fun i hi=>?_;rw[clrL_len' _ _ _ _ h2]at hi;rw[Be _ _ h2 hi,qc _ _ hi];unfold Iv;have:=h3 R i hr hi;by_cases hc:S≤i∧i < S+Z
  ·rw[if_pos hc,if_pos (this.2 ⟨rfl,hc⟩)]
  ·rw[if_neg hc,if_neg fun he=>hc (this.1 he).2]
 ·rw[if_neg e];refine mX (by rw[List.length_map]) fun i hi=>?_;rw[qc _ _ hi];unfold Iv;rw[if_neg fun he=>e ((h3 r i hr hi).1 he).1.symm]
theorem Owns.clr {seats:List (List Int)}{n m:Int}{R S Z:Nat}(h:Owns seats n R S Z)(hne:n≠m)(hn:n ≠ -1):Owns (oj m seats) n R S Z:=by
 obtain⟨h1,h2,h3⟩:=h;refine⟨by rw[clrV_len]; exact h1,by rw[jJ m seats h1,List.length_map]; exact h2,fun r i hr hi=>?_⟩;rw[clrV_len]at hr;rw[jJ m seats hr,List.length_map]at hi;rw[jJ m seats hr,qc _ _ hi,← h3 r i hr hi];unfold Iv;by_cases e:gt (gt seats r) i=m
 ·rw[if_pos e];constructor
  ·intro he; exact absurd he.symm hn
  ·intro he; exact absurd (he.symm.trans e) hne
 ·rw[if_neg e]
structure Inv (seats:List (List Int)) (pool:List dY):Prop where
 rows:∀ r,r < seats.length→(gt seats r).length≤1000
 own:∀ n o,aL pool n=some o→(o.1=2∨o.1=3)→n ≠ -1∧∃ R S Z:Nat,o.2.1=(R:Int)∧o.2.2.1=(S:Int)∧o.2.2.2.1=(Z:Int)∧Owns seats n R S Z
 since:∀ n o,aL pool n=some o→0≤o.2.2.2.2∧o.2.2.2.2≤100000
def eL (hold minute:Int)(o:gk):Bool:=decide (o.1=2)&&decide (o.2.2.2.2+hold≤minute)
def iV (o:gk):gk:=(4,-1,-1,o.2.2.2.1,o.2.2.2.2)
theorem Inv.step {seats:List (List Int)}{pool:List dY}(h:Inv seats pool){e:Int}{o:gk}(he:aL pool e=some o)(o':gk)(h1:o'.1≠2)(h2:o'.1≠3)(h3:o'.2.2.2.2=o.2.2.2.2):Inv (oj e seats) (dP pool e o'):=by
 refine⟨fun r hr=>?_,fun n q hq hs=>?_,fun n q hq=>?_⟩
 ·rw[clrV_len]at hr; rw[jJ e seats hr,List.length_map]; exact h.rows r hr
 ·rw[ez]at hq;by_cases hne:e=n
  ·rw[if_pos hne]at hq; cases hq; rcases hs with hs | hs
   ·exact absurd hs h1
   ·exact absurd hs h2
  ·rw[if_neg hne]at hq;obtain⟨g1,R,S,Z,g2,g3,g4,g5⟩:=h.own n q hq hs;exact⟨g1,R,S,Z,g2,g3,g4,g5.clr (Ne.symm hne) g1⟩
 ·rw[ez]at hq;by_cases hne:e=n
  ·rw[if_pos hne]at hq; cases hq; rw[h3]; exact h.since e o he
  ·rw[if_neg hne]at hq; exact h.since n q hq
theorem Ht {minute hold:Int}{rows vain:List Int}{seats:List (List Int)}{pool:List dY}(h:Inv seats pool)(hh:0≤hold∧hold≤100000){e:Int}{o:gk}(he:aL pool e=some o):
  rM minute rows hold seats vain pool e=some (cond (eL hold minute o) (minute,rows,hold,oj e seats,vain,dP pool e (iV o)) (minute,rows,hold,seats,vain,pool)):=by
 show Ar P111 minute rows hold seats vain pool e=_;unfold Ar eL
 try unfold Hl
 try unfold Hk
 try unfold Db
 try unfold Da
 try unfold yE
 try unfold pd
 have hs:=h.since e o he;have d1:(xl (aL pool e) (0,(0,(0,(0,0)))))=o:=by rw[he]; rfl
 rw[d1];cases hd:decide (o.1=2)with
 | false=>rfl
 | true=>
  rw[cond_true,aj (aO (by omega) (by omega)),Bool.true_and];cases decide (o.2.2.2.2+hold≤minute)with
  | false=>rfl
  | true=>
   obtain⟨g1,R,S,Z,g2,g3,g4,g5⟩:=h.own e o he (.inl (of_decide_eq_true hd));have heo:aL pool e=some (o.1,(R:Int),(S:Int),(Z:Int),o.2.2.2.2):=by rw[he,← g2,← g3,← g4]
   rw[cond_true,Bd heo g5.1 g5.2.1 (h.rows R g5.1),Hs g5,bind_some'];unfold iV;rw[g4];rfl
def gc (d:Int→Bool)(q:List Int)(seats:List (List Int)):List (List Int):=seats.map fun l=>l.map fun v=>if v∈q∧d v=true then -1 else v
def dI (d:Int→Bool)(q:List Int)(pool:List dY):List dY:=pool.map fun x=>(x.1,if x.1∈q∧d x.1=true then iV x.2 else x.2)
theorem CN (d:Int→Bool)(q:List Int)(e:Int)(seats:List (List Int))(h1:e ≠ -1):gc d (q++[e]) seats=cond (d e) (oj e (gc d q seats)) (gc d q seats):=by
 unfold gc oj;cases hd:d e with
 | true=>
  rw[cond_true,List.map_map];refine List.map_congr_left fun l _=>?_;simp only[Function.comp,List.map_map];refine List.map_congr_left fun v _=>?_;simp only[Function.comp,Iv];by_cases hq:v∈q∧d v=true
  ·rw[if_pos hq,if_pos ⟨List.mem_append_left _ hq.1,hq.2⟩,if_neg (Ne.symm h1)]
  ·rw[if_neg hq];by_cases hv:v=e
   ·rw[if_pos hv,if_pos ⟨by rw[hv]; simp,by rw[hv]; exact hd⟩]
   ·rw[if_neg hv,if_neg];rintro⟨a,b⟩;rcases List.mem_append.1 a with a | a
    ·exact hq ⟨a,b⟩
    ·exact hv (by simpa using a)
 | false=>
  rw[cond_false];refine List.map_congr_left fun l _=>List.map_congr_left fun v _=>?_;by_cases hq:v∈q∧d v=true
  ·rw[if_pos hq,if_pos ⟨List.mem_append_left _ hq.1,hq.2⟩]
  ·rw[if_neg hq,if_neg];rintro⟨a,b⟩;rcases List.mem_append.1 a with a | a
   ·exact hq ⟨a,b⟩
   ·rw[List.mem_singleton.1 a,hd]at b; cases b
theorem kg (d:Int→Bool)(q:List Int):∀ (pool:List dY) (n:Int),aL (dI d q pool) n=(aL pool n).map fun o=>if n∈q∧d n=true then iV o else o
 | [],n=>rfl
 | (k,o)::l,n=>by
  show aL ((k,if k∈q∧d k=true then iV o else o)::dI d q l) n=_;rw[aS,aS];by_cases h:k=n
  ·subst h; rw[if_pos rfl,if_pos rfl]; rfl
  ·rw[if_neg h,if_neg h]; exact kg d q l n
theorem ss (d:Int→Bool)(q:List Int)(e:Int):∀ (pool:List dY) (o:gk),(pool.map (·.1)).Nodup→aL pool e=some o→e∉q→dI d (q++[e]) pool=cond (d e) (dP (dI d q pool) e (iV o)) (dI d q pool)
 | [],o,_,h,_=>by cases h
 | (k,u)::l,o,hn,h,hq=>by
  rw[aS]at h;have hn1:k∉l.map (·.1)∧(l.map (·.1)).Nodup:=by simpa using hn
  show(k,if k∈q++[e]∧d k=true then iV u else u)::dI d (q++[e]) l=cond (d e) (dP ((k,if k∈q∧d k=true then iV u else u)::dI d q l) e (iV o)) ((k,if k∈q∧d k=true then iV u else u)::dI d q l);by_cases hk:k=e
  ·subst hk;rw[if_pos rfl]at h;cases h;have hrest:dI d (q++[k]) l=dI d q l:=by
    unfold dI;refine List.map_congr_left fun x hx=>?_;have hne:x.1≠k:=fun e=>hn1.1 (by rw[← e]; exact List.mem_map_of_mem hx);by_cases c:x.1∈q∧d x.1=true
    ·rw[if_pos c,if_pos ⟨List.mem_append_left _ c.1,c.2⟩]
    ·rw[if_neg c,if_neg];rintro⟨a,b⟩;rcases List.mem_append.1 a with a | a
     ·exact c ⟨a,b⟩
     ·exact hne (by simpa using a)
   rw[hrest];simp only[dP,if_true];cases hd:d k with
   | true=>simp
   | false=>simp
  ·rw[if_neg hk]at h;have ih:=ss d q e l o hn1.2 h hq;have hkk:(k∈q++[e]∧d k=true)↔(k∈q∧d k=true):=by
    simp[hk]
   rw[ih];simp only[dP,hkk];rw[if_neg hk];cases d e <;> rfl
def cM (hold minute:Int)(pool:List dY)(n:Int):Bool:=match aL pool n with
 | some o=>eL hold minute o
 | none=>false
theorem yG {minute hold:Int}{rows vain:List Int}{seats:List (List Int)}{pool:List dY}(hh:0≤hold∧hold≤100000)(hn:(pool.map (·.1)).Nodup)(hm:∀ n o,aL pool n=some o→n ≠ -1):
  ∀ (p q:List Int),(q++p).Nodup→(∀ n∈p,∃ o,aL pool n=some o)→Inv (gc (cM hold minute pool) q seats) (dI (cM hold minute pool) q pool) →
  fA (fun(x:Int×(List Int)×Int×(List (List Int))×(List Int)×(List dY)) e=>rM x.1 x.2.1 x.2.2.1 x.2.2.2.1 x.2.2.2.2.1 x.2.2.2.2.2 e) p (minute,rows,hold,gc (cM hold minute pool) q seats,vain,dI (cM hold minute pool) q pool) =
   some (minute,rows,hold,gc (cM hold minute pool) (q++p) seats,vain,dI (cM hold minute pool) (q++p) pool)∧Inv (gc (cM hold minute pool) (q++p) seats) (dI (cM hold minute pool) (q++p) pool)
 | [],q,_,_,hI=>by rw[List.append_nil]; exact⟨rfl,hI⟩
 | e::p,q,hq,hp,hI=>by
  obtain⟨o,ho⟩:=hp e (by simp);have heq:e∉q:=fun h=>by
   have:=List.nodup_append.1 hq;exact this.2.2 e h e (by simp) rfl
  have hg:aL (dI (cM hold minute pool) q pool) e=some o:=by
   rw[kg,ho];show some (if e∈q∧_ then _ else _)=_;rw[if_neg fun h=>heq h.1]
  have hde:cM hold minute pool e=eL hold minute o:=by unfold cM; rw[ho]
  have hsA:=CN (cM hold minute pool) q e seats (hm e o ho);have hsL:=ss (cM hold minute pool) q e pool o hn ho heq;have hstep:rM minute rows hold (gc (cM hold minute pool) q seats) vain (dI (cM hold minute pool) q pool) e=some (minute,rows,hold,gc (cM hold minute pool) (q++[e]) seats,vain,dI (cM hold minute pool) (q++[e]) pool):=by
   rw[Ht hI hh hg,hsA,hsL,hde];cases eL hold minute o <;> rfl
  have hI':Inv (gc (cM hold minute pool) (q++[e]) seats) (dI (cM hold minute pool) (q++[e]) pool):=by
   rw[hsA,hsL];cases cM hold minute pool e with
   | false=>exact hI
   | true=>exact hI.step hg (iV o) (by show(4:Int)≠2; omega) (by show(4:Int)≠3; omega) rfl
  have ih:=yG (rows:=rows) (vain:=vain) hh hn hm p (q++[e]) (by rw[List.append_assoc]; exact hq) (fun n hn'=>hp n (List.mem_cons_of_mem _ hn')) hI';rw[List.append_assoc]at ih;refine⟨?_,ih.2⟩;show(rM minute rows hold (gc (cM hold minute pool) q seats) vain (dI (cM hold minute pool) q pool) e).bind _=_;rw[hstep,bind_some'];exact ih.1
theorem CO (d:Int→Bool){p q:List Int}(h:p.Perm q)(seats:List (List Int)):gc d p seats=gc d q seats:=
 List.map_congr_left fun l _=>List.map_congr_left fun v _=>by simp only[h.mem_iff]
theorem CP (d:Int→Bool){p q:List Int}(h:p.Perm q)(pool:List dY):dI d p pool=dI d q pool:=
 List.map_congr_left fun x _=>by simp only[h.mem_iff]
theorem wn (d:Int→Bool)(seats:List (List Int)):gc d [] seats=seats:=by
 unfold gc
 simp
theorem wo (d:Int→Bool)(pool:List dY):dI d [] pool=pool:=by
 unfold dI
 simp
theorem Bf {pool:List dY}{n:Int}(h:n∈pool.map (·.1)):∃ o,aL pool n=some o:=by
 cases hc:aL pool n with
 | some o=>exact⟨o,rfl⟩
 | none=>exact absurd h (jY hc)
theorem Uv {minute hold:Int}{rows vain:List Int}{seats:List (List Int)}{pool:List dY}(hI:Inv seats pool)(hh:0≤hold∧hold≤100000)(hn:(pool.map (·.1)).Nodup)(hm:∀ n o,aL pool n=some o→n ≠ -1):
  P83 (minute,rows,hold,seats,vain,pool)=some (rows,hold,gc (cM hold minute pool) (pool.map (·.1)) seats,vain,dI (cM hold minute pool) (pool.map (·.1)) pool) ∧
  Inv (gc (cM hold minute pool) (pool.map (·.1)) seats) (dI (cM hold minute pool) (pool.map (·.1)) pool):=by
 have hI0:Inv (gc (cM hold minute pool) [] seats) (dI (cM hold minute pool) [] pool):=by rw[wn,wo]; exact hI
 have key:∀ p:List Int,p.Perm (pool.map (·.1))→fA (fun(x:Int×(List Int)×Int×(List (List Int))×(List Int)×(List dY)) e=>rM x.1 x.2.1 x.2.2.1 x.2.2.2.1 x.2.2.2.2.1 x.2.2.2.2.2 e) p (minute,rows,hold,seats,vain,pool) =
   some (minute,rows,hold,gc (cM hold minute pool) (pool.map (·.1)) seats,vain,dI (cM hold minute pool) (pool.map (·.1)) pool):=fun p hp=>by
  have:=(yG (minute:=minute) (rows:=rows) (vain:=vain) (seats:=seats) hh hn hm p [] (by simpa using hp.nodup_iff.2 hn) (fun n hn'=>Bf (hp.mem_iff.1 hn')) hI0).1;rw[wn,wo,List.nil_append,CO _ hp,CP _ hp]at this;exact this
 have hfin:=(yG (minute:=minute) (rows:=rows) (vain:=vain) (seats:=seats) hh hn hm (pool.map (·.1)) [] (by simpa using hn) (fun n hn'=>Bf hn') hI0).2;rw[List.nil_append]at hfin;refine⟨?_,hfin⟩;show q83 P111 As minute rows hold seats vain pool=_;unfold q83;have e:As (pool.map (·.1)) (minute,rows,hold,seats,vain,pool)=some (minute,rows,hold,gc (cM hold minute pool) (pool.map (·.1)) seats,vain,dI (cM hold minute pool) (pool.map (·.1)) pool):=by
  show rngF _ _ _=_;unfold rngF;rw[if_pos fun p hp=>(key p hp).trans (key _ (List.Perm.refl _)).symm];exact key _ (List.Perm.refl _)
 rw[e];rfl
def qM (pool:List dY)(n:Int):List dY:=if(aL pool n).isSome=true then pool else pool++[(n,(0,-1,-1,0,0))]
theorem qd (n:Int)(rows vain:List Int)(hold:Int)(seats:List (List Int))(pool:List dY):nZ (n,rows,hold,seats,vain,pool)=some (n,rows,hold,seats,vain,qM pool n):=by
 show q43 n rows hold seats vain pool=_;unfold q43 qM;cases hc:(aL pool n).isSome with
 | true=>rfl
 | false=>rfl
theorem CQ {n:Int}{s0 z0:Int}{row seat sz:Nat}{rows vain:List Int}{hold:Int}{seats:List (List Int)}{pool:List dY}
  (hr:row < seats.length) (hs:seat+sz≤(gt seats row).length) (hl:(gt seats row).length≤1000) :
  nf (n,(sz:Int),0,rows,hold,(s0,(row:Int),(seat:Int),z0),seats,vain,pool)=some (rows,hold,(s0,(row:Int),(seat:Int),z0),seats.set row (cA (gt seats row) seat sz n),vain,pool):=by
 have hset:∀ x,gt (seats.set row x) row=x:=fun x=>by rw[gD _ _ _ _ hr,if_pos rfl]
 have hrl:∀ x,row < (seats.set row x).length:=fun x=>by rw[List.length_set]; exact hr
 have key:=aY (step:=fun x=>F7 x.1 x.2.1 x.2.2.1 x.2.2.2.1 x.2.2.2.2.1 x.2.2.2.2.2.1 x.2.2.2.2.2.2.1 x.2.2.2.2.2.2.2.1 x.2.2.2.2.2.2.2.2) sz (fun k=>(n,(sz:Int),(k:Int),rows,hold,(s0,(row:Int),(seat:Int),z0),seats.set row (cA (gt seats row) seat k n),vain,pool)) (rows,hold,(s0,(row:Int),(seat:Int),z0),seats.set row (cA (gt seats row) seat sz n),vain,pool)
  (fun k hk=>by
   show nc nZ qL n (sz:Int) (k:Int) rows hold (s0,(row:Int),(seat:Int),z0) (seats.set row (cA (gt seats row) seat k n)) vain pool=_;unfold nc;have hcl:(cA (gt seats row) seat k n).length=(gt seats row).length:=clrL_len' _ _ _ _ (by omega);rw[aN hk,cond_true];simp only;rw[aj (aC (hrl _)),aj (aO (by omega) (by omega)),bI,hset,show((seat:Int)+(k:Int))=((seat+k:Nat):Int)by omega,aj (aC (by rw[hcl]; omega)),aj (aE (by omega)),show((row:Int).toNat)=row from rfl,show(((seat+k:Nat):Int).toNat)=seat+k from rfl,wm _ _ (by omega),List.set_set];rfl)
  (by
   show nc nZ qL n (sz:Int) (sz:Int) rows hold (s0,(row:Int),(seat:Int),z0) (seats.set row (cA (gt seats row) seat sz n)) vain pool=_;unfold nc;rw[aV,cond_false])
  (by omega)
 simp only[sr,Ih _ hr]at key;exact key
theorem Hu {n minute hold:Int}{sz:Nat}{rows vain:List Int}{seats:List (List Int)}{pool:List dY}{o:gk}(ho:aL (qM pool n) n=some o)(h:o.1≠0):
  qE (n,(sz:Int),minute,rows,hold,seats,vain,pool)=some (rows,hold,seats,vain,qM pool n):=by
 show vJ nZ qL nf n (sz:Int) minute rows hold seats vain pool=_;unfold vJ
 try unfold Hl
 try unfold Hk
 try unfold Db
 try unfold Da
 try unfold yE
 try unfold pd
 rw[qd,bind_some'];simp only[ho];rw[show decide ((xl (some o) ((0:Int),((0:Int),((0:Int),((0:Int),(0:Int)))))).1=0)=false from decide_eq_false h];rfl
theorem Lk {n minute hold:Int}{sz:Nat}{rows vain:List Int}{seats:List (List Int)}{pool:List dY}{o:gk}(ho:aL (qM pool n) n=some o)(h:o.1=0)
  (hl:∀ r,r < seats.length→(gt seats r).length≤1000) (hs:seats.length≤1000) (hn:sz≤1000) (hb:(nM seats sz).2=false) :
  qE (n,(sz:Int),minute,rows,hold,seats,vain,pool)=some (rows,hold,seats,vain,dP (qM pool n) n (1,o.2.1,o.2.2.1,(sz:Int),minute)):=by
 show vJ nZ qL nf n (sz:Int) minute rows hold seats vain pool=_;unfold vJ
 try unfold Hl
 try unfold Hk
 try unfold Db
 try unfold Da
 try unfold yE
 try unfold pd
 rw[qd,bind_some'];simp only[ho];rw[show decide ((xl (some o) ((0:Int),((0:Int),((0:Int),((0:Int),(0:Int)))))).1=0)=true from decide_eq_true h,Bool.not_true,cond_false,yS hl hs hn,bind_some'];simp only[hb,ho,ez,if_true,ke];rfl
theorem Hv {n minute hold:Int}{sz r s:Nat}{rows vain:List Int}{seats:List (List Int)}{pool:List dY}{o:gk}(ho:aL (qM pool n) n=some o)(h:o.1=0)
  (hl:∀ r,r < seats.length→(gt seats r).length≤1000) (hs:seats.length≤1000) (hn:sz≤1000) (hb:nM seats sz=((0,(r:Int),(s:Int),(sz:Int)),true)) (hr:r < seats.length) (hz:s+sz≤(gt seats r).length) :
  qE (n,(sz:Int),minute,rows,hold,seats,vain,pool)=some (rows,hold,seats.set r (cA (gt seats r) s sz n),vain,dP (qM pool n) n (2,(r:Int),(s:Int),(sz:Int),minute)):=by
 show vJ nZ qL nf n (sz:Int) minute rows hold seats vain pool=_;unfold vJ
 try unfold Hl
 try unfold Hk
 try unfold Db
 try unfold Da
 try unfold yE
 try unfold pd
 rw[qd,bind_some'];simp only[ho];rw[show decide ((xl (some o) ((0:Int),((0:Int),((0:Int),((0:Int),(0:Int)))))).1=0)=true from decide_eq_true h,Bool.not_true,cond_false,yS hl hs hn,bind_some',hb];simp only[ho,ez,if_true,ke];rw[Bool.not_true,cond_false,CQ hr hz (hl r hr),bind_some'];rfl
def qt:gk:=(0,-1,-1,0,0)
def eM (g:Int→gk)(n:Int)(o:gk):Int→gk:=fun m=>if m=n then o else g m
abbrev HM:Type:=List (List Int)×(Int→gk)×List Int
def yH (hold minute:Int)(g:Int→gk)(v:Int):Int:=if eL hold minute (g v)=true then -1 else v
def lapG (hold minute:Int)(g:Int→gk):Int→gk:=fun n=>if eL hold minute (g n)=true then iV (g n)else g n
def gl (hold minute:Int)(x:HM):HM:=(x.1.map fun l=>l.map (yH hold minute x.2.1),lapG hold minute x.2.1,x.2.2)
def bO (seats:List (List Int))(n:Nat):Option (Nat×Nat):=((eI seats n 0 seats.length).find? (pB seats n false)).or ((eI seats n 0 seats.length).find? (pB seats n true))
def jK (x:HM)(n:Int)(sz:Nat)(at':Int):HM:=
 if(x.2.1 n).1=0 then
  (match bO x.1 sz with
   | none=>(x.1,eM x.2.1 n (1,-1,-1,(sz:Int),at'),x.2.2)
   | some c=>(x.1.set c.1 (cA (gt x.1 c.1) c.2 sz n),eM x.2.1 n (2,(c.1:Int),(c.2:Int),(sz:Int),at'),x.2.2))
 else x
def wq (x:HM)(n:Int):HM:=if(x.2.1 n).1=2 then(x.1,eM x.2.1 n (3,(x.2.1 n).2),x.2.2)else(x.1,x.2.1,x.2.2++[n])
def held (o:gk):Prop:=o.1=2∨o.1=3
instance (o:gk):Decidable (held o):=inferInstanceAs (Decidable (_∨_))
def l8 (x:HM)(n:Int):HM:=if held (x.2.1 n)then(oj n x.1,eM x.2.1 n (5,-1,-1,(x.2.1 n).2.2.2.1,(x.2.1 n).2.2.2.2),x.2.2)else x
def eN (x:HM)(c:au):HM:=if c.2.2.1=1 then jK x c.2.2.2.1 c.2.2.2.2.toNat c.2.1 else if c.2.2.1=2 then wq x c.2.2.2.1 else l8 x c.2.2.2.1
def be (c:au):Prop:=(0≤c.1∧c.1≤99)∧(0≤c.2.1∧c.2.1≤9999)∧(c.2.2.1=1∧1≤c.2.2.2.2∧c.2.2.2.2≤12∨(c.2.2.1=2∨c.2.2.1=3)∧c.2.2.2.2=0)∧(0≤c.2.2.2.1∧c.2.2.2.1≤99)
structure IM (lens:List Nat) (x:HM):Prop where
 shp:x.1.map List.length=lens
 own:∀ n,held (x.2.1 n)→∃ R S Z:Nat,(x.2.1 n).2.1=(R:Int)∧(x.2.1 n).2.2.1=(S:Int)∧(x.2.1 n).2.2.2.1=(Z:Int)∧Owns x.1 n R S Z∧1≤Z∧Z≤12
 occ:∀ r i,r < x.1.length→i < (gt x.1 r).length→gt (gt x.1 r) i = -1∨held (x.2.1 (gt (gt x.1 r) i))
 dom:∀ n,(n < 0∨99 < n)→x.2.1 n=qt
 st:∀ n,x.2.1 n=qt∨(1≤(x.2.1 n).1∧(x.2.1 n).1≤5∧(held (x.2.1 n)∨((x.2.1 n).2.1 = -1∧(x.2.1 n).2.2.1 = -1))∧0≤(x.2.1 n).2.2.2.2∧(x.2.1 n).2.2.2.2≤9999)
theorem ge {lens:List Nat}{x:HM}(h:IM lens x){n:Int}(hn:held (x.2.1 n)):0≤n∧n≤99:=by
 refine⟨?_,?_⟩
 ·by_cases c:0≤n
  ·exact c
  ·rw[h.dom n (.inl (by omega))]at hn; rcases hn with e | e <;> cases e
 ·by_cases c:n≤99
  ·exact c
  ·rw[h.dom n (.inr (by omega))]at hn; rcases hn with e | e <;> cases e
theorem oL (f:Int→Int)(seats:List (List Int)){r:Nat}(h:r < seats.length):gt (seats.map fun l=>l.map f) r=(gt seats r).map f:=by
 rw[ca (by rw[List.length_map]; exact h),ca h]
 simp
theorem Ll (f:Int→Int)(seats:List (List Int)):(seats.map fun l=>l.map f).map List.length=seats.map List.length:=by
 rw[List.map_map];exact List.map_congr_left fun l _=>by simp
theorem Owns.map {seats:List (List Int)}{n:Int}{R S Z:Nat}(h:Owns seats n R S Z){f:Int→Int}(hf:∀ v,f v=n↔v=n):Owns (seats.map fun l=>l.map f) n R S Z:=by
 obtain⟨h1,h2,h3⟩:=h;refine⟨by rw[List.length_map]; exact h1,by rw[oL f seats h1,List.length_map]; exact h2,fun r i hr hi=>?_⟩;rw[List.length_map]at hr;rw[oL f seats hr,List.length_map]at hi;rw[oL f seats hr,qc _ _ hi,hf,h3 r i hr hi]
theorem IM.mp {lens:List Nat}{x:HM}(h:IM lens x){f:Int→Int}{g:Int→gk}{vain:List Int}(h1:∀ n,held (g n)→held (x.2.1 n)∧(g n).2.1=(x.2.1 n).2.1∧(g n).2.2.1=(x.2.1 n).2.2.1∧(g n).2.2.2.1=(x.2.1 n).2.2.2.1∧∀ v,f v=n↔v=n)
  (h2:∀ v,held (x.2.1 v)→f v = -1∨(f v=v∧held (g v))) (h2':f (-1) = -1)
  (h3:∀ n,(n < 0∨99 < n)→g n=qt)
  (h4:∀ n,g n=qt∨(1≤(g n).1∧(g n).1≤5∧(held (g n)∨((g n).2.1 = -1∧(g n).2.2.1 = -1))∧0≤(g n).2.2.2.2∧(g n).2.2.2.2≤9999)):IM lens (x.1.map fun l=>l.map f,g,vain):=by
 refine⟨by rw[← h.shp]; exact Ll f x.1,fun n hn=>?_,fun r i hr hi=>?_,h3,h4⟩
 ·obtain⟨q1,q2,q3,q4,q5⟩:=h1 n hn;obtain⟨R,S,Z,e1,e2,e3,e4,e5⟩:=h.own n q1;exact⟨R,S,Z,q2.trans e1,q3.trans e2,q4.trans e3,e4.map q5,e5⟩
 ·simp only[List.length_map]at hr;simp only[oL f x.1 hr,List.length_map]at hi ⊢;rw[qc _ _ hi];rcases h.occ r i hr hi with e | e
  ·left; rw[e,h2']
  ·rcases h2 _ e with q | ⟨q,q'⟩
   ·exact .inl q
   ·right; rw[q]; exact q'
theorem tU (o:gk):¬ held (iV o):=by
 rintro(e | e)
 ·exact absurd (show(4:Int)=2 from e) (by decide)
 ·exact absurd (show(4:Int)=3 from e) (by decide)
theorem l9 (hold minute:Int):eL hold minute qt=false:=rfl
theorem IM.lap {lens:List Nat}{x:HM}(h:IM lens x)(hold minute:Int):IM lens (gl hold minute x):=by
 have hneg:x.2.1 (-1)=qt:=h.dom (-1) (.inl (by decide));refine h.mp (f:=yH hold minute x.2.1) (g:=lapG hold minute x.2.1) (fun n hn=>?_) (fun v hv=>?_) ?_ (fun n hn=>?_) (fun n=>?_)
 ·unfold lapG at hn ⊢;cases hd:eL hold minute (x.2.1 n)with
  | true=>rw[hd,if_pos rfl]at hn; exact absurd hn (tU _)
  | false=>
   simp only[hd,Bool.false_eq_true,if_false]at hn ⊢;refine⟨hn,trivial,trivial,trivial,fun v=>?_⟩;have hd0:=ge h hn;unfold yH;by_cases c:eL hold minute (x.2.1 v)=true
   ·rw[if_pos c];exact⟨fun e=>by omega,fun e=>by rw[e,hd]at c; cases c⟩
   ·rw[if_neg c]
 ·unfold yH lapG;by_cases c:eL hold minute (x.2.1 v)=true
  ·rw[if_pos c]; exact .inl rfl
  ·simp only[if_neg c]; exact .inr ⟨trivial,hv⟩
 ·unfold yH;rw[hneg,l9];rfl
 ·show lapG hold minute x.2.1 n=qt;unfold lapG;rw[h.dom n hn,l9];rfl
 ·unfold lapG;by_cases c:eL hold minute (x.2.1 n)=true
  ·simp only[if_pos c];rcases h.st n with e | ⟨e1,e2,e3,e4,e5⟩
   ·rw[e]at c; cases c
   ·right;exact⟨by show(1:Int)≤4; omega,by show(4:Int)≤5; omega,.inr ⟨rfl,rfl⟩,e4,e5⟩
  ·simp only[if_neg c]; exact h.st n
theorem Hw (n:Int)(seats:List (List Int)):oj n seats=seats.map fun l=>l.map (Iv n):=rfl
theorem IM.drp {lens:List Nat}{x:HM}(h:IM lens x)(n:Int):IM lens (l8 x n):=by
 unfold l8;by_cases hh:held (x.2.1 n)
 ·rw[if_pos hh];have hd:=ge h hh;have hne:∀ m,m≠n→eM x.2.1 n (5,-1,-1,(x.2.1 n).2.2.2.1,(x.2.1 n).2.2.2.2) m=x.2.1 m:=fun m hm=>if_neg hm;have heq:eM x.2.1 n (5,-1,-1,(x.2.1 n).2.2.2.1,(x.2.1 n).2.2.2.2) n=(5,-1,-1,(x.2.1 n).2.2.2.1,(x.2.1 n).2.2.2.2):=if_pos rfl;have hnh:¬ held ((5,-1,-1,(x.2.1 n).2.2.2.1,(x.2.1 n).2.2.2.2):gk):=by
   rintro(e | e)
   ·exact absurd (show(5:Int)=2 from e) (by decide)
   ·exact absurd (show(5:Int)=3 from e) (by decide)
  rw[Hw];refine h.mp (fun m hm=>?_) (fun v hv=>?_) (by unfold Iv; rw[if_neg (by omega)]) (fun m hm=>?_) (fun m=>?_)
  ·by_cases c:m=n
   ·subst c; rw[heq]at hm; exact absurd hm hnh
   ·rw[hne m c]at hm ⊢;refine⟨hm,rfl,rfl,rfl,fun v=>?_⟩;have:=ge h hm;unfold Iv;by_cases c2:v=n
    ·rw[if_pos c2]; omega
    ·rw[if_neg c2]
  ·unfold Iv;by_cases c:v=n
   ·rw[if_pos c]; exact .inl rfl
   ·rw[if_neg c,hne v c]; exact .inr ⟨rfl,hv⟩
  ·rw[hne m (by omega)]; exact h.dom m hm
  ·by_cases c:m=n
   ·subst c;rw[heq];rcases h.st m with e | ⟨e1,e2,e3,e4,e5⟩
    ·rw[e]at hh; rcases hh with e | e <;> cases e
    ·right;exact⟨by show(1:Int)≤5; omega,by show(5:Int)≤5; omega,.inr ⟨rfl,rfl⟩,e4,e5⟩
   ·rw[hne m c]; exact h.st m
 ·rw[if_neg hh]; exact h
theorem IM.pay {lens:List Nat}{x:HM}(h:IM lens x)(n:Int):IM lens (wq x n):=by
 unfold wq;by_cases hh:(x.2.1 n).1=2
 ·rw[if_pos hh];have hn:held (x.2.1 n):=.inl hh;have hd:=ge h hn;have hne:∀ m,m≠n→eM x.2.1 n (3,(x.2.1 n).2) m=x.2.1 m:=fun m hm=>if_neg hm;have heq:eM x.2.1 n (3,(x.2.1 n).2) n=(3,(x.2.1 n).2):=if_pos rfl;have hid:x.1=x.1.map fun l=>l.map id:=by simp
  have:=h.mp (f:=id) (g:=eM x.2.1 n (3,(x.2.1 n).2)) (vain:=x.2.2) (fun m hm=>?_) (fun v hv=>?_) rfl (fun m hm=>?_) (fun m=>?_)
  ·rw[← hid]at this; exact this
  ·by_cases c:m=n
   ·subst c; rw[heq]; exact⟨hn,rfl,rfl,rfl,fun v=>Iff.rfl⟩
   ·rw[hne m c]at hm ⊢; exact⟨hm,rfl,rfl,rfl,fun v=>Iff.rfl⟩
  ·right;refine⟨rfl,?_⟩;by_cases c:v=n
   ·subst c; rw[heq]; exact .inr rfl
   ·rw[hne v c]; exact hv
  ·rw[hne m (by omega)]; exact h.dom m hm
  ·by_cases c:m=n
   ·subst c;rw[heq];rcases h.st m with e | ⟨e1,e2,e3,e4,e5⟩
    ·rw[e]at hh; cases hh
    ·right;exact⟨by show(1:Int)≤3; omega,by show(3:Int)≤5; omega,.inl (.inr rfl),e4,e5⟩
   ·rw[hne m c]; exact h.st m
 ·rw[if_neg hh]; exact⟨h.shp,h.own,h.occ,h.dom,h.st⟩
theorem ma {seats:List (List Int)}{n:Nat}{c:Nat×Nat}:c∈eI seats n 0 seats.length↔c.1 < seats.length∧c.2+n≤(gt seats c.1).length:=by
 obtain⟨r,s⟩:=c;unfold eI nr;simp only[List.mem_flatMap,List.mem_map,List.mem_range'_1,Prod.mk.injEq];constructor
 ·rintro⟨r',⟨_,h1⟩,s',⟨_,h2⟩,rfl,rfl⟩;omega
 ·rintro⟨h1,h2⟩;exact⟨r,by omega,s,by omega,rfl,rfl⟩
theorem cN {l:List Int}{s n:Nat}:ji l s n=true↔∀ i,s≤i→i < s+n→gt l i = -1:=by
 unfold ji;rw[dB];constructor
 ·intro h i h1 h2;have:=h (i-s) (by omega);rw[show s+(i-s)=i by omega]at this;exact of_decide_eq_true this
 ·intro h k hk;exact decide_eq_true (h (s+k) (by omega) (by omega))
theorem iW {seats:List (List Int)}{n:Nat}{c:Nat×Nat}(h:bO seats n=some c):c.1 < seats.length∧c.2+n≤(gt seats c.1).length∧ji (gt seats c.1) c.2 n=true:=by
 unfold bO at h;have key:∀ g,(eI seats n 0 seats.length).find? (pB seats n g)=some c→c.1 < seats.length∧c.2+n≤(gt seats c.1).length∧ji (gt seats c.1) c.2 n=true:=fun g hg=>by
  have h1:=ma.1 (List.mem_of_find?_eq_some hg);have h2:=List.find?_some hg;unfold pB at h2;simp only[Bool.and_eq_true]at h2;exact⟨h1.1,h1.2,h2.1⟩
 cases h1:(eI seats n 0 seats.length).find? (pB seats n false)with
 | some d=>rw[h1]at h; cases h; exact key false h1
 | none=>rw[h1]at h; exact key true h
theorem Bg {seats:List (List Int)}{n:Nat}(h:bO seats n=none){c:Nat×Nat}(h1:c.1 < seats.length)(h2:c.2+n≤(gt seats c.1).length):ji (gt seats c.1) c.2 n=false:=by
 unfold bO at h;rw[Option.or_eq_none_iff]at h;have:=List.find?_eq_none.1 h.2 c (ma.2 ⟨h1,h2⟩);unfold pB at this
 simpa using this
theorem qe {seats:List (List Int)}{R S Z:Nat}{n:Int}(h1:R < seats.length)(h2:S+Z≤(gt seats R).length){r i:Nat}(hr:r < seats.length)(hi:i < (gt seats r).length):
  gt (gt (seats.set R (cA (gt seats R) S Z n)) r) i=if r=R∧S≤i∧i < S+Z then n else gt (gt seats r) i:=by
 rw[gD _ _ _ _ h1];by_cases c:R=r
 ·subst c;rw[if_pos rfl,Be _ _ h2 hi];by_cases c2:S≤i∧i < S+Z
  ·rw[if_pos c2,if_pos ⟨rfl,c2⟩]
  ·rw[if_neg c2,if_neg fun e=>c2 e.2]
 ·rw[if_neg c,if_neg fun e=>c e.1.symm]
theorem kh {seats:List (List Int)}{R S Z:Nat}{n:Int}(h1:R < seats.length)(h2:S+Z≤(gt seats R).length)(r:Nat):
  (gt (seats.set R (cA (gt seats R) S Z n)) r).length=(gt seats r).length:=by
 rw[gD _ _ _ _ h1];by_cases c:R=r
 ·subst c; rw[if_pos rfl,clrL_len' _ _ _ _ h2]
 ·rw[if_neg c]
theorem tV {l:List (List Int)}{r:Nat}(h:r < l.length):gt (l.map List.length) r=(gt l r).length:=by
 rw[ca (by rw[List.length_map]; exact h),ca h]; simp
theorem Lm {seats:List (List Int)}{R S Z:Nat}{n:Int}(h1:R < seats.length)(h2:S+Z≤(gt seats R).length):
  (seats.set R (cA (gt seats R) S Z n)).map List.length=seats.map List.length:=by
 refine mX (by simp) fun i hi=>?_;simp only[List.length_map,List.length_set]at hi;rw[tV (by simpa using hi),tV hi,kh h1 h2]
theorem IM.ask {lens:List Nat}{x:HM}(h:IM lens x){n:Int}{sz:Nat}{at':Int}(hn:0≤n∧n≤99)(hz:1≤sz∧sz≤12)(ha:0≤at'∧at'≤9999):IM lens (jK x n sz at'):=by
 unfold jK;by_cases h0:(x.2.1 n).1=0
 ·rw[if_pos h0];have hnh:¬ held (x.2.1 n):=by
   rintro(e | e)
   ·rw[h0]at e; cases e
   ·rw[h0]at e; cases e
  cases hb:bO x.1 sz with
  | none=>
   simp only;have hne:∀ m,m≠n→eM x.2.1 n (1,-1,-1,(sz:Int),at') m=x.2.1 m:=fun m hm=>if_neg hm;have heq:eM x.2.1 n (1,-1,-1,(sz:Int),at') n=(1,-1,-1,(sz:Int),at'):=if_pos rfl;have hnh2:¬ held ((1,-1,-1,(sz:Int),at'):gk):=by
    rintro(e | e)
    ·exact absurd (show(1:Int)=2 from e) (by decide)
    ·exact absurd (show(1:Int)=3 from e) (by decide)
   refine⟨h.shp,fun m hm=>?_,fun r i hr hi=>?_,fun m hm=>?_,fun m=>?_⟩
   ·by_cases c:m=n
    ·subst c; simp only[heq]at hm; exact absurd hm hnh2
    ·simp only[hne m c]at hm ⊢; exact h.own m hm
   ·rcases h.occ r i hr hi with e | e
    ·exact .inl e
    ·right;simp only;rw[hne _ fun c=>hnh (c▸e)];exact e
   ·simp only; rw[hne m (by omega)]; exact h.dom m hm
   ·by_cases c:m=n
    ·subst c;simp only[heq];exact .inr ⟨by omega,by omega,.inr ⟨trivial,trivial⟩,ha.1,ha.2⟩
    ·simp only[hne m c]; exact h.st m
  | some c=>
   obtain⟨R,S⟩:=c;simp only;obtain⟨b1,b2,b3⟩:=iW hb;simp only at b1 b2 b3;have hfree:=cN.1 b3;have hne:∀ m,m≠n→eM x.2.1 n (2,(R:Int),(S:Int),(sz:Int),at') m=x.2.1 m:=fun m hm=>if_neg hm;have heq:eM x.2.1 n (2,(R:Int),(S:Int),(sz:Int),at') n=(2,(R:Int),(S:Int),(sz:Int),at'):=if_pos rfl;have hcell:∀ r i,r < x.1.length→i < (gt x.1 r).length→gt (gt x.1 r) i≠n:=fun r i hr hi e=>by
    rcases h.occ r i hr hi with q | q
    ·omega
    ·exact hnh (e▸q)
   refine⟨by rw[← h.shp]; exact Lm b1 b2,fun m hm=>?_,fun r i hr hi=>?_,fun m hm=>?_,fun m=>?_⟩
   ·by_cases c:m=n
    ·subst c;simp only[heq];refine⟨R,S,sz,rfl,rfl,rfl,⟨by rw[List.length_set]; exact b1,by rw[kh b1 b2]; exact b2,fun r i hr hi=>?_⟩,hz⟩;rw[List.length_set]at hr;rw[kh b1 b2]at hi;rw[qe b1 b2 hr hi];by_cases q:r=R∧S≤i∧i < S+sz
     ·rw[if_pos q]; exact⟨fun _=>q,fun _=>rfl⟩
     ·rw[if_neg q]; exact⟨fun e=>absurd e (hcell r i hr hi),fun e=>absurd e q⟩
    ·simp only[hne m c]at hm ⊢;obtain⟨R',S',Z',e1,e2,e3,⟨o1,o2,o3⟩,e5⟩:=h.own m hm;have hm0:=ge h hm;refine⟨R',S',Z',e1,e2,e3,⟨by rw[List.length_set]; exact o1,by rw[kh b1 b2]; exact o2,fun r i hr hi=>?_⟩,e5⟩;rw[List.length_set]at hr;rw[kh b1 b2]at hi;rw[qe b1 b2 hr hi,← o3 r i hr hi];by_cases q:r=R∧S≤i∧i < S+sz
     ·rw[if_pos q];obtain⟨rfl,q2,q3⟩:=q;rw[hfree i q2 q3];exact⟨fun e=>absurd e.symm c,fun e=>by omega⟩
     ·rw[if_neg q]
   ·rw[List.length_set]at hr;simp only[kh b1 b2]at hi;simp only[qe b1 b2 hr hi];by_cases q:r=R∧S≤i∧i < S+sz
    ·rw[if_pos q]; right; rw[heq]; exact .inl rfl
    ·rw[if_neg q];rcases h.occ r i hr hi with e | e
     ·exact .inl e
     ·right; rw[hne _ (hcell r i hr hi)]; exact e
   ·simp only; rw[hne m (by omega)]; exact h.dom m hm
   ·by_cases c:m=n
    ·subst c;simp only[heq];exact .inr ⟨by omega,by omega,.inl (.inl rfl),ha.1,ha.2⟩
    ·simp only[hne m c]; exact h.st m
 ·rw[if_neg h0]; exact h
theorem IM.hear {lens:List Nat}{x:HM}(h:IM lens x){c:au}(hc:be c):IM lens (eN x c):=by
 unfold eN;obtain⟨h1,h2,h3,h4⟩:=hc;by_cases k1:c.2.2.1=1
 ·rw[if_pos k1];exact h.ask h4 (by omega) h2
 ·rw[if_neg k1];by_cases k2:c.2.2.1=2
  ·rw[if_pos k2]; exact h.pay _
  ·rw[if_neg k2]; exact h.drp _
def gP (pool:List dY)(n:Int):gk:=(aL pool n).getD qt
structure PK (pool:List dY) (g:Int→gk):Prop where
 nd:(pool.map (·.1)).Nodup
 eq:∀ n,gP pool n=g n
 pos:∀ n o,aL pool n=some o→0≤n
theorem IM.len {lens:List Nat}{x:HM}(h:IM lens x):x.1.length=lens.length:=by rw[← h.shp,List.length_map]
theorem IM.row {lens:List Nat}{x:HM}(h:IM lens x)(sm:∀ k∈lens,k≤12){r:Nat}(hr:r < x.1.length):(gt x.1 r).length≤12:=by
 rw[← tV hr,h.shp];exact sm _ (ck (by rw[← h.len]; exact hr))
theorem PK.get {pool:List dY}{g:Int→gk}(k:PK pool g){n:Int}{o:gk}(h:aL pool n=some o):g n=o:=by
 rw[← k.eq n]; unfold gP; rw[h]; rfl
theorem PK.inv {lens:List Nat}{x:HM}{pool:List dY}(h:IM lens x)(k:PK pool x.2.1)(sm:∀ k∈lens,k≤12):Inv x.1 pool:=by
 refine⟨fun r hr=>by have:=h.row sm hr; omega,fun n o ho hs=>?_,fun n o ho=>?_⟩
 ·have e:=k.get ho;have hh:held (x.2.1 n):=by rw[e]; exact hs
  have hd:=ge h hh;obtain⟨R,S,Z,e1,e2,e3,e4,e5⟩:=h.own n hh;rw[e]at e1 e2 e3;exact⟨by omega,R,S,Z,e1,e2,e3,e4⟩
 ·have e:=k.get ho;rcases h.st n with q | ⟨q1,q2,q3,q4,q5⟩
  ·rw[← e,q]; exact⟨by decide,by decide⟩
  ·rw[e]at q4 q5; exact⟨q4,by omega⟩
theorem Bh (hold minute:Int)(pool:List dY)(n:Int):cM hold minute pool n=eL hold minute (gP pool n):=by
 unfold cM gP;cases aL pool n with
 | some o=>rfl
 | none=>rfl
theorem wr {hold minute:Int}{pool:List dY}{n:Int}(h:cM hold minute pool n=true):n∈pool.map (·.1):=by
 unfold cM at h;cases hc:aL pool n with
 | none=>rw[hc]at h; cases h
 | some o=>
  rw[aL]at hc;obtain⟨x,h1,h2⟩:=Option.map_eq_some_iff.1 hc;have:=List.find?_some h1;have e:x.1=n:=of_decide_eq_true this;rw[← e];exact List.mem_map_of_mem (List.mem_of_find?_eq_some h1)
theorem CS (d:Int→Bool)(q:List Int)(pool:List dY):(dI d q pool).map (·.1)=pool.map (·.1):=by
 unfold dI;rw[List.map_map];rfl
theorem PK.lap {pool:List dY}{g:Int→gk}(k:PK pool g)(hold minute:Int):PK (dI (cM hold minute pool) (pool.map (·.1)) pool) (lapG hold minute g):=by
 refine⟨by rw[CS]; exact k.nd,fun n=>?_,fun n o ho=>?_⟩
 ·unfold lapG;rw[← k.eq n];unfold gP;rw[kg];have hk:=@wr hold minute pool n;unfold cM at hk;cases hc:aL pool n with
  | none=>rfl
  | some o=>
   rw[hc]at hk;show(if n∈pool.map (·.1)∧cM hold minute pool n=true then iV o else o)=_;rw[Bh];unfold gP;rw[hc];by_cases c:eL hold minute o=true
   ·rw[if_pos ⟨hk c,c⟩];show iV o=if eL hold minute o=true then iV o else o;rw[if_pos c]
   ·rw[if_neg fun e=>c e.2];show o=if eL hold minute o=true then iV o else o;rw[if_neg c]
 ·rw[kg]at ho;cases hc:aL pool n with
  | none=>rw[hc]at ho; cases ho
  | some o'=>exact k.pos n o' hc
theorem Qm {lens:List Nat}{x:HM}{pool:List dY}{rows:List Int}{hold minute:Int}(h:IM lens x)(k:PK pool x.2.1)(sm:∀ k∈lens,k≤12)(hh:0≤hold∧hold≤100000):
  ∃ pool',P83 (minute,rows,hold,x.1,x.2.2,pool)=some (rows,hold,(gl hold minute x).1,(gl hold minute x).2.2,pool')∧PK pool' (gl hold minute x).2.1:=by
 refine⟨dI (cM hold minute pool) (pool.map (·.1)) pool,?_,k.lap hold minute⟩;rw[(Uv (k.inv h sm) hh k.nd (fun n o ho=>by have:=k.pos n o ho; omega)).1];have e:gc (cM hold minute pool) (pool.map (·.1)) x.1=(gl hold minute x).1:=by
  unfold gc gl;refine List.map_congr_left fun l _=>List.map_congr_left fun v _=>?_;unfold yH;rw[← k.eq v,← Bh];by_cases c:cM hold minute pool v=true
  ·rw[if_pos ⟨wr c,c⟩,if_pos c]
  ·rw[if_neg fun e=>c e.2,if_neg c]
 rw[e];rfl
theorem tW {pool:List dY}{g:Int→gk}(k:PK pool g)(n:Int):aL (qM pool n) n=some (g n):=by
 rw[← k.eq n];unfold qM gP;cases hc:aL pool n with
 | some o=>rw[if_pos (show(some o).isSome=true from rfl),hc]; rfl
 | none=>
  rw[if_neg (by decide),eA,hc,if_neg (by decide),aS,if_pos rfl];rfl
theorem oM {pool:List dY}{g:Int→gk}(k:PK pool g)(n:Int):qM (qM pool n) n=qM pool n:=by
 have:=tW k n;show(if(aL (qM pool n) n).isSome=true then qM pool n else qM pool n++[(n,(0,-1,-1,0,0))])=_;rw[this];rfl
theorem PK.of {pool:List dY}{g:Int→gk}(k:PK pool g){n:Int}(hn:0≤n):PK (qM pool n) g:=by
 unfold qM;cases hc:aL pool n with
 | some o=>rw[if_pos (show(some o).isSome=true from rfl)]; exact k
 | none=>
  rw[if_neg (by decide)];refine⟨?_,fun m=>?_,fun m o ho=>?_⟩
  ·rw[List.map_append,List.nodup_append];refine⟨k.nd,by simp,fun a ha b hb=>?_⟩;simp only[List.map_cons,List.map_nil,List.mem_singleton]at hb;subst hb;intro e;subst e;exact jY hc ha
  ·rw[← k.eq m];unfold gP;rw[eA];cases hm:aL pool m with
   | some o=>rfl
   | none=>
    rw[if_neg (by decide),aS];by_cases c:n=m
    ·rw[if_pos c]; rfl
    ·rw[if_neg c]; rfl
  ·rw[eA]at ho;cases hm:aL pool m with
   | some o'=>exact k.pos m o' hm
   | none=>
    rw[hm,if_neg (by decide),aS]at ho;by_cases c:n=m
    ·omega
    ·rw[if_neg c]at ho; cases ho
theorem PK.put {pool:List dY}{g:Int→gk}(k:PK pool g){n:Int}{o:gk}(h:aL pool n=some o)(o':gk):PK (dP pool n o') (eM g n o'):=by
 refine⟨by rw[mL _ _ _ (by rw[h]; rfl)]; exact k.nd,fun m=>?_,fun m q hq=>?_⟩
 ·unfold gP eM;rw[ez];by_cases c:n=m
  ·rw[if_pos c,if_pos c.symm]; rfl
  ·rw[if_neg c,if_neg fun e=>c e.symm]; exact k.eq m
 ·rw[ez]at hq;by_cases c:n=m
  ·rw[← c]; exact k.pos n o h
  ·rw[if_neg c]at hq; exact k.pos m q hq
theorem ws:P111v1=P111:=by
 unfold P111v1 P111 Gc XC;rfl
theorem Uw {lens:List Nat}{x:HM}{pool:List dY}{rows:List Int}{hold:Int}(h:IM lens x)(k:PK pool x.2.1)(sm:∀ k∈lens,k≤12){n:Int}(hn:held (x.2.1 n))(hp:aL pool n=some (x.2.1 n)):
  ∃ pool',P111v1 (n,5,rows,hold,pool,x.1,x.2.2)=some (rows,hold,pool',(l8 x n).1,x.2.2)∧PK pool' (l8 x n).2.1:=by
 obtain⟨R,S,Z,e1,e2,e3,e4,e5⟩:=h.own n hn;have ho:aL pool n=some ((x.2.1 n).1,(R:Int),(S:Int),(Z:Int),(x.2.1 n).2.2.2.2):=by rw[hp,← e1,← e2,← e3]
 refine⟨_,by rw[ws,Bd ho e4.1 e4.2.1 (by have:=h.row sm e4.1; omega),Hs e4]; unfold l8; rw[if_pos hn],?_⟩;have:=k.put hp (5,-1,-1,(Z:Int),(x.2.1 n).2.2.2.2);unfold l8;rw[if_pos hn,e3];exact this
theorem wt (seats:List (List Int))(n:Nat):nM seats n=(match bO seats n with
  | some c=>((0,(c.1:Int),(c.2:Int),(n:Int)),true)
  | none=>((0,0,0,0),false)):=Ig seats n
theorem P84_M {lens:List Nat}{x:HM}{pool:List dY}{rows:List Int}{hold:Int}{c:au}(h:IM lens x)(k:PK pool x.2.1)(sm:∀ k∈lens,k≤12)(sl:lens.length≤30)(hc:be c)(hv:x.2.2.length≤1000):
  ∃ pool',P84 (c,rows,hold,x.1,x.2.2,pool)=some (rows,hold,(eN x c).1,(eN x c).2.2,pool')∧PK pool' (eN x c).2.1:=by
 obtain⟨id,at',kind,n,size⟩:=c;obtain⟨h1,h2,h3,h4⟩:=hc;simp only at h1 h2 h3 h4;have hlen:=h.len;have kO:=k.of h4.1 (n:=n);have hg:=tW k n;have e:P84 ((id,at',kind,n,size),rows,hold,x.1,x.2.2,pool)=q84 nZ qE P111v1 (id,at',kind,n,size) rows hold x.1 x.2.2 pool:=rfl;rw[e];unfold q84 eN
 try unfold Hl
 try unfold Hk
 try unfold Db
 try unfold Da
 try unfold yE
 try unfold pd
 have hd:xl (aL (qM pool n) n) (0,(0,(0,(0,0))))=x.2.1 n:=by rw[hg]; rfl
 simp only[qd,bind_some',hd];rcases h3 with⟨rfl,z1,z2⟩ | ⟨hk,rfl⟩
 ·obtain⟨sz,rfl⟩:∃ sz:Nat,size=(sz:Int):=⟨size.toNat,by omega⟩;simp only[decide_true,cond_true,if_true,Int.toNat_natCast];have hoo:aL (qM (qM pool n) n) n=some (x.2.1 n):=by rw[oM k]; exact hg
  unfold jK;by_cases h0:(x.2.1 n).1=0
  ·have hu:x.2.1 n=qt:=by
    rcases h.st n with q | ⟨q1,_⟩
    ·exact q
    ·omega
   rw[if_pos h0];have hbm:=wt x.1 sz;cases hb:bO x.1 sz with
   | none=>
    rw[hb]at hbm;rw[Lk hoo h0 (fun r hr=>by have:=h.row sm hr; omega) (by omega) (by omega) (by rw[hbm]),bind_some',oM k,hu];exact⟨_,rfl,kO.put hg _⟩
   | some c=>
    obtain⟨R,S⟩:=c;rw[hb]at hbm;obtain⟨b1,b2,_⟩:=iW hb;rw[Hv hoo h0 (fun r hr=>by have:=h.row sm hr; omega) (by omega) (by omega) hbm b1 b2,bind_some',oM k];exact⟨_,rfl,kO.put hg _⟩
  ·rw[if_neg h0,Hu hoo h0,bind_some',oM k];exact⟨_,rfl,kO⟩
 ·have k1:kind≠1:=by omega
  rw[decide_eq_false k1,cond_false,if_neg k1];rcases hk with rfl | rfl
  ·simp only[decide_true,cond_true,if_true];unfold wq;by_cases hh:(x.2.1 n).1=2
   ·rw[if_pos hh,decide_eq_true hh,cond_true];exact⟨_,rfl,kO.put hg _⟩
   ·rw[if_neg hh,decide_eq_false hh,cond_false,aj (bY (by simp; omega))];exact⟨_,rfl,kO⟩
  ·rw[show decide ((3:Int)=2)=false from rfl,cond_false,cond_false,if_neg (by decide)];by_cases hh:held (x.2.1 n)
   ·obtain⟨pool',e1,e2⟩:=Uw (rows:=rows) (hold:=hold) h kO sm hh hg;refine⟨pool',?_,e2⟩;rw[e1];have hv:(l8 x n).2.2=x.2.2:=by unfold l8; rw[if_pos hh]
    rw[hv];rcases hh with hh | hh
    ·rw[decide_eq_true hh]; rfl
    ·rw[hh]; rfl
   ·have n2:(x.2.1 n).1≠2:=fun e=>hh (.inl e);have n3:(x.2.1 n).1≠3:=fun e=>hh (.inr e);rw[decide_eq_false n2,decide_eq_false n3];unfold l8;rw[if_neg hh];exact⟨_,rfl,kO⟩
def ku (o:gk):Ii:=(o.1,o.2.1,o.2.2.1,o.2.2.2.1)
structure RK (pl:List Ii) (sn:List Int) (g:Int→gk):Prop where
 pln:pl.length=100
 snn:sn.length=100
 eq:∀ i:Nat,i < 100→gt pl i=ku (g (i:Int))
 sne:∀ i:Nat,i < 100→(g (i:Int)).1=2→gt sn i=(g (i:Int)).2.2.2.2
 snb:∀ i:Nat,i < 100→0≤gt sn i∧gt sn i≤9999
theorem RK.due {pl:List Ii}{sn:List Int}{g:Int→gk}(k:RK pl sn g)(hold minute:Int){i:Nat}(hi:i < 100):Uu hold minute pl sn i=eL hold minute (g (i:Int)):=by
 unfold Uu eL;rw[k.eq i hi];show(decide ((g (i:Int)).1=2)&&_)=_;by_cases c:(g (i:Int)).1=2
 ·rw[k.sne i hi c]
 ·rw[decide_eq_false c]; rfl
theorem RK.lap {lens:List Nat}{x:HM}(h:IM lens x){pl:List Ii}{sn:List Int}(k:RK pl sn x.2.1)(hold minute:Int):RK (Hq (Uu hold minute pl sn) pl pl.length) sn (lapG hold minute x.2.1):=by
 refine⟨by rw[Hr]; exact k.pln,k.snn,fun i hi=>?_,fun i hi hs=>?_,k.snb⟩
 ·rw[Lj _ _ (by rw[k.pln]; exact hi),k.due hold minute hi,k.eq i hi];unfold lapG;by_cases c:eL hold minute (x.2.1 (i:Int))=true
  ·rw[if_pos ⟨by rw[k.pln]; exact hi,c⟩,if_pos c]; rfl
  ·rw[if_neg fun e=>c e.2,if_neg c]
 ·unfold lapG at hs ⊢;by_cases c:eL hold minute (x.2.1 (i:Int))=true
  ·rw[if_pos c]at hs; exact absurd hs (by show ¬ ((4:Int)=2); decide)
  ·rw[if_neg c]at hs ⊢; exact k.sne i hi hs
theorem RK.put {pl:List Ii}{sn:List Int}{g:Int→gk}(k:RK pl sn g){n:Nat}(hn:n < 100)(o:gk)(sn':List Int)(hs:sn'.length=100)(h1:∀ i,i < 100→i≠n→gt sn' i=gt sn i)(h2:o.1=2→gt sn' n=o.2.2.2.2)(h3:0≤gt sn' n∧gt sn' n≤9999):
  RK (pl.set n (ku o)) sn' (eM g (n:Int) o):=by
 have hp:=k.pln;refine⟨by rw[List.length_set]; exact k.pln,hs,fun i hi=>?_,fun i hi hst=>?_,fun i hi=>?_⟩
 ·rw[gD _ _ _ _ (by omega)];unfold eM;by_cases c:n=i
  ·rw[if_pos c,if_pos (by omega)]
  ·rw[if_neg c,if_neg (by omega)]; exact k.eq i hi
 ·unfold eM at hst ⊢;by_cases c:(i:Int)=(n:Int)
  ·rw[if_pos c]at hst ⊢;obtain rfl:i=n:=by omega
   exact h2 hst
  ·rw[if_neg c]at hst ⊢;rw[h1 i hi (by omega)];exact k.sne i hi hst
 ·by_cases c:i=n
  ·subst c; exact h3
  ·rw[h1 i hi c]; exact k.snb i hi
section
variable {α:Type} [Inhabited α] [DecidableEq α]
def jh (l:List α):Nat→List α
 | 0=>[]
 | n+1=>if 0 < n∧gt l n=gt l (n-1)then jh l n else jh l n++[gt l n]
theorem eG (l:List α){n:Nat}(h:n < l.length):l.take (n+1)=l.take n++[gt l n]:=by
 rw[List.take_add_one,List.getElem?_eq_getElem h,ca h]; rfl
theorem gh (l:List α):∀ n,n≤l.length→(∀ k,k+1 < n→gt l (k+1)≠gt l k)→jh l n=l.take n
 | 0,_,_=>by simp[jh]
 | n+1,h,hd=>by
  rw[jh,if_neg,gh l n (by omega) fun k hk=>hd k (by omega),eG l (by omega)];rintro⟨h0,e⟩;have:=hd (n-1) (by omega);rw[show n-1+1=n by omega]at this;exact this e
theorem tX (l:List α):∀ n,∀ x,x∈jh l n↔∃ k,k < n∧gt l k=x
 | 0,x=>by simp[jh]
 | n+1,x=>by
  rw[jh];split
  ·rename_i h;rw[tX l n];constructor
   ·rintro⟨k,hk,e⟩; exact⟨k,by omega,e⟩
   ·rintro⟨k,hk,e⟩;by_cases hkn:k=n
    ·subst hkn; exact⟨k-1,by omega,by rw[← h.2]; exact e⟩
    ·exact⟨k,by omega,e⟩
  ·rw[List.mem_append,tX l n,List.mem_singleton];constructor
   ·rintro(⟨k,hk,e⟩ | e)
    ·exact⟨k,by omega,e⟩
    ·exact⟨n,by omega,e.symm⟩
   ·rintro⟨k,hk,e⟩;by_cases hkn:k=n
    ·subst hkn; exact .inr e.symm
    ·exact .inl ⟨k,by omega,e⟩
theorem nJ (l:List α)(x:α):x∈jh l l.length↔x∈l:=by
 rw[tX];constructor
 ·rintro⟨k,hk,rfl⟩; exact ck hk
 ·intro h; obtain⟨i,hi,e⟩:=dm h; exact⟨i,hi,e⟩
theorem ddN_asc (K:α→Int)(l:List α)(hs:Sd K l 0 l.length)(hk:∀ a∈l,∀ b∈l,K a=K b→a=b):
  ∀ n,n≤l.length→(jh l n).Pairwise (fun a b=>K a < K b)∧∀ x∈jh l n,K x≤K (gt l (n-1))
 | 0,_=>by simp[jh]
 | n+1,h=>by
  obtain⟨h1,h2⟩:=ddN_asc K l hs hk n (by omega);rw[jh,Nat.add_sub_cancel];split
  ·rename_i c;exact⟨h1,fun x hx=>by rw[c.2]; exact h2 x hx⟩
  ·rename_i c;have hlt:∀ x∈jh l n,K x < K (gt l n):=fun x hx=>by
    have hn:0 < n:=by
     cases n with
     | zero=>simp[jh]at hx
     | succ n=>omega
    have q1:=h2 x hx;have q2:=hs (n-1) n (by omega) (by omega) (by omega);have q3:K (gt l (n-1))≠K (gt l n):=fun e=>c ⟨hn,(hk _ (ck (by omega)) _ (ck (by omega)) e).symm⟩;omega
   refine⟨?_,fun x hx=>?_⟩
   ·rw[List.pairwise_append];refine⟨h1,by simp,fun a ha b hb=>?_⟩;rw[List.mem_singleton.1 hb];exact hlt a ha
   ·rcases List.mem_append.1 hx with q | q
    ·exact Int.le_of_lt (hlt x q)
    ·rw[List.mem_singleton.1 q]; exact Int.le_refl _
theorem wu (l:List α)(w n:Nat)(z:α)(h:w≤l.length):(cA l w n z).take w=l.take w:=by
 unfold cA;rw[List.take_append_of_le_length (by simp; omega),List.take_take,Nat.min_self]
theorem qf (K:α→Int):∀ {l m:List α},l.Pairwise (fun a b=>K a < K b)→m.Pairwise (fun a b=>K a < K b)→(∀ x,x∈l↔x∈m)→l=m
 | [],[],_,_,_=>rfl
 | [],b::m,_,_,h=>absurd ((h b).2 (by simp)) (by simp)
 | a::l,[],_,_,h=>absurd ((h a).1 (by simp)) (by simp)
 | a::l,b::m,hl,hm,h=>by
  rw[List.pairwise_cons]at hl hm;have e:a=b:=by
   rcases List.mem_cons.1 ((h a).1 (by simp))with q | q
   ·exact q
   ·rcases List.mem_cons.1 ((h b).2 (by simp))with p | p
    ·exact p.symm
    ·have:=hl.1 b p;have:=hm.1 a q;omega
  subst e;congr 1;refine qf K hl.2 hm.2 fun x=>?_;constructor
  ·intro hx;rcases List.mem_cons.1 ((h x).1 (List.mem_cons_of_mem _ hx))with q | q
   ·subst q; have:=hl.1 _ hx; omega
   ·exact q
  ·intro hx;rcases List.mem_cons.1 ((h x).2 (List.mem_cons_of_mem _ hx))with q | q
   ·subst q; have:=hm.1 _ hx; omega
   ·exact q
end
theorem Ux (a b:au):((((decide (a.1=b.1)&&decide (a.2.1=b.2.1))&&decide (a.2.2.1=b.2.2.1))&&decide (a.2.2.2.1=b.2.2.2.1))&&decide (a.2.2.2.2=b.2.2.2.2))=decide (a=b):=by
 obtain⟨a1,a2,a3,a4,a5⟩:=a;obtain⟨b1,b2,b3,b4,b5⟩:=b;simp only[Prod.mk.injEq];by_cases h1:a1=b1 <;> by_cases h2:a2=b2 <;> by_cases h3:a3=b3 <;> by_cases h4:a4=b4 <;> by_cases h5:a5=b5 <;> simp[h1,h2,h3,h4,h5]
theorem Hx (l:List (au)){r:Nat}(hr:0 < r)(hl:r < l.length)(h1000:l.length≤1000)(he:gt l r=gt l (r-1))(hd:∀ k,k+1 < r→gt l (k+1)≠gt l k):
  ∃ y,FZ ((r:Int),(r:Int),((l.length-r:Nat):Int),1,l)=some y∧∃ w l1,y=(((w:Nat):Int),l1)∧l1.length=l.length∧w≤l.length∧l1.take w=jh l l.length:=by
 refine gZ (l.length-r-1) (fun t s=>∃ w l1,s=(((w:Nat):Int),(r:Int),((l.length-r:Nat):Int),((t+1:Nat):Int),l1)∧l1.length=l.length∧w≤r+t∧l1.take w=jh l (r+t+1)∧∀ k,w≤k→gt l1 k=gt l k) _
  ⟨r,l,rfl,rfl,by omega,?_,fun _ _=>rfl⟩ (by omega) ?_ ?_
 ·show l.take r=jh l (r+0+1);rw[Nat.add_zero,jh,if_pos ⟨hr,he⟩,gh l r (by omega) hd]
 ·rintro t s ht ⟨w,l1,rfl,h1,h2,h3,h4⟩;have q:((t+1:Nat):Int)-1=((t:Nat):Int):=by omega
  have v1:=h4 (r+(t+1)) (by omega);have v2:=h4 (r+t) (by omega);simp only[u5,FY,Am,Int.toNat_natCast,aN (show t+1 < l.length-r by omega),cond_true,aC (show t+1 < l.length-r by omega),q,aC (show t < l.length-r by omega),vu (show(0:Int)≤((t:Nat):Int)by omega) (by omega),al,Em,v1,v2,
   aC (show w < l1.length by omega),aE (show w < 9223372036854775807 by omega),aE (show t+1 < 9223372036854775807 by omega),Ux]
  have e0:jh l (r+(t+1)+1)=if 0 < r+(t+1)∧gt l (r+(t+1))=gt l (r+t)then jh l (r+t+1)else jh l (r+t+1)++[gt l (r+(t+1))]:=rfl;by_cases e:gt l (r+(t+1))=gt l (r+t)
  ·simp only[e,decide_true,Bool.not_true,cond_false];exact⟨_,rfl,w,l1,rfl,h1,by omega,by rw[e0,if_pos ⟨by omega,e⟩]; exact h3,h4⟩
  ·simp only[e,decide_false,Bool.not_false,cond_true];refine⟨_,rfl,w+1,l1.set w (gt l (r+(t+1))),by simp only[rF],by simpa using h1,by omega,?_,fun k hk=>?_⟩
   ·rw[e0,if_neg fun h=>e h.2,← h3,eG _ (by simp; omega),gD _ _ _ _ (by omega),if_pos rfl];congr 1;exact List.take_set_of_le (Nat.le_refl _)
   ·rw[gD _ _ _ _ (by omega),if_neg (by omega)]; exact h4 k (by omega)
 ·rintro s ⟨w,l1,rfl,h1,h2,h3,h4⟩;have q:l.length-r-1+1=l.length-r:=by omega
  simp only[u5,FY,Am,Int.toNat_natCast,q,aV,cond_false];refine⟨_,rfl,w,l1,rfl,h1,by omega,?_⟩;rw[h3]; congr 1; omega
theorem Uy (l:List (au))(hl:l.length≤1000):uk l=some (jh l l.length):=by
 by_cases hs:l.length < 2
 ·have d:decide ((l.length:Int) < 2)=true:=by simp; omega
  simp only[uk,p82,XA,d,cond_true];rw[gh l l.length (Nat.le_refl _) (fun k hk=>by omega),List.take_length]
 have d:decide ((l.length:Int) < 2)=false:=by simp; omega
 have h:=iQ (step:=fun x=>Ao x.1 x.2) (l.length-1) (fun k=>(((k+1:Nat):Int),l)) (fun k=>decide (gt l (k+1)=gt l k)) (fun _=>.inl (jh l l.length)) (.inr l)
  (fun k hk hp=>by
   have q:((k+1:Nat):Int)-1=((k:Nat):Int):=by omega
   simp only[u2,Ao,An,aN (show k+1 < l.length by omega),cond_true,aC (show k+1 < l.length by omega),aC (show k < l.length by omega),q,vu (show(0:Int)≤((k:Nat):Int)by omega) (by omega),al,bI,aE (show k+1 < 9223372036854775807 by omega),Ux];by_cases e:gt l (k+1)=gt l k
   ·have hd:∀ j,j+1 < k+1→gt l (j+1)≠gt l j:=fun j hj=>by simpa using hp j (by omega)
    obtain⟨y,y1,w,l1,rfl,y2,y3,y4⟩:=Hx l (r:=k+1) (by omega) (by omega) hl e hd;have c1:(l.length:Int)-((k+1:Nat):Int)=((l.length-(k+1):Nat):Int):=by omega
    have c2:(l1.length:Int)-(w:Int)=((l1.length-w:Nat):Int):=by omega
    have b1:decide ((0:Int)≤((k+1:Nat):Int))=true:=by simp; omega
    have b2:decide (((k+1:Nat):Int)≤(l.length:Int))=true:=by simp; omega
    have b3:∀ n:Nat,decide ((n:Int)≤(n:Int))=true:=fun n=>by simp
    have b4:decide (0 < l.length)=true:=by simp; omega
    have b5:decide ((0:Int)≤(w:Int))=true:=by simp
    have b6:decide ((w:Int)≤(l1.length:Int))=true:=by simp; omega
    have b7:decide (0 < l1.length)=true:=by simp; omega
    simp only[e,decide_true,cond_true,b1,b2,b3,b4,al,c1,Int.toNat_natCast,y1,bind_some',b5,b6,b7,c2,clrL_len' l1 w (l1.length-w) _ (by omega),wu l1 w _ _ (by omega),y4]
   ·simp only[e,decide_false,cond_false]; rfl)
  (fun _=>by
   have d2:decide (((l.length-1+1:Nat):Int) < (l.length:Int))=false:=by simp; omega
   simp only[u2,Ao,An,d2,cond_false]) (by omega)
 rcases h with⟨k,hk,h1,h2,h3⟩ | ⟨h2,h3⟩
 ·have e:Ap (1,l)=some (.inl (jh l l.length)):=h3;simp only[uk,p82,XA,d,cond_false,e,bind_some',elim_inl]
 ·have e:Ap (1,l)=some (.inr l):=h3;simp only[uk,p82,XA,d,cond_false,e,bind_some',elim_inr];rw[gh l l.length (Nat.le_refl _) (fun k hk=>by simpa using h2 k (by omega)),List.take_length]
theorem Hy (l:List (Int)){r:Nat}(hr:0 < r)(hl:r < l.length)(h1000:l.length≤1000)(he:gt l r=gt l (r-1))(hd:∀ k,k+1 < r→gt l (k+1)≠gt l k):
  ∃ y,G2 ((r:Int),(r:Int),((l.length-r:Nat):Int),1,l)=some y∧∃ w l1,y=(((w:Nat):Int),l1)∧l1.length=l.length∧w≤l.length∧l1.take w=jh l l.length:=by
 refine gZ (l.length-r-1) (fun t s=>∃ w l1,s=(((w:Nat):Int),(r:Int),((l.length-r:Nat):Int),((t+1:Nat):Int),l1)∧l1.length=l.length∧w≤r+t∧l1.take w=jh l (r+t+1)∧∀ k,w≤k→gt l1 k=gt l k) _
  ⟨r,l,rfl,rfl,by omega,?_,fun _ _=>rfl⟩ (by omega) ?_ ?_
 ·show l.take r=jh l (r+0+1);rw[Nat.add_zero,jh,if_pos ⟨hr,he⟩,gh l r (by omega) hd]
 ·rintro t s ht ⟨w,l1,rfl,h1,h2,h3,h4⟩;have q:((t+1:Nat):Int)-1=((t:Nat):Int):=by omega
  have v1:=h4 (r+(t+1)) (by omega);have v2:=h4 (r+t) (by omega);simp only[u5,G1,AI,Int.toNat_natCast,aN (show t+1 < l.length-r by omega),cond_true,aC (show t+1 < l.length-r by omega),q,aC (show t < l.length-r by omega),vu (show(0:Int)≤((t:Nat):Int)by omega) (by omega),al,Em,v1,v2,
   aC (show w < l1.length by omega),aE (show w < 9223372036854775807 by omega),aE (show t+1 < 9223372036854775807 by omega),Ux]
  have e0:jh l (r+(t+1)+1)=if 0 < r+(t+1)∧gt l (r+(t+1))=gt l (r+t)then jh l (r+t+1)else jh l (r+t+1)++[gt l (r+(t+1))]:=rfl;by_cases e:gt l (r+(t+1))=gt l (r+t)
  ·simp only[e,decide_true,Bool.not_true,cond_false];exact⟨_,rfl,w,l1,rfl,h1,by omega,by rw[e0,if_pos ⟨by omega,e⟩]; exact h3,h4⟩
  ·simp only[e,decide_false,Bool.not_false,cond_true];refine⟨_,rfl,w+1,l1.set w (gt l (r+(t+1))),by simp only[rF],by simpa using h1,by omega,?_,fun k hk=>?_⟩
   ·rw[e0,if_neg fun h=>e h.2,← h3,eG _ (by simp; omega),gD _ _ _ _ (by omega),if_pos rfl];congr 1;exact List.take_set_of_le (Nat.le_refl _)
   ·rw[gD _ _ _ _ (by omega),if_neg (by omega)]; exact h4 k (by omega)
 ·rintro s ⟨w,l1,rfl,h1,h2,h3,h4⟩;have q:l.length-r-1+1=l.length-r:=by omega
  simp only[u5,G1,AI,Int.toNat_natCast,q,aV,cond_false];refine⟨_,rfl,w,l1,rfl,h1,by omega,?_⟩;rw[h3]; congr 1; omega
theorem Uz (l:List (Int))(hl:l.length≤1000):C4 l=some (jh l l.length):=by
 by_cases hs:l.length < 2
 ·have d:decide ((l.length:Int) < 2)=true:=by simp; omega
  simp only[C4,p45,YR,d,cond_true];rw[gh l l.length (Nat.le_refl _) (fun k hk=>by omega),List.take_length]
 have d:decide ((l.length:Int) < 2)=false:=by simp; omega
 have h:=iQ (step:=fun x=>AK x.1 x.2) (l.length-1) (fun k=>(((k+1:Nat):Int),l)) (fun k=>decide (gt l (k+1)=gt l k)) (fun _=>.inl (jh l l.length)) (.inr l)
  (fun k hk hp=>by
   have q:((k+1:Nat):Int)-1=((k:Nat):Int):=by omega
   simp only[u2,AK,AJ,aN (show k+1 < l.length by omega),cond_true,aC (show k+1 < l.length by omega),aC (show k < l.length by omega),q,vu (show(0:Int)≤((k:Nat):Int)by omega) (by omega),al,bI,aE (show k+1 < 9223372036854775807 by omega),Ux];by_cases e:gt l (k+1)=gt l k
   ·have hd:∀ j,j+1 < k+1→gt l (j+1)≠gt l j:=fun j hj=>by simpa using hp j (by omega)
    obtain⟨y,y1,w,l1,rfl,y2,y3,y4⟩:=Hy l (r:=k+1) (by omega) (by omega) hl e hd;have c1:(l.length:Int)-((k+1:Nat):Int)=((l.length-(k+1):Nat):Int):=by omega
    have c2:(l1.length:Int)-(w:Int)=((l1.length-w:Nat):Int):=by omega
    have b1:decide ((0:Int)≤((k+1:Nat):Int))=true:=by simp; omega
    have b2:decide (((k+1:Nat):Int)≤(l.length:Int))=true:=by simp; omega
    have b3:∀ n:Nat,decide ((n:Int)≤(n:Int))=true:=fun n=>by simp
    have b4:decide (0 < l.length)=true:=by simp; omega
    have b5:decide ((0:Int)≤(w:Int))=true:=by simp
    have b6:decide ((w:Int)≤(l1.length:Int))=true:=by simp; omega
    have b7:decide (0 < l1.length)=true:=by simp; omega
    simp only[e,decide_true,cond_true,b1,b2,b3,b4,al,c1,Int.toNat_natCast,y1,bind_some',b5,b6,b7,c2,clrL_len' l1 w (l1.length-w) _ (by omega),wu l1 w _ _ (by omega),y4]
   ·simp only[e,decide_false,cond_false]; rfl)
  (fun _=>by
   have d2:decide (((l.length-1+1:Nat):Int) < (l.length:Int))=false:=by simp; omega
   simp only[u2,AK,AJ,d2,cond_false]) (by omega)
 rcases h with⟨k,hk,h1,h2,h3⟩ | ⟨h2,h3⟩
 ·have e:AL (1,l)=some (.inl (jh l l.length)):=h3;simp only[C4,p45,YR,d,cond_false,e,bind_some',elim_inl]
 ·have e:AL (1,l)=some (.inr l):=h3;simp only[C4,p45,YR,d,cond_false,e,bind_some',elim_inr];rw[gh l l.length (Nat.le_refl _) (fun k hk=>by simpa using h2 k (by omega)),List.take_length]
def kc (c:au):Int:=c.2.1*100+c.1
theorem Qn {a b:au}(ha:be a)(hb:be b):kc a < kc b↔a.2.1 < b.2.1∨(a.2.1=b.2.1∧a.1 < b.1):=by
 have h1:=ha.1;have h2:=hb.1;unfold kc;omega
theorem Hz {a b:au}(ha:be a)(hb:be b)(h:kc a=kc b):a.1=b.1:=by
 have h1:=ha.1;have h2:=hb.1;unfold kc at h;omega
theorem HA {l m:List au}{i k:Nat}{at':Int}{kn:Bool}(hi:i < l.length)(hk:k < m.length)(hm:m.length≤1000)(ha:be (gt m k))(hb:be (gt l i)):
  sc l m (i:Int) at' kn (k:Int)=some (.inl (l,m,(i:Int),(if kc (gt m k) < kc (gt l i)then(k:Int)+1 else at'),(kn||decide (gt m k=gt l i)),(k:Int)+1)):=by
 unfold sc;have f:af .i64 ((k:Int)+1)=true:=aE (by omega);simp only[aN hk,cond_true,aC hk,aC hi,al,bI,f,Ux];have hlt:=Qn ha hb;by_cases h1:(gt m k).2.1 < (gt l i).2.1
 ·rw[if_pos (hlt.2 (.inl h1)),decide_eq_true h1];cases kn <;> rfl
 ·rw[decide_eq_false h1];by_cases h2:(gt m k).2.1=(gt l i).2.1
  ·rw[decide_eq_true h2];by_cases h3:(gt m k).1 < (gt l i).1
   ·rw[if_pos (hlt.2 (.inr ⟨h2,h3⟩)),decide_eq_true h3];cases kn <;> rfl
   ·rw[if_neg (fun h=>(hlt.1 h).elim h1 fun h=>h3 h.2),decide_eq_false h3];cases kn <;> rfl
  ·rw[if_neg (fun h=>(hlt.1 h).elim h1 fun h=>h2 h.1),decide_eq_false h2];cases kn <;> rfl
theorem HB {l m:List au}{i:Nat}(hi:i < l.length)(hm:m.length≤1000)(ha:∀ x∈m,be x)(hb:be (gt l i))(hs:m.Pairwise (fun a b=>kc a < kc b)):
  ∃ w:Nat,∃ kn:Bool,L71_1 (l,m,(i:Int),0,false,0)=some (l,m,(i:Int),(w:Int),kn)∧w≤m.length∧(∀ j,j < m.length→(kc (gt m j) < kc (gt l i)↔j < w))∧(kn=true↔gt l i∈m):=by
 have key:=gZ (step:=fun x=>OX x.1 x.2.1 x.2.2.1 x.2.2.2.1 x.2.2.2.2.1 x.2.2.2.2.2) m.length
  (fun k s=>∃ w:Nat,∃ kn:Bool,s=(l,m,(i:Int),(w:Int),kn,(k:Int))∧w≤k∧(∀ j,j < k→(kc (gt m j) < kc (gt l i)↔j < w))∧(kn=true↔∃ j,j < k∧gt m j=gt l i))
  (fun y=>∃ w:Nat,∃ kn:Bool,y=(l,m,(i:Int),(w:Int),kn)∧w≤m.length∧(∀ j,j < m.length→(kc (gt m j) < kc (gt l i)↔j < w))∧(kn=true↔gt l i∈m))
  (x:=(l,m,(i:Int),0,false,0))
  ⟨0,false,rfl,Nat.le_refl _,fun j hj=>by omega,by constructor <;> simp⟩ (by omega)
  (by
   rintro k s hk ⟨w,kn,rfl,h1,h2,h3⟩;refine⟨_,HA hi hk hm (ha _ (ck hk)) hb,(if kc (gt m k) < kc (gt l i)then k+1 else w),(kn||decide (gt m k=gt l i)),?_,?_,?_,?_⟩
   ·split <;> simp
   ·split <;> omega
   ·intro j hj;by_cases c:kc (gt m k) < kc (gt l i)
    ·rw[if_pos c];refine⟨fun _=>hj,fun _=>?_⟩;by_cases e:j=k
     ·rw[e]; exact c
     ·have:=List.pairwise_iff_getElem.1 hs j k (by omega) hk (by omega);rw[← ca (show j < m.length by omega),← ca hk]at this;omega
    ·rw[if_neg c];by_cases e:j=k
     ·subst e; exact⟨fun h=>absurd h c,fun h=>by omega⟩
     ·exact h2 j (by omega)
   ·rw[Bool.or_eq_true,h3,decide_eq_true_eq];constructor
    ·rintro(⟨j,hj,e⟩ | e)
     ·exact⟨j,by omega,e⟩
     ·exact⟨k,by omega,e⟩
    ·rintro⟨j,hj,e⟩;by_cases c:j=k
     ·subst c; exact .inr e
     ·exact .inl ⟨j,by omega,e⟩)
  (by
   rintro s ⟨w,kn,rfl,h1,h2,h3⟩;refine⟨(l,m,(i:Int),(w:Int),kn),?_,w,kn,rfl,h1,h2,?_⟩
   ·show sc l m (i:Int) (w:Int) kn (m.length:Int)=_;unfold sc;rw[show decide ((m.length:Int) < (↑(List.length m):Int))=false from aV _,cond_false]
   ·rw[h3];constructor
    ·rintro⟨j,hj,e⟩; rw[← e]; exact ck hj
    ·intro h; obtain⟨j,hj,e⟩:=dm h; exact⟨j,hj,e⟩)
 obtain⟨y,h1,w,kn,rfl,h2⟩:=key;exact⟨w,kn,h1,h2⟩
theorem Lp {m:List au}{c:au}{w:Nat}(hw:w≤m.length)(hs:m.Pairwise (fun a b=>kc a < kc b))(h1:∀ j,j < m.length→(kc (gt m j) < kc c↔j < w))(h2:∀ x∈m,kc x≠kc c):
  (m.take w++c::m.drop w).Pairwise (fun a b=>kc a < kc b):=by
 have hs':=hs;rw[← List.take_append_drop w m,List.pairwise_append]at hs';obtain⟨p1,p2,p3⟩:=hs';have lo:∀ x∈m.take w,kc x < kc c:=fun x hx=>by
  obtain⟨j,hj,e⟩:=dm hx;rw[List.length_take]at hj;rw[lV _ _ _ (by omega)]at e;rw[← e];exact(h1 j (by omega)).2 (by omega)
 have hi:∀ x∈m.drop w,kc c < kc x:=fun x hx=>by
  obtain⟨j,hj,e⟩:=dm hx;rw[List.length_drop]at hj;rw[tq]at e;have q:=h1 (w+j) (by omega);have q2:=h2 x (List.mem_of_mem_drop hx);rw[e]at q;omega
 rw[List.pairwise_append];refine⟨p1,List.pairwise_cons.2 ⟨hi,p2⟩,fun a ha b hb=>?_⟩;rcases List.mem_cons.1 hb with rfl | hb
 ·exact lo a ha
 ·exact p3 a ha b hb
theorem Lq {m:List au}{c:au}(w:Nat)(x:au):x∈m.take w++c::m.drop w↔x=c∨x∈m:=by
 rw[List.mem_append,List.mem_cons];constructor
 ·rintro(h | h | h)
  ·exact .inr (List.mem_of_mem_take h)
  ·exact .inl h
  ·exact .inr (List.mem_of_mem_drop h)
 ·rintro(h | h)
  ·exact .inr (.inl h)
  ·rw[← List.take_append_drop w m,List.mem_append]at h;rcases h with h | h
   ·exact .inl h
   ·exact .inr (.inr h)
def jL (l:List au):Prop:=∀ a∈l,∀ b∈l,a.1=b.1→a=b
theorem UA (l:List au)(hl:l.length≤1000)(hv:∀ c∈l,be c)(hk:jL l):
  ∃ m,yw l=some m∧m.Pairwise (fun a b=>kc a < kc b)∧(∀ x,x∈m↔x∈l)∧m.length≤l.length:=by
 have key:=gZ (step:=fun x=>OZ x.1 x.2.1 x.2.2) l.length
  (fun k s=>∃ m,s=(l,m,(k:Int))∧m.length≤k∧m.Pairwise (fun a b=>kc a < kc b)∧∀ x,x∈m↔x∈l.take k)
  (fun y=>y.Pairwise (fun a b=>kc a < kc b)∧(∀ x,x∈y↔x∈l)∧y.length≤l.length)
  (x:=(l,[],0)) ⟨[],rfl,Nat.le_refl _,by simp,by simp⟩ (by omega)
  (by
   rintro k s hk' ⟨m,rfl,h1,h2,h3⟩;have hml:∀ x∈m,x∈l:=fun x hx=>List.mem_of_mem_take ((h3 x).1 hx);obtain⟨w,kn,e1,e2,e3,e4⟩:=HB hk' (by omega) (fun x hx=>hv x (hml x hx)) (hv _ (ck hk')) h2;have f:af .i64 ((k:Int)+1)=true:=aE (by omega);have ht:=eG l hk';show ∃ s',q71_0 L71_1 l m (k:Int)=some (Sum.inl s')∧_;unfold q71_0;rw[show decide ((k:Int) < (↑(List.length l):Int))=true from aN hk',cond_true,e1,bind_some'];cases kn with
   | true=>
    simp only[Bool.not_true,cond_false];rw[aj f];refine⟨_,rfl,m,rfl,by omega,h2,fun x=>?_⟩;rw[h3,ht,List.mem_append,List.mem_singleton];constructor
    ·exact .inl
    ·rintro(h | h)
     ·exact h
     ·rw[h]; exact(h3 _).1 (e4.1 rfl)
   | false=>
    simp only[Bool.not_false,cond_true];have c1:pp m (w:Int) (m.length:Int)=m.drop w:=by
     unfold pp
     simp[List.take_of_length_le]
    have c2:pp m 0 (w:Int)=m.take w:=by
     unfold pp
     simp
    rw[aj (aC hk'),aj (decide_eq_true (by omega)),aj (decide_eq_true (show(w:Int)≤(↑(List.length m):Int)by omega)),aj (decide_eq_true (Int.le_refl _)),show pp m (w:Int) (↑(List.length m):Int)=m.drop w from c1,c2,bI,
     aj (bY (by simp; omega)),aj (decide_eq_true (Int.le_refl _)),aj (decide_eq_true (by omega)),aj (decide_eq_true (show(w:Int)≤(↑(List.length m):Int)by omega)),aj (bY (by simp; omega)),aj (bY (by simp; omega)),aj f]
    have hn:gt l k∉m:=fun h=>by have:=e4.2 h; cases this
    refine⟨_,rfl,m.take w++gt l k::m.drop w,rfl,by simp; omega,Lp e2 h2 e3 (fun x hx e=>hn ?_),fun x=>?_⟩
    ·rw[← hk x (hml x hx) _ (ck hk') (Hz (hv x (hml x hx)) (hv _ (ck hk')) e)];exact hx
    ·rw[Lq,h3,ht,List.mem_append,List.mem_singleton];exact Or.comm)
  (by
   rintro s ⟨m,rfl,h1,h2,h3⟩;refine⟨m,?_,h2,by rw[List.take_length]at h3; exact h3,h1⟩;show q71_0 L71_1 l m (l.length:Int)=_;unfold q71_0;rw[show decide ((l.length:Int) < (↑(List.length l):Int))=false from aV _,cond_false])
 obtain⟨m,h1,h2,h3⟩:=key;refine⟨m,?_,h2,h3⟩;show q71 AO l=_;unfold q71;rw[show AO (l,[],0)=some m from h1];rfl
namespace Pdq109
abbrev E:=au
section
variable {β:Type} [Inhabited β] {v:β→E} {C:β→β→Int}
def lt (C:β→β→Int)(x y:β):Bool:=decide (C x y < 0)
theorem wP (x y:β):decide (C x y < 0)=lt C x y:=rfl
theorem eX (a:Nat):∀ (j:Nat) (d:Array β),(Sort.insInner (lt C) a j d).size=d.size
 | 0,d=>by rw[Sort.insInner]
 | j+1,d=>by
  rw[Sort.insInner];split
  ·rw[eX a j,am]
  ·rfl
theorem eY (hi first:Nat):∀ (n root:Nat) (d:Array β),hi-root≤n→(Sort.siftDown (lt C) hi first root d).size=d.size:=by
 intro n
 induction n with
 | zero=>intro root d h; rw[Sort.siftDown,dif_pos (by omega)]
 | succ n ih=>
  intro root d h;rw[Sort.siftDown];split
  ·rfl
  ·split
   ·split
    ·rfl
    ·rw[dif_pos (by rename_i h1 h2 h3; simp only[Bool.and_eq_true,decide_eq_true_eq]at h2; omega),ih _ _ (by omega),am]
   ·split
    ·rfl
    ·rw[ih _ _ (by omega),am]
theorem dR (hi first:Nat):∀ (k:Nat) (d:Array β),(Sort.heapBuild (lt C) hi first k d).size=d.size
 | 0,d=>rfl
 | k+1,d=>by rw[Sort.heapBuild,dR hi first k,eY hi first _ k d (Nat.le_refl _)]
variable (hC:∀ x y,P80 (v x,v y)=some (C x y))
include hC
theorem Vd {a b i:Nat}{j:Nat}{d:Array β}(h1:j < d.size)(h2:d.size≤250)(h3:a≤250):
  xF ((a:Int),(b:Int),(i:Int),(j:Int),MA v d)=some ((a:Int),(b:Int),(i:Int),MA v (Sort.insInner (lt C) a j d)):=by
 refine aH (fun s r n=>∃ (j:Nat) (d:Array β),j < d.size∧d.size≤250∧s=((a:Int),(b:Int),(i:Int),(j:Int),MA v d)∧r=((a:Int),(b:Int),(i:Int),MA v (Sort.insInner (lt C) a j d))∧n=j) ⟨j,d,h1,h2,rfl,rfl,rfl⟩ (by omega) ?_;rintro s r n ⟨j,d,q1,q2,rfl,rfl,rfl⟩;simp only[u5,EJ,xE];cases n with
 | zero=>left; simp(disch:=omega) only[i5,dF,cond_false,Sort.insInner]
 | succ j=>
  by_cases e:a < j+1
  ·simp(disch:=omega) only[i5,dT,cond_true,aD,al,p1,aF,aP,hC,bind_some',wP,Nat.add_sub_cancel,Int.toNat_natCast]
   cases hl:lt C d[j+1]! d[j]!
   ·left;rw[show Sort.insInner (lt C) a (j+1) d=d by rw[Sort.insInner]; simp[hl]];simp only[cond_false]
   ·right;rw[show Sort.insInner (lt C) a (j+1) d=Sort.insInner (lt C) a j (Sort.swp d (j+1) j)by rw[Sort.insInner]; simp[hl,e]]
    simp(disch:=omega) only[cond_true,bu,aT,bv,al]
    exact⟨_,j,rfl,⟨j,Sort.swp d (j+1) j,by rw[am]; omega,by rwa [am],rfl,rfl,rfl⟩,by omega⟩
  ·left;rw[show Sort.insInner (lt C) a (j+1) d=d by rw[Sort.insInner]; simp[e]]
   simp(disch:=omega) only[i5,dF,cond_false]
theorem ins {a b:Nat}{d:Array β}(hb:b≤d.size)(hz:d.size≤250)(ha:a≤250):hX ((a:Int),(b:Int),MA v d)=some (MA v (Sort.insertionSort (lt C) d a b)):=by
 have e:xH ((a:Int),(b:Int),((a+1:Nat):Int),MA v d)=some (MA v (Sort.insOuter (lt C) a b (a+1) d)):=by
  refine aH (fun s r n=>∃ (i:Nat) (d:Array β),b≤d.size∧d.size≤250∧s=((a:Int),(b:Int),(i:Int),MA v d)∧r=MA v (Sort.insOuter (lt C) a b i d)∧n=b-i) ⟨a+1,d,hb,hz,rfl,rfl,rfl⟩ (by omega) ?_;rintro s r n ⟨i,d,q1,q2,rfl,rfl,rfl⟩;simp only[u4,EL,xG];rw[Sort.insOuter];by_cases e:i < b
  ·right
   simp(disch:=omega) only[i5,dT,cond_true,Vd hC,bind_some',aF,al,a1]
   exact⟨_,b-(i+1),rfl,⟨i+1,Sort.insInner (lt C) a i d,by rwa [eX],by rwa [eX],rfl,by rw[if_pos e],rfl⟩,by omega⟩
  ·left
   simp(disch:=omega) only[i5,dF,cond_false,if_neg e]
 simp(disch:=omega) only[u3,hX,W2,R4,aF,al,a1,e,bind_some',Sort.insertionSort]
theorem Ij {lo hi first:Nat}{d:Array β}(hs:first+hi≤d.size)(hl:lo < hi∨hi=0)(hz:d.size≤250)(h0:lo≤250):lj ((lo:Int),(hi:Int),(first:Int),MA v d)=some (MA v (Sort.siftDown (lt C) hi first lo d)):=by
 have key:∃ y,xJ ((hi:Int),(first:Int),(lo:Int),MA v d)=some y∧Sum.elim id id y=MA v (Sort.siftDown (lt C) hi first lo d):=by
  refine iR (fun s n=>∃ (root:Nat) (d':Array β),first+hi≤d'.size∧(root < hi∨hi=0)∧d'.size≤250∧root≤250∧s=((hi:Int),(first:Int),(root:Int),MA v d')∧Sort.siftDown (lt C) hi first root d'=Sort.siftDown (lt C) hi first lo d∧n=hi-root) _
   ⟨lo,d,hs,hl,hz,h0,rfl,rfl,rfl⟩ (by omega) ?_
  rintro s n ⟨root,d',g1,g0,g2,g3,rfl,g4,rfl⟩;rw[← g4]
  clear g4
  simp only[u4,EP,xI];rw[Sort.siftDown];by_cases e:hi≤2*root+1
  ·left
   simp(disch:=omega) only[m2,aF,al,aF,a1,iq,dT,cond_true,dif_pos (show 2*root+1≥hi from e)]
   exact⟨_,rfl,rfl⟩
  ·simp(disch:=omega) only[m2,aF,al,aF,a1,iq,i5,dF,cond_false,dif_neg (show ¬ 2*root+1≥hi from e),an]
   by_cases e2:2*root+1+1 < hi
   ·simp(disch:=omega) only[dT,cond_true,aF,al,aD,aP,hC,bind_some',wP,Bool.true_and]
    cases hl1:lt C d'[first+(2*root+1)]! d'[first+(2*root+1)+1]!
    ·simp(disch:=omega) only[cond_false,aF,al,aD,aP,hC,bind_some',wP,Bool.false_eq_true,if_false]
     cases hl2:lt C d'[first+root]! d'[first+(2*root+1)]!
     ·left; simp only[Bool.not_false,cond_true,if_true]; exact⟨_,rfl,rfl⟩
     ·right
      simp(disch:=omega) only[Bool.not_true,cond_false,Bool.false_eq_true,if_false,aD,al,Int.toNat_natCast,bu,aT,bv]
      exact⟨_,hi-(2*root+1),rfl,⟨2*root+1,Sort.swp d' (first+root) (first+(2*root+1)),by rw[am]; omega,by omega,by rw[am]; omega,by omega,rfl,rfl,rfl⟩,by omega⟩
    ·simp(disch:=omega) only[cond_true,aF,al,aD,aP,hC,bind_some',wP,if_true]
     cases hl2:lt C d'[first+root]! d'[first+(2*root+1+1)]!
     ·left;have hl2':lt C d'[first+root]! d'[first+(2*root+2)]! = false:=hl2;simp only[Bool.not_false,cond_true,hl2',if_true]; exact⟨_,rfl,rfl⟩
     ·right;have hl2':lt C d'[first+root]! d'[first+(2*root+2)]! = true:=hl2
      simp(disch:=omega) only[hl2',Bool.not_true,cond_false,Bool.false_eq_true,if_false,aD,al,Int.toNat_natCast,bu,aT,bv,dif_pos (show 2*root+2 < hi from e2)]
      exact⟨_,hi-(2*root+1+1),rfl,⟨2*root+1+1,Sort.swp d' (first+root) (first+(2*root+2)),by rw[am]; omega,by omega,by rw[am]; omega,by omega,rfl,rfl,rfl⟩,by omega⟩
   ·simp(disch:=omega) only[dF,cond_false,aF,al,aD,aP,hC,bind_some',wP,Bool.false_and,Bool.false_eq_true,if_false]
    cases hl2:lt C d'[first+root]! d'[first+(2*root+1)]!
    ·left; simp only[Bool.not_false,cond_true,if_true]; exact⟨_,rfl,rfl⟩
    ·right
     simp(disch:=omega) only[Bool.not_true,cond_false,Bool.false_eq_true,if_false,aD,al,Int.toNat_natCast,bu,aT,bv]
     exact⟨_,hi-(2*root+1),rfl,⟨2*root+1,Sort.swp d' (first+root) (first+(2*root+1)),by rw[am]; omega,by omega,by rw[am]; omega,by omega,rfl,rfl,rfl⟩,by omega⟩
 obtain⟨y,e1,e2⟩:=key;simp only[u4,lj,W5,R7,e1,bind_some'];cases y with
 | inl x=>simp only[Sum.elim_inl]; rw[← e2]; rfl
 | inr x=>simp only[Sum.elim_inr]; rw[← e2]; rfl
theorem heap {a b:Nat}{d:Array β}(hab:a < b)(hb:b≤d.size)(hz:d.size≤250):hY ((a:Int),(b:Int),MA v d)=some (MA v (Sort.heapSort (lt C) d a b)):=by
 have c0:∀ k:Nat,(0:Int)=((0:Nat):Int):=fun _=>rfl;have e1:∀ (k:Nat),k≤b-a→xL ((a:Int),0,((b-a:Nat):Int),(k:Int)-1,MA v d)=some ((a:Int),0,((b-a:Nat):Int),MA v (Sort.heapBuild (lt C) (b-a) a k d)):=fun k hk=>by
  refine aH (fun s r n=>∃ (k:Nat) (d':Array β),k≤b-a∧d'.size=d.size∧s=((a:Int),0,((b-a:Nat):Int),(k:Int)-1,MA v d')∧r=((a:Int),0,((b-a:Nat):Int),MA v (Sort.heapBuild (lt C) (b-a) a k d'))∧n=k) ⟨k,d,hk,rfl,rfl,rfl,rfl⟩ (by omega) ?_;rintro s r n ⟨k,d',q1,q2,rfl,rfl,rfl⟩;simp only[u5,EW,xK];cases n with
  | zero=>left; rfl
  | succ k=>
   right;have g1:((k+1:Nat):Int)-1=(k:Int):=by omega
   have g2:decide ((0:Int)≤(k:Int))=true:=by simp
   simp(disch:=omega) only[g1,g2,cond_true,Ij hC,bind_some',nI,al]
   exact⟨_,k,rfl,⟨k,Sort.siftDown (lt C) (b-a) a k d',by omega,by rw[eY _ _ _ _ _ (Nat.le_refl _),q2],rfl,rfl,rfl⟩,by omega⟩
 have e2:∀ (d:Array β) (k:Nat),k≤b-a→b≤d.size→d.size≤250→xN ((a:Int),0,(k:Int)-1,MA v d)=some (MA v (Sort.heapPop (lt C) a k d)):=fun d k hk hb hz=>by
  refine aH (fun s r n=>∃ (k:Nat) (d':Array β),k≤b-a∧d'.size=d.size∧s=((a:Int),0,(k:Int)-1,MA v d')∧r=MA v (Sort.heapPop (lt C) a k d')∧n=k) ⟨k,d,hk,rfl,rfl,rfl,rfl⟩ (by omega) ?_;rintro s r n ⟨k,d',q1,q2,rfl,rfl,rfl⟩;simp only[u4,EY,xM];cases n with
  | zero=>left; rfl
  | succ k=>
   right;have g1:((k+1:Nat):Int)-1=(k:Int):=by omega
   have g2:decide ((0:Int)≤(k:Int))=true:=by simp
   have g3:lj (0,(k:Int),(a:Int),MA v (Sort.swp d' a (a+k)))=some (MA v (Sort.siftDown (lt C) k a 0 (Sort.swp d' a (a+k)))):=Ij hC (lo:=0) (by rw[am]; omega) (by omega) (by rw[am]; omega) (by omega)
   simp(disch:=omega) only[g1,g2,cond_true,an,aF,al,aD,aP,Int.toNat_natCast,bu,aT,bv,g3,bind_some',nI]
   exact⟨_,k,rfl,⟨k,Sort.siftDown (lt C) k a 0 (Sort.swp d' a (a+k)),by omega,by rw[eY _ _ _ _ _ (Nat.le_refl _),am,q2],rfl,rfl,rfl⟩,by omega⟩
 have t1:((b-a-1:Nat):Int)=(b:Int)-(a:Int)-1:=by omega
 have t2:Int.tdiv ((b-a-1:Nat):Int) 2=((b-a-1) / 2:Nat):=C0 _;have e1':=e1 ((b-a-1) / 2+1) (by omega);rw[show(((b-a-1) / 2+1:Nat):Int)-1=(((b-a-1) / 2:Nat):Int)by omega]at e1';have e2':=e2 (Sort.heapBuild (lt C) (b-a) a ((b-a-1) / 2+1) d) (b-a) (Nat.le_refl _) (by rw[dR]; exact hb) (by rw[dR]; exact hz)
 simp(disch:=omega) only[u3,hY,W7,Sc,pn,aF,al,p1,t2,e1',bind_some',nI]
 rw[show((b-a-1:Nat):Int)=((b-a:Nat):Int)-1 by omega]
 simp(disch:=omega) only[nI,al,e2',bind_some',Sort.heapSort]
omit hC
theorem Ik {n:Nat}(h:n < 256):P67 (n:Int)=some ((Sort.bitsLen n:Nat):Int):=by
 have f:af .u8 (n:Int)=true:=by
  rw[af,decide_eq_true_eq];have e2:(2:Int)^8=256:=by decide
  simp only[IntKind.wrap,IntKind.bits,IntKind.signed,Bool.false_and,e2,Bool.false_eq_true,if_false];omega
 have d1:decide ((4294967296:Int)≤(n:Int))=false:=by simp; omega
 have d2:decide ((65536:Int)≤(n:Int))=false:=by simp; omega
 have d3:decide ((256:Int)≤(n:Int))=false:=by simp; omega
 simp only[P67,p67,q67,P95,p95,q95,zW,ED,zV,d1,cond_false,bind_some',d2,d3,f,al];have key:∀ m:Fin 256,∀ t:ByteArray,t=tb→aA (m.val:Int) t.size=true∧zq t (m.val:Int)=((Sort.bitsLen m.val:Nat):Int):=by
  intro m t ht;subst ht;constructor
  ·exact aC (by have:=m.isLt; exact this)
  ·revert m; decide +kernel
 obtain⟨k1,k2⟩:=key ⟨n,h⟩ _ rfl;simp only at k1 k2;have hl:=(Sort.bitsLen_le_iff n 8).2 (by omega);have z:(0:Int)+((Sort.bitsLen n:Nat):Int)=((Sort.bitsLen n:Nat):Int):=by omega
 simp(disch:=omega) only[k1,al,k2,z,aF,bind_some']
theorem npt {n:Nat}(h:n < 256):h9 (n:Int)=some (((1 <<< Sort.bitsLen n:Nat)):Int):=by
 have hl:=(Sort.bitsLen_le_iff n 8).2 (by omega);have f:af .u64 (n:Int)=true:=nH (by omega) (by omega);have d:decide ((0:Int)≤((Sort.bitsLen n:Nat):Int))=true:=by simp
 have e:gC .u64 1 ((Sort.bitsLen n:Nat):Int)=((1 <<< Sort.bitsLen n:Nat):Int):=by
  have hm:min ((Sort.bitsLen n:Nat):Int).toNat (IntKind.bits .u64)=Sort.bitsLen n:=by show min (Sort.bitsLen n) 64=_; omega
  have h2:2^Sort.bitsLen n≤2^8:=Nat.pow_le_pow_right (by omega) hl;unfold gC;rw[hm,show((1:Int)*2^Sort.bitsLen n)=((2^Sort.bitsLen n:Nat):Int)by simp,zN (by omega),Nat.one_shiftLeft]
 simp only[h9,Sg,JN,f,al,Ik h,bind_some',d,e]
theorem Ve (r:UInt64):ia (r.toNat:Int)=some (((Sort.xorNext r).toNat:Int),((Sort.xorNext r).toNat:Int)):=by
 have s13:∀ a:UInt64,gC .u64 (a.toNat:Int) 13=((a <<< 13).toNat:Int):=fun a=>Ju a 13 (by omega);have s7:∀ a:UInt64,bG .u64 (a.toNat:Int) 7=((a >>> 7).toNat:Int):=fun a=>WE a 7 (by omega);have s17:∀ a:UInt64,gC .u64 (a.toNat:Int) 17=((a <<< 17).toNat:Int):=fun a=>Ju a 17 (by omega);simp only[ia,Sj,JO,s13,s7,s17,Mb,Sort.xorNext]
theorem brk {a b:Nat}{d:Array β}(hab:a≤b)(hb:b≤d.size)(hz:d.size≤250):gE ((a:Int),(b:Int),MA v d)=some (MA v (Sort.breakPatterns d a b)):=by
 unfold Sort.breakPatterns;simp only[];by_cases h8:8≤b-a
 ·have g8:decide ((8:Int)≤((b-a:Nat):Int))=true:=by simp; omega
  have hm1:1 <<< Sort.bitsLen (b-a)≤2*(b-a):=by rw[Nat.one_shiftLeft]; exact Sort.two_pow_bitsLen_le (by omega)
  have hm0:0 < 1 <<< Sort.bitsLen (b-a):=by rw[Nat.one_shiftLeft]; exact Nat.two_pow_pos _
  generalize hm:1 <<< Sort.bitsLen (b-a)=m at *;generalize hn:b-a=n at *
  let st:Nat→UInt64×Array β:=fun k=>Nat.rec (UInt64.ofNat n,d) (fun i s=>Sort.breakStep a n m s (a+n / 4*2-1+i)) k
  have hst:∀ k,(st k).2.size=d.size:=fun k=>by
   induction k with
   | zero=>rfl
   | succ k ih=>show(Sort.swp _ _ _).size=_; rw[am]; exact ih
  have hrun:xP ((a:Int),(n:Int),(m:Int),((a+n / 4*2-1:Nat):Int),MA v d,(n:Int))=some (MA v (st 3).2,((st 3).1.toNat:Int)):=by
   have h0:((UInt64.ofNat n).toNat:Int)=(n:Int):=by rw[UInt64.toNat_ofNat']; omega
   refine aY 3 (fun k=>((a:Int),(n:Int),(m:Int),((a+n / 4*2-1+k:Nat):Int),MA v (st k).2,((st k).1.toNat:Int))) _ (fun k hk=>?_) ?_ (by omega) |> fun h=>by
    have e:((a:Int),(n:Int),(m:Int),((a+n / 4*2-1+0:Nat):Int),MA v (st 0).2,((st 0).1.toNat:Int))=((a:Int),(n:Int),(m:Int),((a+n / 4*2-1:Nat):Int),MA v d,(n:Int)):=by
     show(_,_,_,_,_,((UInt64.ofNat n).toNat:Int))=_;rw[h0]; rfl
    rw[← e]; exact h
   ·have q4:Int.tdiv (n:Int) 4=((n / 4:Nat):Int):=C0 n;have q5:((n / 4:Nat):Int)*2=((n / 4*2:Nat):Int):=by omega
    have hsz:=hst k;generalize hr:st k=s at *;have hnx:st (k+1)=Sort.breakStep a n m (st k) (a+n / 4*2-1+k):=rfl;rw[hr]at hnx;have hlt:=(Sort.xorNext s.1).toNat_lt;have hbd:(Sort.xorNext s.1).toNat &&& (m-1)≤m-1:=Nat.and_le_right;have fu:af .u64 ((m-1:Nat):Int)=true:=nH (by omega) (by omega)
    simp(disch:=omega) only[u6,xO,tz,q4,aF,al,q5,an,a1,iq,dT,cond_true,Ve,bind_some',fu,p1,Ma]
    rw[hnx];unfold Sort.breakStep;simp only[];generalize (Sort.xorNext s.1).toNat &&& (m-1)=o at *;by_cases ho:n≤o
    ·simp(disch:=omega) only[dT,cond_true,pn,aF,al,an,aD,aP,Int.toNat_natCast,bu,aT,bv,if_pos (show o≥n from ho),a1]
     rw[show a+n / 4*2-1+k+1=a+n / 4*2-1+(k+1)by omega]
    ·simp(disch:=omega) only[dF,cond_false,pn,aF,al,an,aD,aP,Int.toNat_natCast,bu,aT,bv,if_neg (show ¬ o≥n from ho),a1]
     rw[show a+n / 4*2-1+k+1=a+n / 4*2-1+(k+1)by omega]
   ·have q4:Int.tdiv (n:Int) 4=((n / 4:Nat):Int):=C0 n;have q5:((n / 4:Nat):Int)*2=((n / 4*2:Nat):Int):=by omega
    simp(disch:=omega) only[u6,xO,tz,q4,aF,al,q5,an,a1,iq,dF,cond_false]
  have q4:Int.tdiv (n:Int) 4=((n / 4:Nat):Int):=C0 n;have q5:((n / 4:Nat):Int)*2=((n / 4*2:Nat):Int):=by omega
  have fu:af .u64 (n:Int)=true:=nH (by omega) (by omega);have hn':(b:Int)-(a:Int)=(n:Int):=by omega
  have hnp:=npt (n:=n) (by omega);rw[hm]at hnp;have hst3:st 3=Sort.breakStep a n m (Sort.breakStep a n m (Sort.breakStep a n m (UInt64.ofNat n,d) (a+n / 4*2-1)) (a+n / 4*2-1+1)) (a+n / 4*2-1+2):=rfl;rw[hst3]at hrun;rw[if_pos (show n≥8 from h8)]
  simp(disch:=omega) only[u3,gE,Sm,JQ,hn',aF,al,g8,cond_true,fu,hnp,bind_some',q4,q5,an,p1,hrun]
 ·have g8:decide ((8:Int)≤((b-a:Nat):Int))=false:=by simp; omega
  simp(disch:=omega) only[u3,gE,Sm,JQ,pn,aF,al,g8,cond_false,if_neg (show ¬ b-a≥8 from h8)]
theorem rev {a b:Nat}{d:Array β}(hab:a≤b)(hb1:1≤b)(hb:b≤d.size)(hz:d.size≤250):ic ((a:Int),(b:Int),MA v d)=some (MA v (Sort.reverseRange d a b)):=by
 have e:xR ((a:Int),((b-1:Nat):Int),MA v d)=some (MA v (Sort.reverseLoop a (b-1) d)):=by
  refine aH (fun s r n=>∃ (i j:Nat) (d:Array β),j < d.size∧d.size≤250∧i≤250∧s=((i:Int),(j:Int),MA v d)∧r=MA v (Sort.reverseLoop i j d)∧n=j-i) ⟨a,b-1,d,by omega,hz,by omega,rfl,rfl,rfl⟩ (by omega) ?_;rintro s r n ⟨i,j,d,q1,q2,q3,rfl,rfl,rfl⟩;simp only[u3,E6,xQ];by_cases e:i < j
  ·right;rw[show Sort.reverseLoop i j d=Sort.reverseLoop (i+1) (j-1) (Sort.swp d i j)by rw[Sort.reverseLoop,if_pos e]]
   simp(disch:=omega) only[i5,dT,cond_true,aD,aP,al,Int.toNat_natCast,bu,aT,bv,a1,aF,p1]
   exact⟨_,j-1-(i+1),rfl,⟨i+1,j-1,Sort.swp d i j,by rw[am]; omega,by rwa [am],by omega,rfl,rfl,rfl⟩,by omega⟩
  ·left;rw[show Sort.reverseLoop i j d=d by rw[Sort.reverseLoop,if_neg e]]
   simp(disch:=omega) only[i5,dF,cond_false]
 simp(disch:=omega) only[u3,ic,Xn,SC,p1,aF,al,e,bind_some',Sort.reverseRange]
include hC
theorem ord {a b s:Nat}{d:Array β}(ha:a < d.size)(hb:b < d.size)(hs:s≤250):qD ((a:Int),(b:Int),MA v d,(s:Int))=some (((Sort.order2 (lt C) d a b s).1:Int),((Sort.order2 (lt C) d a b s).2.1:Int),MA v d,((Sort.order2 (lt C) d a b s).2.2:Int)):=by
 unfold Sort.order2
 simp(disch:=omega) only[u4,qD,Xe,Sp,aD,al,aP,hC,bind_some',wP,a1,aF]
 cases lt C d[b]! d[a]! <;> rfl
theorem Vf {a b c s:Nat}{d:Array β}(ha:a < d.size)(hb:b < d.size)(hc:c < d.size)(hs:s≤200):m6 ((a:Int),(b:Int),(c:Int),MA v d,(s:Int))=some (((Sort.median (lt C) d a b c s).1:Int),MA v d,((Sort.median (lt C) d a b c s).2:Int)):=by
 unfold Sort.median;simp only[];have o1:=Sort.order2_mem (lt C) d a b s;have n1:=Sort.order2_count (lt C) d a b s;generalize g1:Sort.order2 (lt C) d a b s=r1 at *;have o2:=Sort.order2_mem (lt C) d r1.2.1 c r1.2.2;have n2:=Sort.order2_count (lt C) d r1.2.1 c r1.2.2;generalize g2:Sort.order2 (lt C) d r1.2.1 c r1.2.2=r2 at *;have e1:qD ((a:Int),(b:Int),MA v d,(s:Int))=some ((r1.1:Int),(r1.2.1:Int),MA v d,(r1.2.2:Int)):=by rw[ord hC ha hb (by omega),g1]
 have e2:qD ((r1.2.1:Int),(c:Int),MA v d,(r1.2.2:Int))=some ((r2.1:Int),(r2.2.1:Int),MA v d,(r2.2.2:Int)):=by rw[ord hC (by omega) hc (by omega),g2]
 have e3:=ord hC (d:=d) (a:=r1.1) (b:=r2.1) (s:=r2.2.2) (by omega) (by omega) (by omega);simp only[u5,m6,Xg,Ss,e1,e2,e3,bind_some']
theorem Vg {a s:Nat}{d:Array β}(ha:1≤a)(hb:a+1 < d.size)(hz:d.size≤250)(hs:s≤200):tA ((a:Int),MA v d,(s:Int))=some (((Sort.medianAdjacent (lt C) d a s).1:Int),MA v d,((Sort.medianAdjacent (lt C) d a s).2:Int)):=by
 have e:=Vf hC (d:=d) (a:=a-1) (b:=a) (c:=a+1) (s:=s) (by omega) (by omega) hb hs;unfold Sort.medianAdjacent
 simp(disch:=omega) only[u3,tA,Xj,Sw,p1,aF,al,a1,e,bind_some']
omit hC
def hN:Sort.Hint→Int
 | .unknown=>0
 | .increasing=>1
 | .decreasing=>2
include hC
theorem chp {a b:Nat}{d:Array β}(hab:a < b)(hb:b≤d.size)(hz:d.size≤250):ib ((a:Int),(b:Int),MA v d)=some (((Sort.choosePivot (lt C) d a b).1:Int),hN (Sort.choosePivot (lt C) d a b).2,MA v d):=by
 unfold Sort.choosePivot;simp only[];generalize hn:b-a=n at *;have q4:Int.tdiv (n:Int) 4=((n / 4:Nat):Int):=C0 n;have q1:((n / 4:Nat):Int)*1=((n / 4*1:Nat):Int):=by omega
 have q2:((n / 4:Nat):Int)*2=((n / 4*2:Nat):Int):=by omega
 have q3:((n / 4:Nat):Int)*3=((n / 4*3:Nat):Int):=by omega
 have hn':(b:Int)-(a:Int)=(n:Int):=by omega
 have hfin:∀ (p s:Nat),(cond (decide ((s:Int)=0)) (some ((p:Int),(1:Int),MA v d)) (cond (decide ((s:Int)=12)) (some ((p:Int),(2:Int),MA v d)) (some ((p:Int),(0:Int),MA v d)))) =
   some ((p:Int),hN (if s=0 then Sort.Hint.increasing else if s=12 then Sort.Hint.decreasing else Sort.Hint.unknown),MA v d):=fun p s=>by
  by_cases h0:s=0
  ·subst h0; rfl
  ·have d0:decide ((s:Int)=0)=false:=by simp; omega
   rw[d0,if_neg h0];by_cases h12:s=12
   ·subst h12; rfl
   ·have d1:decide ((s:Int)=12)=false:=by simp; omega
    rw[d1,if_neg h12]; rfl
 simp(disch:=omega) only[u3,ib,Xl,Sz,hn',aF,al,q4,q1,q2,q3,an]
 by_cases h8:8≤n
 ·have d8:decide ((8:Int)≤(n:Int))=true:=by simp; omega
  rw[d8,cond_true,if_pos (show n≥8 from h8)];by_cases h50:50≤n
  ·have d50:decide ((50:Int)≤(n:Int))=true:=by simp; omega
   rw[d50,cond_true,if_pos (show n≥50 from h50)];have m1:=Sort.medianAdjacent_mem (lt C) d (a+n / 4*1) 0;have c1:=Sort.medianAdjacent_count (lt C) d (a+n / 4*1) 0;have e1:=Vg hC (d:=d) (a:=a+n / 4*1) (s:=0) (by omega) (by omega) hz (by omega);generalize Sort.medianAdjacent (lt C) d (a+n / 4*1) 0=r1 at *;have m2:=Sort.medianAdjacent_mem (lt C) d (a+n / 4*2) r1.2;have c2:=Sort.medianAdjacent_count (lt C) d (a+n / 4*2) r1.2;have e2:=Vg hC (d:=d) (a:=a+n / 4*2) (s:=r1.2) (by omega) (by omega) hz (by omega);generalize Sort.medianAdjacent (lt C) d (a+n / 4*2) r1.2=r2 at *;have m3:=Sort.medianAdjacent_mem (lt C) d (a+n / 4*3) r2.2;have c3:=Sort.medianAdjacent_count (lt C) d (a+n / 4*3) r2.2;have e3:=Vg hC (d:=d) (a:=a+n / 4*3) (s:=r2.2) (by omega) (by omega) hz (by omega);generalize Sort.medianAdjacent (lt C) d (a+n / 4*3) r2.2=r3 at *;have e4:=Vf hC (d:=d) (a:=r1.1) (b:=r2.1) (c:=r3.1) (s:=r3.2) (by omega) (by omega) (by omega) (by omega);have e1':tA (((a+n / 4*1:Nat):Int),MA v d,0)=some ((r1.1:Int),MA v d,(r1.2:Int)):=e1;simp only[e1',e2,e3,e4,bind_some',hfin]
  ·have d50:decide ((50:Int)≤(n:Int))=false:=by simp; omega
   rw[d50,cond_false,if_neg (show ¬ n≥50 from h50)];have e4:m6 (((a+n / 4*1:Nat):Int),((a+n / 4*2:Nat):Int),((a+n / 4*3:Nat):Int),MA v d,0)=some (((Sort.median (lt C) d (a+n / 4*1) (a+n / 4*2) (a+n / 4*3) 0).1:Int),MA v d,((Sort.median (lt C) d (a+n / 4*1) (a+n / 4*2) (a+n / 4*3) 0).2:Int)):=Vf hC (s:=0) (by omega) (by omega) (by omega) (by omega);simp only[e4,bind_some',hfin]
 ·have d8:decide ((8:Int)≤(n:Int))=false:=by simp; omega
  rw[d8,cond_false,if_neg (show ¬ n≥8 from h8)];rfl
omit hC
theorem qq (d:Array β)(b:Nat):∀ (n i:Nat),b-i≤n→i≤b→i≤Sort.scanSorted (lt C) d b i∧Sort.scanSorted (lt C) d b i≤b:=by
 intro n
 induction n with
 | zero=>intro i h1 h2; rw[Sort.scanSorted,if_neg (by simp; omega)]; omega
 | succ n ih=>
  intro i h1 h2;rw[Sort.scanSorted];split
  ·rename_i h;simp only[Bool.and_eq_true,decide_eq_true_eq]at h;have:=ih (i+1) (by omega) (by omega);omega
  ·omega
theorem jN:∀ (j:Nat) (d:Array β),(Sort.shiftDown (lt C) j d).size=d.size
 | 0,d=>by rw[Sort.shiftDown]
 | j+1,d=>by
  rw[Sort.shiftDown];split
  ·rfl
  ·rw[jN j,am]
theorem jO (b:Nat):∀ (n j:Nat) (d:Array β),b-j≤n→(Sort.shiftUp (lt C) b j d).size=d.size:=by
 intro n
 induction n with
 | zero=>intro j d h; rw[Sort.shiftUp,if_neg (by omega)]
 | succ n ih=>
  intro j d h;rw[Sort.shiftUp];split
  ·split
   ·rfl
   ·rw[ih _ _ (by omega),am]
  ·rfl
include hC
theorem ps1 {a b i j:Nat}{d:Array β}(h1:1≤i)(hb:b≤d.size)(hz:d.size≤250)(hi:i≤250):xT ((a:Int),(b:Int),(i:Int),(j:Int),MA v d)=some ((a:Int),(b:Int),((Sort.scanSorted (lt C) d b i:Nat):Int),(j:Int),MA v d):=by
 refine aH (fun s r n=>∃ i:Nat,1≤i∧i≤251∧s=((a:Int),(b:Int),(i:Int),(j:Int),MA v d)∧r=((a:Int),(b:Int),((Sort.scanSorted (lt C) d b i:Nat):Int),(j:Int),MA v d)∧n=b-i) ⟨i,h1,by omega,rfl,rfl,rfl⟩ (by omega) ?_;rintro s r n ⟨i,q1,q2,rfl,rfl,rfl⟩;simp only[u5,Ff,xS];by_cases e:i < b
 ·simp(disch:=omega) only[i5,dT,cond_true,aD,al,p1,aF,aP,hC,bind_some',wP]
  cases hl:lt C d[i]! d[i-1]!
  ·right;rw[show Sort.scanSorted (lt C) d b i=Sort.scanSorted (lt C) d b (i+1)by rw[Sort.scanSorted,if_pos (by simp[e,hl])]]
   simp(disch:=omega) only[Bool.not_false,cond_true,a1,aF,al]
   exact⟨_,b-(i+1),rfl,⟨i+1,by omega,by omega,rfl,rfl,rfl⟩,by omega⟩
  ·left;rw[show Sort.scanSorted (lt C) d b i=i by rw[Sort.scanSorted,if_neg (by simp[hl])]];simp only[Bool.not_true,cond_false]
 ·left;rw[show Sort.scanSorted (lt C) d b i=i by rw[Sort.scanSorted,if_neg (by simp[e])]]
  simp(disch:=omega) only[i5,dF,cond_false]
theorem ps3 {a b i j k:Nat}{d:Array β}(hk:k < d.size)(hz:d.size≤250):xV ((a:Int),(b:Int),(i:Int),(j:Int),(k:Int),MA v d)=some ((a:Int),(b:Int),(i:Int),(j:Int),MA v (Sort.shiftDown (lt C) k d)):=by
 refine aH (fun s r n=>∃ (k:Nat) (d:Array β),k < d.size∧d.size≤250∧s=((a:Int),(b:Int),(i:Int),(j:Int),(k:Int),MA v d)∧r=((a:Int),(b:Int),(i:Int),(j:Int),MA v (Sort.shiftDown (lt C) k d))∧n=k) ⟨k,d,hk,hz,rfl,rfl,rfl⟩ (by omega) ?_;rintro s r n ⟨k,d,q1,q2,rfl,rfl,rfl⟩;simp only[u6,Fh,xU];cases n with
 | zero=>left; rw[Sort.shiftDown]; rfl
 | succ k=>
  have g1:decide ((1:Int)≤((k+1:Nat):Int))=true:=by simp; omega
  simp(disch:=omega) only[g1,cond_true,aD,al,p1,aF,aP,hC,bind_some',wP,Nat.add_sub_cancel]
  cases hl:lt C d[k+1]! d[k]!
  ·left;rw[show Sort.shiftDown (lt C) (k+1) d=d by rw[Sort.shiftDown,if_pos (by simp[hl])]];simp only[Bool.not_false,cond_true]
  ·right;rw[show Sort.shiftDown (lt C) (k+1) d=Sort.shiftDown (lt C) k (Sort.swp d (k+1) k)by rw[Sort.shiftDown,if_neg (by simp[hl])]]
   simp(disch:=omega) only[Bool.not_true,cond_false,aD,al,aP,Int.toNat_natCast,bu,aT,bv]
   exact⟨_,k,rfl,⟨k,Sort.swp d (k+1) k,by rw[am]; omega,by rwa [am],rfl,rfl,rfl⟩,by omega⟩
theorem ps2 {a b i j:Nat}{d:Array β}(ha:a≤i)(h1:1≤i)(hi:i≤d.size)(hz:d.size≤250):tB ((a:Int),(b:Int),(i:Int),(j:Int),MA v d)=some ((a:Int),(b:Int),(i:Int),(j:Int),MA v (if i-a≥2 then Sort.shiftDown (lt C) (i-1) d else d)):=by
 simp only[tB,Fi,xW];by_cases e:2≤i-a
 ·have g1:decide ((2:Int)≤((i-a:Nat):Int))=true:=by simp; omega
  simp(disch:=omega) only[pn,aF,al,g1,cond_true,p1,ps3 hC,bind_some',if_pos (show i-a≥2 from e)]
 ·have g1:decide ((2:Int)≤((i-a:Nat):Int))=false:=by simp; omega
  simp(disch:=omega) only[pn,aF,al,g1,cond_false,if_neg (show ¬ i-a≥2 from e)]
theorem ps4 {a b i j k:Nat}{d:Array β}(h1:1≤k)(hk:k≤250)(hb:b≤d.size)(hz:d.size≤250):xY ((a:Int),(b:Int),(i:Int),(j:Int),(k:Int),MA v d)=some ((a:Int),(b:Int),(i:Int),(j:Int),MA v (Sort.shiftUp (lt C) b k d)):=by
 refine aH (fun s r n=>∃ (k:Nat) (d:Array β),1≤k∧k≤251∧b≤d.size∧d.size≤250∧s=((a:Int),(b:Int),(i:Int),(j:Int),(k:Int),MA v d)∧r=((a:Int),(b:Int),(i:Int),(j:Int),MA v (Sort.shiftUp (lt C) b k d))∧n=b-k) ⟨k,d,h1,by omega,hb,hz,rfl,rfl,rfl⟩ (by omega) ?_;rintro s r n ⟨k,d,q1,q0,q2,q3,rfl,rfl,rfl⟩;simp only[u6,Fk,xX];by_cases e:k < b
 ·simp(disch:=omega) only[i5,dT,cond_true,aD,al,p1,aF,aP,hC,bind_some',wP]
  cases hl:lt C d[k]! d[k-1]!
  ·left;rw[show Sort.shiftUp (lt C) b k d=d by rw[Sort.shiftUp,if_pos e,if_pos (by simp[hl])]];simp only[Bool.not_false,cond_true]
  ·right;rw[show Sort.shiftUp (lt C) b k d=Sort.shiftUp (lt C) b (k+1) (Sort.swp d k (k-1))by rw[Sort.shiftUp,if_pos e,if_neg (by simp[hl])]]
   simp(disch:=omega) only[Bool.not_true,cond_false,aD,al,aP,Int.toNat_natCast,bu,aT,bv,a1,aF]
   exact⟨_,b-(k+1),rfl,⟨k+1,Sort.swp d k (k-1),by omega,by omega,by rwa [am],by rwa [am],rfl,rfl,rfl⟩,by omega⟩
 ·left;rw[show Sort.shiftUp (lt C) b k d=d by rw[Sort.shiftUp,if_neg e]]
  simp(disch:=omega) only[i5,dF,cond_false]
theorem pis {a b:Nat}{d:Array β}(hab:a < b)(hb:b≤d.size)(hz:d.size≤250):ig ((a:Int),(b:Int),MA v d)=some ((Sort.partialInsertionSort (lt C) d a b).2,MA v (Sort.partialInsertionSort (lt C) d a b).1):=by
 have key:∃ y,x4 ((a:Int),(b:Int),((a+1:Nat):Int),0,MA v d)=some y∧Sum.elim (fun y=>(y.2,y.1)) (fun y=>(y,false)) y=(MA v (Sort.partialInsertionSort (lt C) d a b).1,(Sort.partialInsertionSort (lt C) d a b).2):=by
  refine iR (fun s n=>∃ (t i:Nat) (d':Array β),t≤5∧a < i∧i≤b∧b≤d'.size∧d'.size≤250∧s=((a:Int),(b:Int),(i:Int),((5-t:Nat):Int),MA v d')∧Sort.partialIns (lt C) a b t i d'=Sort.partialInsertionSort (lt C) d a b∧n=t) _
   ⟨5,a+1,d,by omega,by omega,by omega,hb,hz,rfl,rfl,rfl⟩ (by omega) ?_
  rintro s n ⟨t,i,d',q1,q2,q3,q4,q5,rfl,q6,rfl⟩;rw[← q6]
  clear q6
  simp only[u5,Fm,xZ];cases n with
  | zero=>left; exact⟨_,rfl,rfl⟩
  | succ t=>
   have g0:decide (((5-(t+1):Nat):Int) < 5)=true:=by simp; omega
   have hs:=qq (C:=C) d' b _ i (Nat.le_refl _) q3;rw[Sort.partialIns]
   simp(disch:=omega) only[g0,cond_true,ps1 hC,bind_some']
   generalize Sort.scanSorted (lt C) d' b i=i2 at *;by_cases e:i2=b
   ·left;have g1:decide ((i2:Int)=(b:Int))=true:=by simp; omega
    simp only[g1,cond_true,if_pos e];exact⟨_,rfl,rfl⟩
   ·have g1:decide ((i2:Int)=(b:Int))=false:=by simp; omega
    simp(disch:=omega) only[g1,cond_false,if_neg e,pn,aF,al]
    by_cases e5:b-a < 50
    ·left;have g2:decide (((b-a:Nat):Int) < 50)=true:=by simp; omega
     simp only[g2,cond_true,if_pos e5];exact⟨_,rfl,rfl⟩
    ·right;have g2:decide (((b-a:Nat):Int) < 50)=false:=by simp; omega
     have z1:(Sort.swp d' i2 (i2-1)).size=d'.size:=am _ _ _
     simp(disch:=omega) only[g2,cond_false,if_neg e5,p1,aF,al,aD,aP,Int.toNat_natCast,bu,aT,bv,ps2 hC,bind_some',pn]
     generalize hd2:(if i2-a≥2 then Sort.shiftDown (lt C) (i2-1) (Sort.swp d' i2 (i2-1))else Sort.swp d' i2 (i2-1))=d2;have z2:d2.size=d'.size:=by
      rw[← hd2]; split
      ·rw[jN,z1]
      ·exact z1
     by_cases e2:2≤b-i2
     ·have g3:decide ((2:Int)≤((b-i2:Nat):Int))=true:=by simp; omega
      simp(disch:=omega) only[g3,cond_true,a1,aF,al,ps4 hC,bind_some',if_pos (show b-i2≥2 from e2)]
      exact⟨_,t,rfl,⟨t,i2,Sort.shiftUp (lt C) b (i2+1) d2,by omega,by omega,by omega,by rw[jO _ _ _ _ (Nat.le_refl _)]; omega,by rw[jO _ _ _ _ (Nat.le_refl _)]; omega,by rw[show 5-(t+1)+1=5-t by omega],rfl,rfl⟩,by omega⟩
     ·have g3:decide ((2:Int)≤((b-i2:Nat):Int))=false:=by simp; omega
      simp(disch:=omega) only[g3,cond_false,a1,aF,al,if_neg (show ¬ b-i2≥2 from e2)]
      exact⟨_,t,rfl,⟨t,i2,d2,by omega,by omega,by omega,by omega,by omega,by rw[show 5-(t+1)+1=5-t by omega],rfl,rfl⟩,by omega⟩
 obtain⟨y,e1,e2⟩:=key
 simp(disch:=omega) only[u3,ig,Xp,SN,a1,aF,al,e1,bind_some']
 cases y with
 | inl x=>
  simp only[Sum.elim_inl,Prod.mk.injEq]at e2 ⊢;rw[e2.1,e2.2]
 | inr x=>
  simp only[Sum.elim_inr,Prod.mk.injEq]at e2 ⊢;rw[e2.1,e2.2]
theorem pe1 {a i j:Nat}{d:Array β}(ha:a < d.size)(hj:j < d.size)(hz:d.size≤250):x6 ((a:Int),(i:Int),(j:Int),MA v d)=some ((a:Int),((Sort.scanUp (fun x=>!lt C d[a]! x) d j i:Nat):Int),(j:Int),MA v d):=by
 refine aH (fun s r n=>∃ i:Nat,s=((a:Int),(i:Int),(j:Int),MA v d)∧r=((a:Int),((Sort.scanUp (fun x=>!lt C d[a]! x) d j i:Nat):Int),(j:Int),MA v d)∧n=j+1-i) ⟨i,rfl,rfl,rfl⟩ (by omega) ?_;rintro s r n ⟨i,rfl,rfl,rfl⟩;simp only[u4,Ft,x5];by_cases e:i≤j
 ·simp(disch:=omega) only[iq,dT,cond_true,aD,al,aF,aP,hC,bind_some',wP]
  cases hl:lt C d[a]! d[i]!
  ·right;rw[show Sort.scanUp (fun x=>!lt C d[a]! x) d j i=Sort.scanUp (fun x=>!lt C d[a]! x) d j (i+1)by rw[Sort.scanUp,if_pos (by simp[e,hl])]]
   simp(disch:=omega) only[Bool.not_false,cond_true,a1,aF,al]
   exact⟨_,j+1-(i+1),rfl,⟨i+1,rfl,rfl,rfl⟩,by omega⟩
  ·left;rw[show Sort.scanUp (fun x=>!lt C d[a]! x) d j i=i by rw[Sort.scanUp,if_neg (by simp[hl])]];simp only[Bool.not_true,cond_false]
 ·left;rw[show Sort.scanUp (fun x=>!lt C d[a]! x) d j i=i by rw[Sort.scanUp,if_neg (by simp[e])]]
  simp(disch:=omega) only[iq,dF,cond_false]
theorem pe2 {a i j:Nat}{d:Array β}(ha:a < d.size)(hi:1≤i)(hj:j < d.size)(hz:d.size≤250):x8 ((a:Int),(i:Int),(j:Int),MA v d)=some ((a:Int),(i:Int),((Sort.scanDown (fun x=>lt C d[a]! x) d i j:Nat):Int),MA v d):=by
 refine aH (fun s r n=>∃ j:Nat,j < d.size∧s=((a:Int),(i:Int),(j:Int),MA v d)∧r=((a:Int),(i:Int),((Sort.scanDown (fun x=>lt C d[a]! x) d i j:Nat):Int),MA v d)∧n=j) ⟨j,hj,rfl,rfl,rfl⟩ (by omega) ?_;rintro s r n ⟨j,q1,rfl,rfl,rfl⟩;simp only[u4,Fv,x7];cases n with
 | zero=>
  left;rw[show Sort.scanDown (fun x=>lt C d[a]! x) d i 0=0 by rw[Sort.scanDown]]
  simp(disch:=omega) only[iq,dF,cond_false]
 | succ j=>
  by_cases e:i≤j+1
  ·simp(disch:=omega) only[iq,dT,cond_true,aD,al,aF,aP,hC,bind_some',wP]
   cases hl:lt C d[a]! d[j+1]!
   ·left;rw[show Sort.scanDown (fun x=>lt C d[a]! x) d i (j+1)=j+1 by rw[Sort.scanDown,if_neg (by simp[hl])]];simp only[cond_false]
   ·right;rw[show Sort.scanDown (fun x=>lt C d[a]! x) d i (j+1)=Sort.scanDown (fun x=>lt C d[a]! x) d i j by rw[Sort.scanDown,if_pos (by simp[e,hl])]]
    simp(disch:=omega) only[cond_true,p1,Nat.add_sub_cancel,aF,al]
    exact⟨_,j,rfl,⟨j,by omega,rfl,rfl,rfl⟩,by omega⟩
  ·left;rw[show Sort.scanDown (fun x=>lt C d[a]! x) d i (j+1)=j+1 by rw[Sort.scanDown,if_neg (by simp[e])]]
   simp(disch:=omega) only[iq,dF,cond_false]
theorem pr0 {a i j:Nat}{d:Array β}(ha:a < d.size)(hj:j < d.size)(hz:d.size≤250):yc ((a:Int),(i:Int),(j:Int),MA v d)=some ((a:Int),((Sort.scanUp (fun x=>lt C x d[a]!) d j i:Nat):Int),(j:Int),MA v d):=by
 refine aH (fun s r n=>∃ i:Nat,s=((a:Int),(i:Int),(j:Int),MA v d)∧r=((a:Int),((Sort.scanUp (fun x=>lt C x d[a]!) d j i:Nat):Int),(j:Int),MA v d)∧n=j+1-i) ⟨i,rfl,rfl,rfl⟩ (by omega) ?_;rintro s r n ⟨i,rfl,rfl,rfl⟩;simp only[u4,FE,yb];by_cases e:i≤j
 ·simp(disch:=omega) only[iq,dT,cond_true,aD,al,aF,aP,hC,bind_some',wP]
  cases hl:lt C d[i]! d[a]!
  ·left;rw[show Sort.scanUp (fun x=>lt C x d[a]!) d j i=i by rw[Sort.scanUp,if_neg (by simp[hl])]];simp only[cond_false]
  ·right;rw[show Sort.scanUp (fun x=>lt C x d[a]!) d j i=Sort.scanUp (fun x=>lt C x d[a]!) d j (i+1)by rw[Sort.scanUp,if_pos (by simp[e,hl])]]
   simp(disch:=omega) only[cond_true,a1,aF,al]
   exact⟨_,j+1-(i+1),rfl,⟨i+1,rfl,rfl,rfl⟩,by omega⟩
 ·left;rw[show Sort.scanUp (fun x=>lt C x d[a]!) d j i=i by rw[Sort.scanUp,if_neg (by simp[e])]]
  simp(disch:=omega) only[iq,dF,cond_false]
theorem pr1 {a i j:Nat}{d:Array β}(ha:a < d.size)(hi:1≤i)(hj:j < d.size)(hz:d.size≤250):ye ((a:Int),(i:Int),(j:Int),MA v d)=some ((a:Int),(i:Int),((Sort.scanDown (fun x=>!lt C x d[a]!) d i j:Nat):Int),MA v d):=by
 refine aH (fun s r n=>∃ j:Nat,j < d.size∧s=((a:Int),(i:Int),(j:Int),MA v d)∧r=((a:Int),(i:Int),((Sort.scanDown (fun x=>!lt C x d[a]!) d i j:Nat):Int),MA v d)∧n=j) ⟨j,hj,rfl,rfl,rfl⟩ (by omega) ?_;rintro s r n ⟨j,q1,rfl,rfl,rfl⟩;simp only[u4,FG,yd];cases n with
 | zero=>
  left;rw[show Sort.scanDown (fun x=>!lt C x d[a]!) d i 0=0 by rw[Sort.scanDown]]
  simp(disch:=omega) only[iq,dF,cond_false]
 | succ j=>
  by_cases e:i≤j+1
  ·simp(disch:=omega) only[iq,dT,cond_true,aD,al,aF,aP,hC,bind_some',wP]
   cases hl:lt C d[j+1]! d[a]!
   ·right;rw[show Sort.scanDown (fun x=>!lt C x d[a]!) d i (j+1)=Sort.scanDown (fun x=>!lt C x d[a]!) d i j by rw[Sort.scanDown,if_pos (by simp[e,hl])]]
    simp(disch:=omega) only[Bool.not_false,cond_true,p1,Nat.add_sub_cancel,aF,al]
    exact⟨_,j,rfl,⟨j,by omega,rfl,rfl,rfl⟩,by omega⟩
   ·left;rw[show Sort.scanDown (fun x=>!lt C x d[a]!) d i (j+1)=j+1 by rw[Sort.scanDown,if_neg (by simp[hl])]];simp only[Bool.not_true,cond_false]
  ·left;rw[show Sort.scanDown (fun x=>!lt C x d[a]!) d i (j+1)=j+1 by rw[Sort.scanDown,if_neg (by simp[e])]]
   simp(disch:=omega) only[iq,dF,cond_false]
theorem pr3 {a i j:Nat}{d:Array β}(ha:a < d.size)(hj:j < d.size)(hz:d.size≤250):yg ((a:Int),(i:Int),(j:Int),MA v d)=some ((a:Int),((Sort.scanUp (fun x=>lt C x d[a]!) d j i:Nat):Int),(j:Int),MA v d):=by
 refine aH (fun s r n=>∃ i:Nat,s=((a:Int),(i:Int),(j:Int),MA v d)∧r=((a:Int),((Sort.scanUp (fun x=>lt C x d[a]!) d j i:Nat):Int),(j:Int),MA v d)∧n=j+1-i) ⟨i,rfl,rfl,rfl⟩ (by omega) ?_;rintro s r n ⟨i,rfl,rfl,rfl⟩;simp only[u4,FI,yf];by_cases e:i≤j
 ·simp(disch:=omega) only[iq,dT,cond_true,aD,al,aF,aP,hC,bind_some',wP]
  cases hl:lt C d[i]! d[a]!
  ·left;rw[show Sort.scanUp (fun x=>lt C x d[a]!) d j i=i by rw[Sort.scanUp,if_neg (by simp[hl])]];simp only[cond_false]
  ·right;rw[show Sort.scanUp (fun x=>lt C x d[a]!) d j i=Sort.scanUp (fun x=>lt C x d[a]!) d j (i+1)by rw[Sort.scanUp,if_pos (by simp[e,hl])]]
   simp(disch:=omega) only[cond_true,a1,aF,al]
   exact⟨_,j+1-(i+1),rfl,⟨i+1,rfl,rfl,rfl⟩,by omega⟩
 ·left;rw[show Sort.scanUp (fun x=>lt C x d[a]!) d j i=i by rw[Sort.scanUp,if_neg (by simp[e])]]
  simp(disch:=omega) only[iq,dF,cond_false]
theorem pr4 {a i j:Nat}{d:Array β}(ha:a < d.size)(hi:1≤i)(hj:j < d.size)(hz:d.size≤250):yi ((a:Int),(i:Int),(j:Int),MA v d)=some ((a:Int),(i:Int),((Sort.scanDown (fun x=>!lt C x d[a]!) d i j:Nat):Int),MA v d):=by
 refine aH (fun s r n=>∃ j:Nat,j < d.size∧s=((a:Int),(i:Int),(j:Int),MA v d)∧r=((a:Int),(i:Int),((Sort.scanDown (fun x=>!lt C x d[a]!) d i j:Nat):Int),MA v d)∧n=j) ⟨j,hj,rfl,rfl,rfl⟩ (by omega) ?_;rintro s r n ⟨j,q1,rfl,rfl,rfl⟩;simp only[u4,FK,yh];cases n with
 | zero=>
  left;rw[show Sort.scanDown (fun x=>!lt C x d[a]!) d i 0=0 by rw[Sort.scanDown]]
  simp(disch:=omega) only[iq,dF,cond_false]
 | succ j=>
  by_cases e:i≤j+1
  ·simp(disch:=omega) only[iq,dT,cond_true,aD,al,aF,aP,hC,bind_some',wP]
   cases hl:lt C d[j+1]! d[a]!
   ·right;rw[show Sort.scanDown (fun x=>!lt C x d[a]!) d i (j+1)=Sort.scanDown (fun x=>!lt C x d[a]!) d i j by rw[Sort.scanDown,if_pos (by simp[e,hl])]]
    simp(disch:=omega) only[Bool.not_false,cond_true,p1,Nat.add_sub_cancel,aF,al]
    exact⟨_,j,rfl,⟨j,by omega,rfl,rfl,rfl⟩,by omega⟩
   ·left;rw[show Sort.scanDown (fun x=>!lt C x d[a]!) d i (j+1)=j+1 by rw[Sort.scanDown,if_neg (by simp[hl])]];simp only[Bool.not_true,cond_false]
  ·left;rw[show Sort.scanDown (fun x=>!lt C x d[a]!) d i (j+1)=j+1 by rw[Sort.scanDown,if_neg (by simp[e])]]
   simp(disch:=omega) only[iq,dF,cond_false]
theorem peq {a b p:Nat}{d:Array β}(ha:a < d.size)(hp:p < d.size)(hb:b≤d.size)(hb1:1≤b)(hz:d.size≤250):ii ((a:Int),(b:Int),(p:Int),MA v d)=some (((Sort.partitionEqual (lt C) d a b p).1:Int),MA v (Sort.partitionEqual (lt C) d a b p).2):=by
 have key:∀ {i j:Nat} {d:Array β},a < d.size→1≤i→j < d.size→d.size≤250→ya ((a:Int),(i:Int),(j:Int),MA v d)=some (((Sort.partEqLoop (lt C) a i j d).1:Int),MA v (Sort.partEqLoop (lt C) a i j d).2):=by
  intro i j d ha hi hj hz;refine aH (fun s r n=>∃ (i j:Nat) (d:Array β),a < d.size∧1≤i∧j < d.size∧d.size≤250∧s=((a:Int),(i:Int),(j:Int),MA v d)∧r=(((Sort.partEqLoop (lt C) a i j d).1:Int),MA v (Sort.partEqLoop (lt C) a i j d).2)∧n=j+1-i) ⟨i,j,d,ha,hi,hj,hz,rfl,rfl,rfl⟩ (by omega) ?_;rintro s r n ⟨i,j,d,q1,q2,q3,q4,rfl,rfl,rfl⟩;have u1:=Sort.scanUp_ge (fun x=>!lt C d[a]! x) d j i;have u2:=Sort.scanDown_le (fun x=>lt C d[a]! x) d (Sort.scanUp (fun x=>!lt C d[a]! x) d j i) j;rw[Sort.partEqLoop_eq]
  simp(disch:=omega) only[u4,Fx,x9,pe1 hC,pe2 hC,bind_some']
  generalize Sort.scanUp (fun x=>!lt C d[a]! x) d j i=i2 at *;generalize Sort.scanDown (fun x=>lt C d[a]! x) d i2 j=j2 at *;by_cases e:j2 < i2
  ·left; simp(disch:=omega) only[i5,dT,cond_true,if_pos (show i2 > j2 from e)]
  ·right
   simp(disch:=omega) only[i5,dF,cond_false,if_neg (show ¬ i2 > j2 from e),aD,al,aP,Int.toNat_natCast,bu,aT,bv,a1,aF,p1]
   exact⟨_,j2-1+1-(i2+1),rfl,⟨i2+1,j2-1,Sort.swp d i2 j2,by rwa [am],by omega,by rw[am]; omega,by rwa [am],rfl,rfl,rfl⟩,by omega⟩
 have k:=key (i:=a+1) (j:=b-1) (d:=Sort.swp d a p) (by rwa [am]) (by omega) (by rw[am]; omega) (by rwa [am])
 simp(disch:=omega) only[u4,ii,Xr,SU,aD,al,aP,Int.toNat_natCast,bu,aT,bv,a1,aF,p1,k,bind_some',Sort.partitionEqual]
omit hC
theorem Il (a:Nat):∀ (n i j:Nat) (d:Array β),j+1-i≤n→(Sort.partLoop (lt C) a i j d).1≤j∧(Sort.partLoop (lt C) a i j d).2.size=d.size:=by
 intro n
 induction n with
 | zero=>
  intro i j d h;have u1:=Sort.scanUp_ge (fun x=>lt C x d[a]!) d j i;have u2:=Sort.scanDown_le (fun x=>!lt C x d[a]!) d (Sort.scanUp (fun x=>lt C x d[a]!) d j i) j;rw[Sort.partLoop_eq,if_pos (by omega)];exact⟨u2,rfl⟩
 | succ n ih=>
  intro i j d h;have u1:=Sort.scanUp_ge (fun x=>lt C x d[a]!) d j i;have u2:=Sort.scanDown_le (fun x=>!lt C x d[a]!) d (Sort.scanUp (fun x=>lt C x d[a]!) d j i) j;rw[Sort.partLoop_eq];split
  ·exact⟨u2,rfl⟩
  ·have:=ih (Sort.scanUp (fun x=>lt C x d[a]!) d j i+1) (Sort.scanDown (fun x=>!lt C x d[a]!) d (Sort.scanUp (fun x=>lt C x d[a]!) d j i) j-1) (Sort.swp d (Sort.scanUp (fun x=>lt C x d[a]!) d j i) (Sort.scanDown (fun x=>!lt C x d[a]!) d (Sort.scanUp (fun x=>lt C x d[a]!) d j i) j)) (by omega);exact⟨by omega,by rw[this.2,am]⟩
include hC
theorem prt {a b p:Nat}{d:Array β}(ha:a < d.size)(hp:p < d.size)(hb:b≤d.size)(hb1:1≤b)(hz:d.size≤250):gG ((a:Int),(b:Int),(p:Int),MA v d)=some (((Sort.partition (lt C) d a b p).1:Int),(Sort.partition (lt C) d a b p).2.1,MA v (Sort.partition (lt C) d a b p).2.2):=by
 have key:∀ {i j:Nat} {d:Array β},a < d.size→1≤i→j < d.size→d.size≤250→yk ((a:Int),(i:Int),(j:Int),MA v d)=some ((a:Int),((Sort.partLoop (lt C) a i j d).1:Int),MA v (Sort.partLoop (lt C) a i j d).2):=by
  intro i j d ha hi hj hz;refine aH (fun s r n=>∃ (i j:Nat) (d:Array β),a < d.size∧1≤i∧j < d.size∧d.size≤250∧s=((a:Int),(i:Int),(j:Int),MA v d)∧r=((a:Int),((Sort.partLoop (lt C) a i j d).1:Int),MA v (Sort.partLoop (lt C) a i j d).2)∧n=j+1-i) ⟨i,j,d,ha,hi,hj,hz,rfl,rfl,rfl⟩ (by omega) ?_;rintro s r n ⟨i,j,d,q1,q2,q3,q4,rfl,rfl,rfl⟩;have u1:=Sort.scanUp_ge (fun x=>lt C x d[a]!) d j i;have u2:=Sort.scanDown_le (fun x=>!lt C x d[a]!) d (Sort.scanUp (fun x=>lt C x d[a]!) d j i) j;rw[Sort.partLoop_eq]
  simp(disch:=omega) only[u4,FM,yj,pr3 hC,pr4 hC,bind_some']
  generalize Sort.scanUp (fun x=>lt C x d[a]!) d j i=i2 at *;generalize Sort.scanDown (fun x=>!lt C x d[a]!) d i2 j=j2 at *;by_cases e:j2 < i2
  ·left; simp(disch:=omega) only[i5,dT,cond_true,if_pos (show i2 > j2 from e)]
  ·right
   simp(disch:=omega) only[i5,dF,cond_false,if_neg (show ¬ i2 > j2 from e),aD,al,aP,Int.toNat_natCast,bu,aT,bv,a1,aF,p1]
   exact⟨_,j2-1+1-(i2+1),rfl,⟨i2+1,j2-1,Sort.swp d i2 j2,by rwa [am],by omega,by rw[am]; omega,by rwa [am],rfl,rfl,rfl⟩,by omega⟩
 unfold Sort.partition;simp only[];have z1:(Sort.swp d a p).size=d.size:=am _ _ _;generalize hd:Sort.swp d a p=d1 at *;have u1:=Sort.scanUp_ge (fun x=>lt C x d1[a]!) d1 (b-1) (a+1);have u2:=Sort.scanDown_le (fun x=>!lt C x d1[a]!) d1 (Sort.scanUp (fun x=>lt C x d1[a]!) d1 (b-1) (a+1)) (b-1)
 simp(disch:=omega) only[u4,gG,Xt,Tb,aD,al,aP,Int.toNat_natCast,bu,aT,bv,hd,a1,aF,p1,pr0 hC,pr1 hC,bind_some']
 generalize Sort.scanUp (fun x=>lt C x d1[a]!) d1 (b-1) (a+1)=i2 at *;generalize Sort.scanDown (fun x=>!lt C x d1[a]!) d1 i2 (b-1)=j2 at *;by_cases e:j2 < i2
 ·simp(disch:=omega) only[i5,dT,cond_true,if_pos (show i2 > j2 from e),aD,al,aP,Int.toNat_natCast,bu,aT,bv]
 ·have z2:(Sort.swp d1 i2 j2).size=d1.size:=am _ _ _;have k:=key (i:=i2+1) (j:=j2-1) (d:=Sort.swp d1 i2 j2) (by omega) (by omega) (by omega) (by omega);have hl:=Il (C:=C) a _ (i2+1) (j2-1) (Sort.swp d1 i2 j2) (Nat.le_refl _)
  simp(disch:=omega) only[i5,dF,cond_false,if_neg (show ¬ i2 > j2 from e),aD,al,aP,Int.toNat_natCast,bu,aT,bv,a1,aF,p1,k,bind_some']
theorem Vh (hS:Sort.SWO (lt C)):∀ (n f m a b limit:Nat) (wb wp:Bool) (d:Array β),n < f→n < m→n≤1000→b-a≤n→a≤b→b≤d.size→d.size≤250→limit≤250→Sort.Below (lt C) a b d →
  goF (fun x=>ll (jc f) x.1 x.2.1 x.2.2.1 x.2.2.2.1 x.2.2.2.2.1 x.2.2.2.2.2) m ((a:Int),(b:Int),(limit:Int),wb,wp,MA v d)=some (MA v (Sort.pdq (lt C) d a b limit wb wp)):=by
 have small:∀ (f m a b limit:Nat) (wb wp:Bool) (d:Array β),0 < m→b-a≤12→a≤b→b≤d.size→d.size≤250→goF (fun x=>ll (jc f) x.1 x.2.1 x.2.2.1 x.2.2.2.1 x.2.2.2.2.1 x.2.2.2.2.2) m ((a:Int),(b:Int),(limit:Int),wb,wp,MA v d)=some (MA v (Sort.pdq (lt C) d a b limit wb wp)):=by
  intro f m a b limit wb wp d hm h12 hab hb hz;obtain⟨m,rfl⟩:∃ m',m=m'+1:=⟨m-1,by omega⟩;have g:decide (((b-a:Nat):Int)≤12)=true:=by simp; omega
  rw[Sort.pdq,if_pos h12]
  simp(disch:=omega) only[u6,goF,ll,pU,pn,aF,al,g,cond_true,ins hC,bind_some']
 intro n
 induction n with
 | zero=>intro f m a b limit wb wp d h1 h2 hn h3 hab hb hz hl hB; exact small f m a b limit wb wp d h2 (by omega) hab hb hz
 | succ n ih=>
  intro f m a b limit wb wp d h1 h2 hn h3 hab hb hz hl hB;by_cases h12:b-a≤12
  ·exact small f m a b limit wb wp d (by omega) h12 hab hb hz
  obtain⟨m,rfl⟩:∃ m',m=m'+1:=⟨m-1,by omega⟩;obtain⟨f,rfl⟩:∃ f',f=f'+1:=⟨f-1,by omega⟩;have g12:decide (((b-a:Nat):Int)≤12)=false:=by simp; omega
  rw[Sort.pdq,if_neg h12];by_cases h0:limit=0
  ·subst h0;have g0:decide (((0:Nat):Int)=0)=true:=rfl
   simp(disch:=omega) only[u6,goF,ll,pU,pn,aF,al,g12,cond_false,g0,cond_true,heap hC,bind_some',if_true]
  have g0:decide ((limit:Int)=0)=false:=by simp; omega
  rw[if_neg h0];simp only[];have e1:pT (jc (f+1)) ((a:Int),(b:Int),(limit:Int),wb,wp,((b-a:Nat):Int),MA v d)=some ((a:Int),(b:Int),((if(!wb)=true then limit-1 else limit:Nat):Int),wb,wp,((b-a:Nat):Int),MA v (if(!wb)=true then Sort.breakPatterns d a b else d)):=by
   cases wb
   ·simp(disch:=omega) only[pT,ym,tD,Bool.not_false,cond_true,brk,bind_some',p1,aF,al,if_true]
   ·simp only[pT,ym,tD,Bool.not_true,cond_false,Bool.false_eq_true,if_false]
  have s1:Sort.PermIn a b d (if(!wb)=true then Sort.breakPatterns d a b else d):=by
   split
   ·exact Sort.breakPatterns_holds d a b hab hb
   ·exact Sort.permIn_refl _ _ _
  have hl1:(if(!wb)=true then limit-1 else limit)≤250:=by split <;> omega
  generalize (if(!wb)=true then Sort.breakPatterns d a b else d)=d1 at *;generalize (if(!wb)=true then limit-1 else limit)=l1 at *;have z1:d1.size=d.size:=s1.1;have e2:=chp hC (d:=d1) (a:=a) (b:=b) (by omega) (by omega) (by omega);have hc0:=Sort.choosePivot_holds (lt C) d1 a b (by omega);generalize Sort.choosePivot (lt C) d1 a b=c at *;have e3:tE (jc (f+1)) ((a:Int),(b:Int),(l1:Int),wb,wp,((b-a:Nat):Int),(c.1:Int),hN c.2,MA v d1)=some ((a:Int),(b:Int),(l1:Int),wb,wp,((b-a:Nat):Int),((if c.2 = .decreasing then(b-1)-(c.1-a)else c.1:Nat):Int),hN (if c.2 = .decreasing then Sort.Hint.increasing else c.2),MA v (if c.2 = .decreasing then Sort.reverseRange d1 a b else d1)):=by
   obtain⟨c1,c2⟩:=c;simp only at hc0;cases c2
   ·rfl
   ·rfl
   ·have g:decide (hN Sort.Hint.decreasing=2)=true:=rfl
    simp(disch:=omega) only[tE,FT,yn,g,cond_true,rev,bind_some',p1,aF,al,pn,if_true]
    rfl
  have s2:Sort.PermIn a b d1 (if c.2 = .decreasing then Sort.reverseRange d1 a b else d1):=by
   split
   ·exact Sort.reverseRange_holds d1 a b hab (by omega)
   ·exact Sort.permIn_refl _ _ _
  have hpv:a≤(if c.2 = .decreasing then(b-1)-(c.1-a)else c.1)∧(if c.2 = .decreasing then(b-1)-(c.1-a)else c.1) < b:=by split <;> omega
  generalize (if c.2 = .decreasing then Sort.reverseRange d1 a b else d1)=d2 at *;generalize (if c.2 = .decreasing then(b-1)-(c.1-a)else c.1)=pv at *;generalize (if c.2 = .decreasing then Sort.Hint.increasing else c.2)=hint at *;have z2:d2.size=d1.size:=s2.1;have B2:Sort.Below (lt C) a b d2:=(hB.perm hb s1).perm (by omega) s2;have s3:Sort.PermIn a b d2 (if(wb&&wp&&decide (hint = .increasing))=true then Sort.partialInsertionSort (lt C) d2 a b else(d2,false)).1:=by
   split
   ·exact(Sort.partialInsertionSort_holds hS d2 a b (by omega) (by omega) B2).1
   ·exact Sort.permIn_refl _ _ _
  have e4:tF (jc (f+1)) ((a:Int),(b:Int),(l1:Int),wb,wp,((b-a:Nat):Int),(pv:Int),hN hint,MA v d2)=some (cond (if(wb&&wp&&decide (hint = .increasing))=true then Sort.partialInsertionSort (lt C) d2 a b else(d2,false)).2
    (.inl (MA v (if(wb&&wp&&decide (hint = .increasing))=true then Sort.partialInsertionSort (lt C) d2 a b else(d2,false)).1))
    (.inr ((a:Int),(b:Int),(l1:Int),wb,wp,((b-a:Nat):Int),(pv:Int),MA v (if(wb&&wp&&decide (hint = .increasing))=true then Sort.partialInsertionSort (lt C) d2 a b else(d2,false)).1))):=by
   have hpis:=pis hC (d:=d2) (a:=a) (b:=b) (by omega) (by omega) (by omega);cases wb
   ·rfl
   ·cases wp
    ·rfl
    ·cases hint
     ·rfl
     ·have g:decide (hN Sort.Hint.increasing=1)=true:=rfl;simp only[tF,FU,yo,g,cond_true,hpis,bind_some',Bool.true_and,decide_true,if_true];cases(Sort.partialInsertionSort (lt C) d2 a b).2 <;> rfl
     ·rfl
  generalize (if(wb&&wp&&decide (hint = .increasing))=true then Sort.partialInsertionSort (lt C) d2 a b else(d2,false))=pi at *;obtain⟨d3,fl⟩:=pi;simp only at s3 e4 ⊢;have z3:d3.size=d2.size:=s3.1;have B3:Sort.Below (lt C) a b d3:=B2.perm (by omega) s3;rw[goF];generalize hG:goF (fun x=>ll (jc (f+1)) x.1 x.2.1 x.2.2.1 x.2.2.2.1 x.2.2.2.2.1 x.2.2.2.2.2) m=G
  simp(disch:=omega) only[u6,ll,pU,pn,aF,al,g12,cond_false,g0,e1,bind_some',e2,e3,e4]
  clear e1 e2 e3 e4
  cases fl
  ·simp only[cond_false,Sum.elim_inr,Bool.false_eq_true,if_false];have call:∀ (x y:Nat) (dd:Array β),x≤y→y-x≤n→y≤dd.size→dd.size≤250→Sort.Below (lt C) x y dd→jc (f+1) ((x:Int),(y:Int),(l1:Int),MA v dd)=some (MA v (Sort.pdq (lt C) dd x y l1 true true)):=fun x y dd k1 k2 k3 k4 k5=>by
    have:=ih f 18446744073709551616 x y l1 true true dd (by omega) (by omega) (by omega) k2 k1 k3 k4 hl1 k5;have this':tG (jc f) ((x:Int),(y:Int),(l1:Int),true,true,MA v dd)=some (MA v (Sort.pdq (lt C) dd x y l1 true true)):=this;show Cl (jc f) _ _ _ _=_;simp only[Cl,JS,this',bind_some']
   have part:∀ (mid:Nat) (ap:Bool) (d4:Array β),Sort.partition (lt C) d3 a b pv=(mid,ap,d4) →
     ∃ s',(((gG ((a:Int),(b:Int),(pv:Int),MA v d3)).bind fun r17=>ah (af .i64 (r17.1-(a:Int))) (ah (af .i64 ((b:Int)-r17.1)) (ah (af .i64 (Int.tdiv ((b-a:Nat):Int) 8)) (cond (decide ((r17.1-(a:Int)) < ((b:Int)-r17.1)))
      ((jc (f+1) ((a:Int),r17.1,(l1:Int),r17.2.2)).bind fun r18=>ah (af .i64 (r17.1+1)) (some (Sum.inl ((r17.1+1),(b:Int),(l1:Int),decide (Int.tdiv ((b-a:Nat):Int) 8≤(r17.1-(a:Int))),r17.2.1,r18))))
      (ah (af .i64 (r17.1+1)) ((jc (f+1) ((r17.1+1),(b:Int),(l1:Int),r17.2.2)).bind fun r19=>some (Sum.inl ((a:Int),r17.1,(l1:Int),decide (Int.tdiv ((b-a:Nat):Int) 8≤((b:Int)-r17.1)),r17.2.1,r19))))))):Option ((Int×Int×Int×Bool×Bool×List E)⊕List E)))=some (Sum.inl s')∧G s'=some (MA v (if h:a≤mid∧mid < b then
       if mid-a < b-mid then Sort.pdq (lt C) (Sort.pdq (lt C) d4 a mid l1 true true) (mid+1) b l1 (decide (mid-a≥(b-a) / 8)) ap
       else Sort.pdq (lt C) (Sort.pdq (lt C) d4 (mid+1) b l1 true true) a mid l1 (decide (b-mid≥(b-a) / 8)) ap else d4)):=fun mid ap d4 hx=>by
    have hr:=prt hC (d:=d3) (a:=a) (b:=b) (p:=pv) (by omega) (by omega) (by omega) (by omega) (by omega);obtain⟨g1,g2,hs4,hBa,hBr,hleft,hright⟩:=Sort.round_part hS (Sort.partition_holds _) hpv.1 hpv.2 (by omega) B3 hx;rw[hx]at hr;simp only at hr;have q8:Int.tdiv ((b-a:Nat):Int) 8=(((b-a) / 8:Nat):Int):=C0 _;rw[dif_pos ⟨g1,g2⟩]
    simp(disch:=omega) only[hr,bind_some',pn,aF,al,q8,i5,iq,a1]
    by_cases hlt:mid-a < b-mid
    ·have k:=call a mid d4 g1 (by omega) (by omega) (by omega) hBa;obtain⟨l1',l2'⟩:=Sort.pdq_sorts (lt C) hS d4 a mid l1 true true g1 (by omega) hBa;have hB':=(hleft _ l1' l2').1
     simp(disch:=omega) only[dT,cond_true,k,bind_some',if_pos hlt]
     refine⟨_,rfl,?_⟩;rw[← hG];exact ih (f+1) m (mid+1) b l1 _ ap _ (by omega) (by omega) (by omega) (by omega) (by omega) (by rw[l1'.1]; omega) (by rw[l1'.1]; omega) hl1 hB'
    ·have k:=call (mid+1) b d4 (by omega) (by omega) (by omega) (by omega) hBr;obtain⟨l1',l2'⟩:=Sort.pdq_sorts (lt C) hS d4 (mid+1) b l1 true true (by omega) (by omega) hBr;have hB':=(hright _ l1' l2').1
     simp(disch:=omega) only[dF,cond_false,k,bind_some',if_neg hlt]
     refine⟨_,rfl,?_⟩;rw[← hG];exact ih (f+1) m a mid l1 _ ap _ (by omega) (by omega) (by omega) (by omega) (by omega) (by rw[l1'.1]; omega) (by rw[l1'.1]; omega) hl1 hB'
   by_cases ha0:0 < a
   ·have ga:decide ((0:Int) < (a:Int))=true:=by simp; omega
    simp(disch:=omega) only[ga,cond_true,p1,aF,al,aD,aP,hC,bind_some',wP]
    cases hq:lt C d3[a-1]! d3[pv]!
    ·simp only[Bool.not_false,cond_true,Bool.and_true,decide_eq_true_eq,if_pos (show a > 0 from ha0)];have hr:=peq hC (d:=d3) (a:=a) (b:=b) (p:=pv) (by omega) (by omega) (by omega) (by omega) (by omega);rcases hx:Sort.partitionEqual (lt C) d3 a b pv with⟨mid,d4⟩
     obtain⟨g1,g2,hs4,hB4,hfin⟩:=Sort.round_eq hS (Sort.partitionEqual_holds _) ha0 hpv.1 hpv.2 (by omega) B3 hq hx;rw[hx]at hr;simp only at hr;simp only[hr,bind_some',dif_pos (And.intro g1 g2)];rw[← hG];exact ih (f+1) m mid b l1 wb wp d4 (by omega) (by omega) (by omega) (by omega) g2 (by omega) (by omega) hl1 hB4
    ·simp only[Bool.not_true,cond_false,Bool.and_false,Bool.false_eq_true,if_false];rcases hx:Sort.partition (lt C) d3 a b pv with⟨mid,ap,d4⟩
     obtain⟨s',k1,k2⟩:=part mid ap d4 hx;rw[k1];exact k2
   ·have ga:decide ((0:Int) < (a:Int))=false:=by simp; omega
    have gn:decide (a > 0)=false:=by simp; omega
    simp only[ga,cond_false,gn,Bool.false_and,Bool.false_eq_true,if_false];rcases hx:Sort.partition (lt C) d3 a b pv with⟨mid,ap,d4⟩
    obtain⟨s',k1,k2⟩:=part mid ap d4 hx;rw[k1];exact k2
  ·simp only[cond_true,Sum.elim_inl,if_true]
theorem top (hS:Sort.SWO (lt C)){d:Array β}(hz:d.size≤250):P109 (MA v d)=some (MA v (Sort.sort (lt C) d)):=by
 have hl:Sort.bitsLen d.size≤8:=(Sort.bitsLen_le_iff d.size 8).2 (by omega);have fu:af .u64 (d.size:Int)=true:=nH (by omega) (by omega);have k:=Vh hC hS 1000 18446744073709551615 18446744073709551616 0 d.size (Sort.bitsLen d.size) true true d (by omega) (by omega) (by omega) (by omega) (by omega) (Nat.le_refl _) hz (by omega) (.inl rfl);have k':tG (jc 18446744073709551615) (0,(d.size:Int),((Sort.bitsLen d.size:Nat):Int),true,true,MA v d)=some (MA v (Sort.sort (lt C) d)):=k;have e:P124 (0,(d.size:Int),((Sort.bitsLen d.size:Nat):Int),MA v d)=some (MA v (Sort.sort (lt C) d)):=by
  show Cl (jc 18446744073709551615) _ _ _ _=_;simp only[Cl,JS,k',bind_some']
 simp(disch:=omega) only[P109,Xw,Tm,pQ,fu,al,Ik,bind_some',e]
end
theorem srt (K:E→Int)(gd:E→Prop)(x0:E)(h0:gd x0)(hK:∀ x y,gd x→gd y→∃ c:Int,P80 (x,y)=some c∧(decide (c < 0)=true↔K x < K y)){l:List E}(hl:∀ x∈l,gd x)(hz:l.length≤250):
  ∃ l',P109 l=some l'∧l'.Perm l∧Sd K l' 0 l'.length:=by
 letI:Inhabited {x:E // gd x}:=⟨⟨x0,h0⟩⟩
 let C:{x:E // gd x}→{x:E // gd x}→Int:=fun x y=>Classical.choose (hK x.1 y.1 x.2 y.2)
 have hC:∀ x y:{x:E // gd x},P80 (x.1,y.1)=some (C x y):=fun x y=>(Classical.choose_spec (hK x.1 y.1 x.2 y.2)).1;have hlt:∀ x y:{x:E // gd x},lt C x y=true↔K x.1 < K y.1:=fun x y=>(Classical.choose_spec (hK x.1 y.1 x.2 y.2)).2;have hlf:∀ x y:{x:E // gd x},lt C x y=false↔K y.1≤K x.1:=fun x y=>by rw[← Bool.not_eq_true,hlt]; omega
 have hS:Sort.SWO (lt C):=⟨fun x=>(hlf x x).2 (Int.le_refl _),fun x y z h1 h2=>(hlt _ _).2 (Int.lt_trans ((hlt _ _).1 h1) ((hlt _ _).1 h2)),fun x y z h1 h2=>(hlf _ _).2 (Int.le_trans ((hlf _ _).1 h2) ((hlf _ _).1 h1))⟩
 let d:Array {x:E // gd x}:=(l.attach.map fun x=>⟨x.1,hl x.1 x.2⟩).toArray
 have hd:MA (fun x:{x:E // gd x}=>x.1) d=l:=by
  simp only[MA,d,List.map_map];exact List.attach_map_subtype_val l
 have hds:d.size=l.length:=by simp[d]
 obtain⟨s1,s2⟩:=Sort.sort_sorts (lt C) hS d;have ht:=top (v:=fun x:{x:E // gd x}=>x.1) hC hS (d:=d) (by omega);rw[hd]at ht;refine⟨_,ht,?_,fun i j q1 q2 q3=>?_⟩
 ·have hp:=s1.2.2;have e1:∀ r:Array {x:E // gd x},r.size=d.size→r.extract 0 d.size=r:=fun r hr=>by rw[← hr]; simp
  rw[e1 _ s1.1,show d.extract 0 d.size=d by simp]at hp;have:=hp.map (fun x:{x:E // gd x}=>x.1);rw[← hd];exact this
 ·rw[pQ]at q3;have e:∀ k,k < (Sort.sort (lt C) d).size→gt (MA (fun x:{x:E // gd x}=>x.1) (Sort.sort (lt C) d)) k=((Sort.sort (lt C) d)[k]!).1:=fun k hk=>by rw[← bI,aP hk]
  rw[e i (by omega),e j q3];exact(hlf _ _).1 (s2 i j q1 q2 (by have:=s1.1; omega))
end Pdq109
theorem UB (x y:Int):MM [x,y]=some (if x≠0 then x else y):=by
 have e:∃ z,zY (0,[x,y],2,0)=some z∧Sum.elim id id z=(if x≠0 then x else y):=by
  by_cases h1:x=0
  ·by_cases h2:y=0
   ·refine⟨Sum.inr 0,aY (step:=fun x=>zX x.1 x.2.1 x.2.2.1 x.2.2.2) 2 (fun k=>(0,[x,y],2,(k:Int))) (Sum.inr 0) (fun i hi=>?_) rfl (by omega),by rw[if_neg (by simpa using h1),h2]; rfl⟩;subst h1; subst h2;rcases(show i=0∨i=1 by omega)with rfl | rfl <;> rfl
   ·refine⟨Sum.inl y,aY (step:=fun x=>zX x.1 x.2.1 x.2.2.1 x.2.2.2) 1 (fun k=>(0,[x,y],2,(k:Int))) (Sum.inl y) (fun i hi=>?_) ?_ (by omega),by rw[if_neg (by simpa using h1)]; rfl⟩
    ·subst h1;obtain rfl:i=0:=by omega
     rfl
    ·show cond (!decide (y=0)) (some (Sum.inr (Sum.inl y))) _=_;rw[decide_eq_false h2]; rfl
  ·refine⟨Sum.inl x,aY (step:=fun x=>zX x.1 x.2.1 x.2.2.1 x.2.2.2) 0 (fun k=>(0,[x,y],2,(k:Int))) (Sum.inl x) (fun i hi=>by omega) ?_ (by omega),by rw[if_pos h1]; rfl⟩;show cond (!decide (x=0)) (some (Sum.inr (Sum.inl x))) _=_;rw[decide_eq_false h1]; rfl
 obtain⟨z,e1,e2⟩:=e;show q81 zY [x,y]=_;unfold q81;rw[show(↑(List.length [x,y]):Int)=2 from rfl,e1,← e2];cases z <;> rfl
theorem UC {a b:au}(ha:be a)(hb:be b):∃ c:Int,P80 (a,b)=some c∧(decide (c < 0)=true↔kc a < kc b):=by
 have h1:=ha.1;have h2:=ha.2.1;have h3:=hb.1;have h4:=hb.2.1;refine⟨if a.2.1-b.2.1≠0 then a.2.1-b.2.1 else a.1-b.1,?_,?_⟩
 ·show q80 MM a b=_;unfold q80;rw[aj (aO (by omega) (by omega)),aj (aO (by omega) (by omega)),UB];rfl
 ·rw[decide_eq_true_eq,Qn ha hb];split <;> omega
theorem Lr (l:List au)(hl:l.length≤250)(hv:∀ c∈l,be c)(hk:jL l):
  ∃ s m,Al l=some s∧uk s=some m∧m.Pairwise (fun a b=>kc a < kc b)∧∀ x,x∈m↔x∈l:=by
 obtain⟨s,e1,e2,e3⟩:=Pdq109.srt kc be (0,0,1,0,1) ⟨⟨by decide,by decide⟩,⟨by decide,by decide⟩,.inl ⟨rfl,by decide,by decide⟩,⟨by decide,by decide⟩⟩ (fun x y hx hy=>UC hx hy) hv hl;refine⟨s,jh s s.length,?_,Uy s (by rw[e2.length_eq]; omega),?_,fun x=>?_⟩
 ·show q78 P108 P109 l=_;unfold q78;have e:P108 l=some l:=by
   show JJ P123 l=_;unfold JJ;rw[Lo l (by omega)];rfl
  rw[e,bind_some',e1];rfl
 ·refine(ddN_asc kc s e3 (fun a ha b hb h=>?_) s.length (Nat.le_refl _)).1;have ha':=e2.mem_iff.1 ha;have hb':=e2.mem_iff.1 hb;exact hk a ha' b hb' (Hz (hv a ha') (hv b hb') h)
 ·rw[nJ,e2.mem_iff]
noncomputable def hrd (l:List au):List au:=(yw l).getD []
theorem jM {l:List au}(hl:l.length≤250)(hv:∀ c∈l,be c)(hk:jL l):yw l=some (hrd l)∧(hrd l).Pairwise (fun a b=>kc a < kc b)∧(∀ x,x∈hrd l↔x∈l)∧(hrd l).length≤l.length:=by
 obtain⟨m,e1,e2,e3⟩:=UA l (by omega) hv hk;have e:hrd l=m:=by unfold hrd; rw[e1]; rfl
 rw[e];exact⟨e1,e2,e3⟩
theorem qg {l m:List au}(hl:l.length≤250)(hv:∀ c∈l,be c)(hk:jL l)(h1:m.Pairwise (fun a b=>kc a < kc b))(h2:∀ x,x∈m↔x∈l):m=hrd l:=by
 obtain⟨_,e2,e3,_⟩:=jM hl hv hk;exact qf kc h1 e2 fun x=>by rw[h2,e3]
theorem HC (l:List au)(hl:l.length≤250)(hv:∀ c∈l,be c)(hk:jL l):∃ s,Al l=some s∧uk s=some (hrd l):=by
 obtain⟨s,m,e1,e2,e3,e4⟩:=Lr l hl hv hk;refine⟨s,e1,?_⟩;rw[e2,qg hl hv hk e3 e4]
def nK (hold minute:Int):List au→HM→HM
 | [],x=>x
 | c::cs,x=>if minute < c.2.1 then x else nK hold minute cs (eN (gl hold c.2.1 x) c)
def Ls (rows:List Int):HM:=(eJ rows,fun _=>qt,[])
noncomputable def afterM (h:List Int×Int)(l:List au)(minute:Int):HM:=gl h.2 minute (nK h.2 minute (hrd l) (Ls h.1))
def cx (h:List Int×Int):Prop:=(1≤h.1.length∧h.1.length≤6)∧(∀ n∈h.1,1≤n∧n≤12)∧(1≤h.2∧h.2≤600)
def gi (rows:List Int):List Nat:=rows.map Int.toNat
theorem gx {h:List Int×Int}(hh:cx h):∀ k∈gi h.1,k≤12:=fun k hk=>by
 obtain⟨n,hn,rfl⟩:=List.mem_map.1 hk;have:=hh.2.1 n hn;omega
theorem kj {h:List Int×Int}(hh:cx h):(gi h.1).length≤30:=by
 have:=hh.1;unfold gi;simp only[List.length_map];omega
theorem yI {rows:List Int}{r i:Nat}(hr:r < (eJ rows).length)(hi:i < (gt (eJ rows) r).length):gt (gt (eJ rows) r) i = -1:=by
 have hr':r < rows.length:=by simpa [eJ]using hr
 have e:gt (eJ rows) r=List.replicate (gt rows r).toNat (-1):=by
  rw[ca hr,ca hr']
  simp[eJ]
 rw[e]at hi ⊢;rw[ca hi]
 simp
theorem IM0 (rows:List Int):IM (gi rows) (Ls rows):=by
 have nh:¬ held qt:=by rintro(e | e) <;> cases e
 refine⟨?_,fun n hn=>absurd hn nh,fun r i hr hi=>.inl (yI hr hi),fun _ _=>rfl,fun _=>.inl rfl⟩;show(eJ rows).map List.length=gi rows;unfold eJ gi;rw[List.map_map];exact List.map_congr_left fun n _=>by simp
theorem PK0 (rows:List Int):PK [] (Ls rows).2.1:=⟨by simp,fun _=>rfl,fun n o h=>by cases h⟩
theorem tY {α:Type}[Inhabited α](n:Nat)(a:α){i:Nat}(h:i < n):gt (List.replicate n a) i=a:=by
 rw[ca (by simpa using h)]; simp
theorem su (x:HM)(c:au):(eN x c).2.2.length≤x.2.2.length+1:=by
 unfold eN jK wq l8;split
 ·split
  ·split <;> simp
  ·omega
 ·split
  ·split <;> simp
  ·split <;> simp
theorem IM.go {lens:List Nat}(hold minute:Int):∀ (l:List au) {x:HM},IM lens x→(∀ c∈l,be c)→IM lens (nK hold minute l x)
 | [],_,h,_=>h
 | c::l,x,h,hc=>by
  unfold nK;split
  ·exact h
  ·exact IM.go hold minute l ((h.lap hold c.2.1).hear (hc c (by simp))) fun d hd=>hc d (by simp[hd])
theorem UD {lens:List Nat}{rows:List Int}{hold minute:Int}{m:List au}{x:HM}{pool:List dY}(hm:m.length≤250)(hc:∀ c∈m,be c)(h:IM lens x)(k:PK pool x.2.1)(sm:∀ k∈lens,k≤12)(sl:lens.length≤30)(hh:0≤hold∧hold≤100000)(hv:x.2.2.length≤100):
  ∃ pool',L65_0 (minute,(m.length:Int),0,rows,hold,m,x.1,x.2.2,pool)=some (minute,rows,hold,m,(nK hold minute m x).1,(nK hold minute m x).2.2,pool')∧PK pool' (nK hold minute m x).2.1:=by
 have key:=du (step:=fun x=>M1 x.1 x.2.1 x.2.2.1 x.2.2.2.1 x.2.2.2.2.1 x.2.2.2.2.2.1 x.2.2.2.2.2.2.1 x.2.2.2.2.2.2.2.1 x.2.2.2.2.2.2.2.2)
  (fun s=>m.length-s.2.2.1.toNat)
  (fun s=>∃ (i:Nat) (y:HM) (pool:List dY),i≤m.length∧s=(minute,(m.length:Int),(i:Int),rows,hold,m,y.1,y.2.2,pool)∧IM lens y∧PK pool y.2.1∧y.2.2.length≤100+i∧nK hold minute (m.drop i) y=nK hold minute m x)
  (fun y=>∃ pool',y=(minute,rows,hold,m,(nK hold minute m x).1,(nK hold minute m x).2.2,pool')∧PK pool' (nK hold minute m x).2.1)
  (x:=(minute,(m.length:Int),((0:Nat):Int),rows,hold,m,x.1,x.2.2,pool)) ⟨0,x,pool,Nat.zero_le _,rfl,h,k,by omega,rfl⟩ (by show m.length-_ < _; omega) (by
   rintro s ⟨i,y,pool,hi,rfl,hy,ky,vy,hg⟩;show(∃ s',rN Ce Cf Al uk P83 P84 minute (m.length:Int) (i:Int) rows hold m y.1 y.2.2 pool=_∧_)∨∃ z,rN Ce Cf Al uk P83 P84 minute (m.length:Int) (i:Int) rows hold m y.1 y.2.2 pool=_∧_;by_cases him:i < m.length
   ·have hd:m.drop i=gt m i::m.drop (i+1):=by rw[List.drop_eq_getElem_cons him,ca him]
    rw[hd,nK]at hg;unfold rN;rw[aN him,cond_true,aj (aC him),bI];by_cases c:minute < (gt m i).2.1
    ·rw[decide_eq_true c,cond_true];rw[if_pos c]at hg;exact .inr ⟨_,rfl,pool,by rw[← hg],by rw[← hg]; exact ky⟩
    ·rw[decide_eq_false c,cond_false];rw[if_neg c]at hg;left;obtain⟨pool1,e1,k1⟩:=Qm (rows:=rows) (hold:=hold) (minute:=(gt m i).2.1) hy ky sm hh;have hy1:=hy.lap hold (gt m i).2.1;have vy1:(gl hold (gt m i).2.1 y).2.2.length≤100+i:=vy;rw[e1,bind_some'];obtain⟨pool2,e2,k2⟩:=P84_M (rows:=rows) (hold:=hold) hy1 k1 sm sl (hc _ (ck him)) (by omega);simp only;rw[e2,bind_some'];simp only;rw[aj (aE (by omega))];have hvv:=su (gl hold (gt m i).2.1 y) (gt m i);exact⟨_,rfl,⟨i+1,_,pool2,by omega,rfl,hy1.hear (hc _ (ck him)),k2,by omega,hg⟩,by show m.length-((i:Int)+1).toNat < m.length-((i:Nat):Int).toNat; omega⟩
   ·obtain rfl:i=m.length:=by omega
    rw[List.drop_length]at hg;refine .inr ⟨_,?_,pool,rfl,?_⟩
    ·unfold rN;rw[aV,cond_false,← hg];rfl
    ·rw[← hg]; exact ky)
 obtain⟨y,h1,pool',rfl,h2⟩:=key;exact⟨pool',h1,h2⟩
def b8 (l:List au):Prop:=l.length≤40∧(∀ c∈l,be c)∧jL l
theorem yJ {l:List au}(h:b8 l):(∀ c∈hrd l,be c)∧(hrd l).length≤250:=by
 obtain⟨h1,h2,h3⟩:=h;obtain⟨e1,e2,e3,e4⟩:=jM (by omega) h2 h3;exact⟨fun c hc=>h2 c ((e3 c).1 hc),by omega⟩
theorem CT {h:List Int×Int}(hh:cx h):∀ k,k < h.1.length→1≤gt h.1 k∧gt h.1 k≤12:=fun k hk=>hh.2.1 _ (ck hk)
theorem IM.after {h:List Int×Int}{l:List au}(hl:b8 l)(minute:Int):IM (gi h.1) (afterM h l minute):=
 ((IM0 h.1).go h.2 minute (hrd l) (yJ hl).1).lap h.2 minute
theorem P65_M {h:List Int×Int}{l:List au}(minute:Int)(hh:cx h)(hl:b8 l):
  ∃ pool,P65 (h,l,minute)=some (h.1,h.2,(afterM h l minute).1,(afterM h l minute).2.2,pool)∧PK pool (afterM h l minute).2.1:=by
 obtain⟨rows,hold⟩:=h;have hr:=CT hh;have h6:=hh.1;have hH:=hh.2.2;simp only at hr h6 hH;obtain⟨s,e1,e2⟩:=HC l (by have:=hl.1; omega) hl.2.1 hl.2.2;obtain⟨c1,c2⟩:=yJ hl;obtain⟨p1,e3,k1⟩:=UD (rows:=rows) (hold:=hold) (minute:=minute) c2 c1 (IM0 rows) (PK0 rows) (gx hh) (kj hh) (by omega) (by simp[Ls]);obtain⟨p2,e4,k2⟩:=Qm (rows:=rows) (hold:=hold) (minute:=minute) ((IM0 rows).go hold minute (hrd l) c1) k1 (gx hh) (by omega);refine⟨p2,?_,k2⟩;show q65 Ce Cf Al uk P83 P84 L65_0 (rows,hold) l minute=_;unfold q65;rw[Vc (by omega) hr,bind_some',show Cf l=some l from rfl,bind_some',e1,bind_some',e2,bind_some'];simp only;rw[show L65_0 (minute,(↑(List.length (hrd l)):Int),0,rows,hold,hrd l,eJ rows,[],[])=_ from e3,bind_some'];simp only;rw[e4];rfl
instance (c:au):Decidable (be c):=by unfold be; infer_instance
instance (h:List Int×Int):Decidable (cx h):=by unfold cx; infer_instance
instance (l:List au):Decidable (b8 l):=by unfold b8 jL; infer_instance
def ln (h:List Int×Int)(l:List au):Int:=if cx h then(if b8 l then 0 else 41)else 40
theorem nl (x a b:Int):P60 (x,a,b)=some (wi x a b):=tp x a b
theorem yK (x a b:Int):P57 (x,a,b)=some (wi x a b):=tp x a b
theorem ww (c:au):decide (be c)=(wi c.1 0 99&&wi c.2.1 0 9999&&wi c.2.2.2.1 0 99&&(cond (decide (c.2.2.1=1)) (wi c.2.2.2.2 1 12) (cond (decide (c.2.2.1=2)) (decide (c.2.2.2.2=0)) (cond (decide (c.2.2.1=3)) (decide (c.2.2.2.2=0)) false)))):=by
 rw[Bool.eq_iff_iff,decide_eq_true_eq];unfold be;rw[Bool.and_eq_true,Bool.and_eq_true,Bool.and_eq_true,cS,cS,cS];by_cases k1:c.2.2.1=1
 ·rw[decide_eq_true k1,cond_true,cS]; omega
 ·rw[decide_eq_false k1,cond_false];by_cases k2:c.2.2.1=2
  ·rw[decide_eq_true k2,cond_true,decide_eq_true_eq]; omega
  ·rw[decide_eq_false k2,cond_false];by_cases k3:c.2.2.1=3
   ·rw[decide_eq_true k3,cond_true,decide_eq_true_eq]; omega
   ·rw[decide_eq_false k3,cond_false];refine⟨fun h=>by omega,fun h=>absurd h.2 (by decide)⟩
theorem UE (c:au):P50 c=some (decide (be c)):=by
 show q50 P57 c=_;unfold q50;rw[ww];simp only[yK,bind_some'];cases wi c.1 0 99 with
 | false=>rfl
 | true=>
  cases wi c.2.1 0 9999 with
  | false=>rfl
  | true=>
   cases wi c.2.2.2.1 0 99 with
   | false=>rfl
   | true=>
    simp only[Bool.not_true,cond_false,Bool.true_and];cases decide (c.2.2.1=1)with
    | true=>rfl
    | false=>
     cases decide (c.2.2.1=2)with
     | true=>rfl
     | false=>cases decide (c.2.2.1=3) <;> rfl
theorem wi00 (x:Int):wi x 0 0=decide (x=0):=by
 rw[Bool.eq_iff_iff,cS,decide_eq_true_eq]; omega
theorem UF (c:au):Cb c=some (decide (be c)):=by
 show q49 P60 c=_;unfold q49;rw[ww];simp only[nl,bind_some',wi00];cases decide (c.2.2.1=1)with
 | true=>cases wi c.1 0 99 <;> cases wi c.2.1 0 9999 <;> cases wi c.2.2.2.1 0 99 <;> rfl
 | false=>
  cases decide (c.2.2.1=2)with
  | true=>cases wi c.1 0 99 <;> cases wi c.2.1 0 9999 <;> cases wi c.2.2.2.1 0 99 <;> rfl
  | false=>
   cases decide (c.2.2.1=3)with
   | true=>cases wi c.1 0 99 <;> cases wi c.2.1 0 9999 <;> cases wi c.2.2.2.1 0 99 <;> rfl
   | false=>cases wi c.1 0 99 <;> cases wi c.2.1 0 9999 <;> cases wi c.2.2.2.1 0 99 <;> rfl
theorem UG (n:Int):P69 n=some (!wi n 1 12):=by
 show q69 P60 n=_;unfold q69;rw[nl];rfl
theorem wx (h:List Int×Int):decide (cx h)=(fp h.1.length (fun k=>wi (gt h.1 k) 1 12)&&wi (h.1.length:Int) 1 6&&wi h.2 1 600):=by
 rw[Bool.eq_iff_iff,decide_eq_true_eq];unfold cx;rw[Bool.and_eq_true,Bool.and_eq_true,cS,cS,RH (p:=fun n=>wi n 1 12)];simp only[cS];constructor
 ·rintro⟨a,b,c⟩; exact⟨⟨b,by omega⟩,c⟩
 ·rintro⟨⟨b,a⟩,c⟩; exact⟨by omega,b,c⟩
theorem UH (h:List Int×Int)(hl:h.1.length≤1000):P37 h=some (decide (cx h)):=by
 show q37 P57 AN h=_;unfold q37;have e:AN (0,h)=some (cond (fp h.1.length (fun k=>wi (gt h.1 k) 1 12)) (Sum.inr h) (Sum.inl (false,h))):=by
  refine kd (step:=fun x=>Ov x.1 x.2) h.1.length (fun k=>((k:Int),h)) (fun k=>wi (gt h.1 k) 1 12) _ _ (fun k hk=>?_) ?_ (by omega)
  ·show rZ P57 (k:Int) h=_;unfold rZ;rw[show decide ((k:Int) < (↑(List.length h.1):Int))=true from aN hk,cond_true,aj (aC hk),bI,yK,bind_some'];cases wi (gt h.1 k) 1 12 with
   | false=>rfl
   | true=>rw[Bool.not_true,cond_false,aj (aE (by omega))]; rfl
  ·show rZ P57 (h.1.length:Int) h=_;unfold rZ;rw[show decide ((h.1.length:Int) < (↑(List.length h.1):Int))=false from aV _,cond_false]
 rw[e,wx];cases fp h.1.length (fun k=>wi (gt h.1 k) 1 12)with
 | false=>rfl
 | true=>
  simp only[cond_true,bind_some',elim_inr,yK];rw[show((↑(List.length h.1):Int))=(h.1.length:Int)from rfl];cases wi (h.1.length:Int) 1 6 <;> rfl
theorem UI (h:List Int×Int)(hl:h.1.length≤1000):Ca h=some (decide (cx h)):=by
 have e74:∃ z,P74 h.1=some z∧decide (0≤z)=!fp h.1.length (fun k=>wi (gt h.1 k) 1 12):=by
  rcases iQ (step:=fun x=>Mw x.1 x.2.1 x.2.2) h.1.length (fun k=>(h.1,(h.1.length:Int),(k:Int))) (fun k=>!wi (gt h.1 k) 1 12) (fun k=>Sum.inl (k:Int)) (Sum.inr ())
   (fun k hk _=>by
    show rJ P69 h.1 (h.1.length:Int) (k:Int)=_;unfold rJ;rw[aN hk,cond_true,aj (aC hk),bI,UG,bind_some'];cases wi (gt h.1 k) 1 12 with
    | false=>rfl
    | true=>rw[Bool.not_true,cond_false,aj (aE (by omega))]; rfl)
   (fun _=>by
    show rJ P69 h.1 (h.1.length:Int) (h.1.length:Int)=_;unfold rJ;rw[aV,cond_false]) (by omega)with⟨k,h1,h2,h3,h4⟩ | ⟨h3,h4⟩
  ·refine⟨(k:Int),?_,?_⟩
   ·show VD P69 rK h.1=_;unfold VD;rw[show rK (h.1,(↑(List.length h.1):Int),0)=_ from h4];rfl
   ·rw[decide_eq_true (by omega)]
    symm
    rw[Bool.not_eq_true',← Bool.not_eq_true];intro ha;have:=dB.1 ha k h1;rw[this]at h2;cases h2
  ·refine⟨-1,?_,?_⟩
   ·show VD P69 rK h.1=_;unfold VD;rw[show rK (h.1,(↑(List.length h.1):Int),0)=_ from h4];rfl
   ·symm
    rw[show decide ((0:Int) ≤ -1)=false from rfl,Bool.not_eq_false'];exact dB.2 fun k hk=>by have:=h3 k hk; simpa using this
 obtain⟨z,e1,e2⟩:=e74;have e58:P58 h.1=some (!fp h.1.length (fun k=>wi (gt h.1 k) 1 12)):=by
  show q58 P74 h.1=_;unfold q58;rw[e1,bind_some',e2]
 show q48 P60 P58 h=_;unfold q48;rw[wx,nl,bind_some',e58];simp only[nl,bind_some'];rw[show((↑(List.length h.1):Int))=(h.1.length:Int)from rfl];cases wi (h.1.length:Int) 1 6 <;> cases fp h.1.length (fun k=>wi (gt h.1 k) 1 12) <;> cases wi h.2 1 600 <;> rfl
def tZ (l:List au):Prop:=(∀ c∈l,be c)∧jL l
theorem wy {l:List au}(h:tZ l)(n:Nat):tZ (l.take n):=⟨fun c hc=>h.1 c (List.mem_of_mem_take hc),fun a ha b hb=>h.2 a (List.mem_of_mem_take ha) b (List.mem_of_mem_take hb)⟩
theorem okL_snoc {l:List au}{c:au}:tZ (l++[c])↔tZ l∧be c∧∀ a∈l,a.1=c.1→a=c:=by
 unfold tZ jL;constructor
 ·rintro⟨h1,h2⟩;exact⟨⟨fun x hx=>h1 x (by simp[hx]),fun a ha b hb=>h2 a (by simp[ha]) b (by simp[hb])⟩,h1 c (by simp),fun a ha e=>h2 a (by simp[ha]) c (by simp) e⟩
 ·rintro⟨⟨h1,h2⟩,h3,h4⟩;refine⟨fun x hx=>?_,fun a ha b hb e=>?_⟩
  ·rcases List.mem_append.1 hx with q | q
   ·exact h1 x q
   ·rw[List.mem_singleton.1 q]; exact h3
  ·rcases List.mem_append.1 ha with q | q <;> rcases List.mem_append.1 hb with p | p
   ·exact h2 a q b p e
   ·rw[List.mem_singleton.1 p]at e ⊢; exact h4 a q e
   ·rw[List.mem_singleton.1 q]at e ⊢; exact(h4 b p e.symm).symm
   ·rw[List.mem_singleton.1 q,List.mem_singleton.1 p]
theorem HD {l:List au}{i:Nat}(hi:i < l.length)(hl:l.length≤1000):∃ y,L27_1 (l,(i:Int),0)=some y∧((y = .inr (l,(i:Int))∧∀ a∈l.take i,a.1=(gt l i).1→a=gt l i)∨(y = .inl 41∧¬ ∀ a∈l.take i,a.1=(gt l i).1→a=gt l i)):=by
 rcases iQ (step:=fun x=>OA x.1 x.2.1 x.2.2) i (fun k=>(l,(i:Int),(k:Int))) (fun k=>decide ((gt l k).1=(gt l i).1)&&!decide (gt l k=gt l i)) (fun _=>Sum.inl 41) (Sum.inr (l,(i:Int)))
  (fun k hk _=>by
   show sa P37 P50 l (i:Int) (k:Int)=_;unfold sa;have f:af .i64 ((k:Int)+1)=true:=aE (by omega);simp only[aN hk,cond_true,aC (show k < l.length by omega),aC hi,al,bI,Ux,f];cases decide ((gt l k).1=(gt l i).1)with
   | false=>rfl
   | true=>cases decide (gt l k=gt l i) <;> rfl)
  (fun _=>by
   show sa P37 P50 l (i:Int) (i:Int)=_;unfold sa;rw[aV,cond_false]) (by omega)with⟨k,h1,h2,h3,h4⟩ | ⟨h3,h4⟩
 ·refine⟨_,h4,.inr ⟨rfl,fun h=>?_⟩⟩;simp only[Bool.and_eq_true,decide_eq_true_eq,Bool.not_eq_true',decide_eq_false_iff_not]at h2;exact h2.2 (h _ (by rw[← lV l i k h1]; exact ck (by simp; omega)) h2.1)
 ·refine⟨_,h4,.inl ⟨rfl,fun a ha e=>?_⟩⟩;obtain⟨j,hj,q⟩:=dm ha;rw[List.length_take]at hj;rw[lV _ _ _ (by omega)]at q;have:=h3 j (by omega);rw[q]at this
  simpa [e]using this
theorem HE (l:List au)(hl:l.length≤1000):(tZ l∧vV (l,0)=some (.inr ()))∨(¬ tZ l∧vV (l,0)=some (.inl 41)):=by
 have key:=du (step:=fun x=>OC x.1 x.2)
  (fun s=>l.length-s.2.toNat)
  (fun s=>∃ i:Nat,i≤l.length∧s=(l,(i:Int))∧tZ (l.take i))
  (fun y=>(tZ l∧y=Sum.inr ())∨(¬ tZ l∧y=Sum.inl 41))
  (x:=(l,((0:Nat):Int))) ⟨0,Nat.zero_le _,rfl,by unfold tZ jL; simp⟩ (by show l.length-_ < _; omega) (by
   rintro s ⟨i,hi,rfl,ho⟩;show(∃ s',q27_0 P37 P50 L27_1 l (i:Int)=_∧_)∨∃ z,q27_0 P37 P50 L27_1 l (i:Int)=_∧_;unfold q27_0;by_cases him:i < l.length
   ·have ht:=eG l him;rw[show decide ((i:Int) < (↑(List.length l):Int))=true from aN him,cond_true,aj (aC him),bI,UE,bind_some'];by_cases hc:be (gt l i)
    ·rw[decide_eq_true hc,Bool.not_true,cond_false];obtain⟨y,e1,⟨rfl,e2⟩ | ⟨rfl,e2⟩⟩:=HD him hl
     ·left;rw[e1,bind_some',elim_inr];simp only;rw[aj (aE (by omega))];exact⟨_,rfl,⟨i+1,by omega,rfl,by rw[ht]; exact okL_snoc.2 ⟨ho,hc,e2⟩⟩,by show l.length-((i:Int)+1).toNat < l.length-((i:Nat):Int).toNat; omega⟩
     ·right;rw[e1,bind_some',elim_inl];refine⟨_,rfl,.inr ⟨fun h=>e2 ?_,rfl⟩⟩;have:=wy h (i+1);rw[ht]at this;exact(okL_snoc.1 this).2.2
    ·right;rw[decide_eq_false hc,Bool.not_false,cond_true];exact⟨_,rfl,.inr ⟨fun h=>hc (h.1 _ (ck him)),rfl⟩⟩
   ·obtain rfl:i=l.length:=by omega
    rw[List.take_length]at ho;right;rw[show decide ((l.length:Int) < (↑(List.length l):Int))=false from aV _,cond_false];exact⟨_,rfl,.inl ⟨ho,rfl⟩⟩)
 obtain⟨y,h1,⟨h2,rfl⟩ | ⟨h2,rfl⟩⟩:=key
 ·exact .inl ⟨h2,h1⟩
 ·exact .inr ⟨h2,h1⟩
theorem wz {h:List Int×Int}{l:List au}(h1:cx h)(h2:40 < l.length):ln h l=41:=by
 unfold ln;rw[if_pos h1,if_neg fun q=>by have:=q.1; omega]
theorem UJ (h:List Int×Int)(l:List au)(hh:h.1.length≤1000)(hl:l.length≤1000):wO (h,l)=some (ln h l):=by
 show q27 P37 P50 vV h l=_;unfold q27;rw[UH h hh,bind_some'];by_cases h1:cx h
 ·rw[decide_eq_true h1,Bool.not_true,cond_false];by_cases h2:40 < l.length
  ·rw[show decide (40 < (↑(List.length l):Int))=true from decide_eq_true (by omega),cond_true,wz h1 h2]
  ·rw[show decide (40 < (↑(List.length l):Int))=false from decide_eq_false (by omega),cond_false];unfold ln;rw[if_pos h1];rcases HE l hl with⟨e1,e2⟩ | ⟨e1,e2⟩
   ·rw[e2,if_pos ⟨by omega,e1.1,e1.2⟩]; rfl
   ·rw[e2,if_neg fun q=>e1 ⟨q.2.1,q.2.2⟩]; rfl
 ·rw[decide_eq_false h1,Bool.not_false,cond_true];unfold ln;rw[if_neg h1]
theorem HF (l:List au)(hl:l.length≤1000):(tZ l∧∃ m,L26_0 (l,(l.length:Int),0,[])=some (.inr m))∨(¬ tZ l∧∃ m,L26_0 (l,(l.length:Int),0,[])=some (.inl (41,m))):=by
 have key:=du (step:=fun x=>MB x.1 x.2.1 x.2.2.1 x.2.2.2)
  (fun s=>l.length-s.2.2.1.toNat)
  (fun s=>∃ (i:Nat) (m:List (List Int×au)),i≤l.length∧s=(l,(l.length:Int),(i:Int),m)∧tZ (l.take i)∧(∀ n x,dp m [n]=some x→x∈l.take i∧x.1=n)∧∀ x∈l.take i,dp m [x.1]=some x)
  (fun y=>(tZ l∧∃ m,y=Sum.inr m)∨(¬ tZ l∧∃ m,y=Sum.inl (41,m)))
  (x:=(l,(l.length:Int),((0:Nat):Int),[])) ⟨0,[],Nat.zero_le _,rfl,by unfold tZ jL; simp,fun n x h=>(by cases h),by simp⟩ (by show l.length-_ < _; omega) (by
   rintro s ⟨i,m,hi,rfl,ho,hm1,hm2⟩;show(∃ s',vB Ca Cb l (l.length:Int) (i:Int) m=_∧_)∨∃ z,vB Ca Cb l (l.length:Int) (i:Int) m=_∧_;unfold vB;by_cases him:i < l.length
   ·have ht:=eG l him;rw[aN him,cond_true,aj (aC him),bI,UF,bind_some'];have next:tZ (l.take i++[gt l i])→∃ s',(some (Sum.inl (l,(l.length:Int),(i:Int)+1,jt m [(gt l i).1] (gt l i))):Option ((List au×Int×Int×List (List Int×au))⊕((Int×List (List Int×au))⊕List (List Int×au))))=some (.inl s') ∧
      (∃ (i:Nat) (m:List (List Int×au)),i≤l.length∧s'=(l,(l.length:Int),(i:Int),m)∧tZ (l.take i)∧(∀ n x,dp m [n]=some x→x∈l.take i∧x.1=n)∧∀ x∈l.take i,dp m [x.1]=some x)∧l.length-s'.2.2.1.toNat < l.length-((i:Nat):Int).toNat:=fun hok=>by
     refine⟨_,rfl,⟨i+1,_,by omega,rfl,by rw[ht]; exact hok,fun n x hx=>?_,fun x hx=>?_⟩,by show l.length-((i:Int)+1).toNat < l.length-((i:Nat):Int).toNat; omega⟩
     ·rw[mY]at hx;rw[ht,List.mem_append,List.mem_singleton];by_cases c:[n]=[(gt l i).1]
      ·rw[if_pos c]at hx;have c':n=(gt l i).1:=by simpa using c
       cases hx;exact⟨.inr rfl,c'.symm⟩
      ·rw[if_neg c]at hx;exact⟨.inl (hm1 n x hx).1,(hm1 n x hx).2⟩
     ·rw[mY];rw[ht,List.mem_append,List.mem_singleton]at hx;by_cases c:[x.1]=[(gt l i).1]
      ·rw[if_pos c];have c':x.1=(gt l i).1:=by simpa using c
       rcases hx with hx | hx
       ·rw[(okL_snoc.1 hok).2.2 x hx c']
       ·rw[hx]
      ·rw[if_neg c];rcases hx with hx | hx
       ·exact hm2 x hx
       ·exact absurd (by rw[hx]) c
    by_cases hc:be (gt l i)
    ·rw[decide_eq_true hc,Bool.not_true,cond_false];have f:af .i64 ((i:Int)+1)=true:=aE (by omega);cases hk:dp m [(gt l i).1]with
     | none=>
      left;rw[show Option.isSome (none:Option au)=false from rfl,cond_false,aj f];refine next (okL_snoc.2 ⟨ho,hc,fun a ha e=>?_⟩)
      have:=hm2 a ha;rw[e,hk]at this;cases this
     | some old=>
      rw[show Option.isSome (some old)=true from rfl,cond_true,show xl (some old) ((0:Int),((0:Int),((0:Int),((0:Int),(0:Int)))))=old from rfl,Ux];obtain⟨g1,g2⟩:=hm1 _ old hk;by_cases hq:old=gt l i
      ·left;rw[decide_eq_true hq,Bool.not_true,cond_false,aj f];refine next (okL_snoc.2 ⟨ho,hc,fun a ha e=>?_⟩)
       have:=hm2 a ha;rw[e,hk]at this;cases this;exact hq
      ·right;rw[decide_eq_false hq,Bool.not_false,cond_true];refine⟨_,rfl,.inr ⟨fun h=>hq ?_,m,rfl⟩⟩;have:=wy h (i+1);rw[ht]at this;exact(okL_snoc.1 this).2.2 old g1 g2
    ·right;rw[decide_eq_false hc,Bool.not_false,cond_true];exact⟨_,rfl,.inr ⟨fun h=>hc (h.1 _ (ck him)),m,rfl⟩⟩
   ·obtain rfl:i=l.length:=by omega
    rw[List.take_length]at ho;right;rw[aV,cond_false];exact⟨_,rfl,.inl ⟨ho,m,rfl⟩⟩)
 obtain⟨y,h1,⟨h2,m,rfl⟩ | ⟨h2,m,rfl⟩⟩:=key
 ·exact .inl ⟨h2,m,h1⟩
 ·exact .inr ⟨h2,m,h1⟩
theorem HG (h:List Int×Int)(l:List au)(hh:h.1.length≤1000)(hl:l.length≤1000):vC (h,l)=some (ln h l):=by
 show q26 Ca Cb L26_0 h l=_;unfold q26;rw[UI h hh,bind_some'];by_cases h1:cx h
 ·rw[decide_eq_true h1,Bool.not_true,cond_false];by_cases h2:40 < l.length
  ·rw[show decide (40 < (↑(List.length l):Int))=true from decide_eq_true (by omega),cond_true,wz h1 h2]
  ·rw[show decide (40 < (↑(List.length l):Int))=false from decide_eq_false (by omega),cond_false];unfold ln;rw[if_pos h1];rcases HF l hl with⟨e1,m,e2⟩ | ⟨e1,m,e2⟩
   ·rw[show L26_0 (l,(↑(List.length l):Int),0,[])=_ from e2,if_pos ⟨by omega,e1.1,e1.2⟩]; rfl
   ·rw[show L26_0 (l,(↑(List.length l):Int),0,[])=_ from e2,if_neg fun q=>e1 ⟨q.2.1,q.2.2⟩]; rfl
 ·rw[decide_eq_false h1,Bool.not_false,cond_true];unfold ln;rw[if_neg h1]
theorem mb {h:List Int×Int}{l:List au}:ln h l=0↔cx h∧b8 l:=by
 unfold ln;by_cases h1:cx h
 ·by_cases h2:b8 l
  ·simp[h1,h2]
  ·simp[h1,h2]
 ·simp[h1]
def ft (h:List Int×Int)(l:List au)(minute order size:Int):Int:=if ln h l=0 then(if wi minute 0 9999=true∧wi order 0 99=true∧wi size 1 12=true then 0 else 1)else ln h l
theorem eH {h:List Int×Int}{l:List au}{minute order size:Int}:ft h l minute order size=0↔(cx h∧b8 l)∧(0≤minute∧minute≤9999)∧(0≤order∧order≤99)∧(1≤size∧size≤12):=by
 unfold ft;simp only[cS];by_cases h1:ln h l=0
 ·rw[if_pos h1];have:=mb.1 h1;split
  ·rename_i q; exact⟨fun _=>⟨this,q⟩,fun _=>rfl⟩
  ·rename_i q; exact⟨fun e=>(by cases e),fun e=>absurd e.2 q⟩
 ·rw[if_neg h1];exact⟨fun e=>absurd e h1,fun e=>absurd (mb.2 e.1) h1⟩
theorem np (h:List Int×Int)(l:List au)(minute order size:Int)(hh:h.1.length≤1000)(hl:l.length≤1000):i6 (h,l,minute,order,size)=(if ft h l minute order size=0 then none else some (ft h l minute order size)):=by
 show q42 vC P60 P65 h l minute order size=_;unfold q42;rw[HG h l hh hl,bind_some'];unfold ft;by_cases h1:ln h l=0
 ·rw[decide_eq_true h1,Bool.not_true,cond_false,if_pos h1];simp only[nl,bind_some'];have hn:∀ o:Option (List Int×Int×List (List Int)×List Int×List dY),(o.bind fun _=>(none:Option Int))=none:=fun o=>by cases o <;> rfl
  cases wi minute 0 9999 <;> cases wi order 0 99 <;> cases wi size 1 12 <;> first | rfl | exact hn _
 ·rw[decide_eq_false h1,Bool.not_false,cond_true,if_neg h1,if_neg h1]
theorem il {h:List Int×Int}{l:List au}{minute order size:Int}(h0:ft h l minute order size=0):
  ∃ pool,P42v1 (h,l,minute,order,size)=some (0,h.1,h.2,(afterM h l minute).1,(afterM h l minute).2.2,pool)∧PK pool (afterM h l minute).2.1:=by
 obtain⟨⟨c1,c2⟩,c3,c4,c5⟩:=eH.1 h0;obtain⟨pool,e1,e2⟩:=P65_M minute c1 c2;refine⟨pool,?_,e2⟩;show Au vC P60 P65 h l minute order size=_;unfold Au;rw[HG h l (by have:=c1.1; omega) (by have:=c2.1; omega),bind_some',mb.2 ⟨c1,c2⟩];simp only[nl,bind_some',cS.2 c3,cS.2 c4,cS.2 c5,e1];rfl
namespace Pdq44
abbrev E:=Int
section
variable {β:Type} [Inhabited β] {v:β→E} {C:β→β→Bool}
def lt (C:β→β→Bool)(x y:β):Bool:=C x y
theorem eX (a:Nat):∀ (j:Nat) (d:Array β),(Sort.insInner (lt C) a j d).size=d.size
 | 0,d=>by rw[Sort.insInner]
 | j+1,d=>by
  rw[Sort.insInner];split
  ·rw[eX a j,am]
  ·rfl
theorem eY (hi first:Nat):∀ (n root:Nat) (d:Array β),hi-root≤n→(Sort.siftDown (lt C) hi first root d).size=d.size:=by
 intro n
 induction n with
 | zero=>intro root d h; rw[Sort.siftDown,dif_pos (by omega)]
 | succ n ih=>
  intro root d h;rw[Sort.siftDown];split
  ·rfl
  ·split
   ·split
    ·rfl
    ·rw[dif_pos (by rename_i h1 h2 h3; simp only[Bool.and_eq_true,decide_eq_true_eq]at h2; omega),ih _ _ (by omega),am]
   ·split
    ·rfl
    ·rw[ih _ _ (by omega),am]
theorem dR (hi first:Nat):∀ (k:Nat) (d:Array β),(Sort.heapBuild (lt C) hi first k d).size=d.size
 | 0,d=>rfl
 | k+1,d=>by rw[Sort.heapBuild,dR hi first k,eY hi first _ k d (Nat.le_refl _)]
variable (hC:∀ x y,P91 (v x,v y)=some (lt C x y))
include hC
theorem Vd {a b i:Nat}{j:Nat}{d:Array β}(h1:j < d.size)(h2:d.size≤250)(h3:a≤250):
  Gi ((a:Int),(b:Int),(i:Int),(j:Int),MA v d)=some ((a:Int),(b:Int),(i:Int),MA v (Sort.insInner (lt C) a j d)):=by
 refine aH (fun s r n=>∃ (j:Nat) (d:Array β),j < d.size∧d.size≤250∧s=((a:Int),(b:Int),(i:Int),(j:Int),MA v d)∧r=((a:Int),(b:Int),(i:Int),MA v (Sort.insInner (lt C) a j d))∧n=j) ⟨j,d,h1,h2,rfl,rfl,rfl⟩ (by omega) ?_;rintro s r n ⟨j,d,q1,q2,rfl,rfl,rfl⟩;simp only[u5,M6,Gh];cases n with
 | zero=>left; simp(disch:=omega) only[i5,dF,cond_false,Sort.insInner]
 | succ j=>
  by_cases e:a < j+1
  ·simp(disch:=omega) only[i5,dT,cond_true,aD,al,p1,aF,aP,hC,bind_some',Nat.add_sub_cancel,Int.toNat_natCast]
   cases hl:lt C d[j+1]! d[j]!
   ·left;rw[show Sort.insInner (lt C) a (j+1) d=d by rw[Sort.insInner]; simp[hl]];simp only[cond_false]
   ·right;rw[show Sort.insInner (lt C) a (j+1) d=Sort.insInner (lt C) a j (Sort.swp d (j+1) j)by rw[Sort.insInner]; simp[hl,e]]
    simp(disch:=omega) only[cond_true,bu,aT,bv,al]
    exact⟨_,j,rfl,⟨j,Sort.swp d (j+1) j,by rw[am]; omega,by rwa [am],rfl,rfl,rfl⟩,by omega⟩
  ·left;rw[show Sort.insInner (lt C) a (j+1) d=d by rw[Sort.insInner]; simp[e]]
   simp(disch:=omega) only[i5,dF,cond_false]
theorem ins {a b:Nat}{d:Array β}(hb:b≤d.size)(hz:d.size≤250)(ha:a≤250):rP ((a:Int),(b:Int),MA v d)=some (MA v (Sort.insertionSort (lt C) d a b)):=by
 have e:Gk ((a:Int),(b:Int),((a+1:Nat):Int),MA v d)=some (MA v (Sort.insOuter (lt C) a b (a+1) d)):=by
  refine aH (fun s r n=>∃ (i:Nat) (d:Array β),b≤d.size∧d.size≤250∧s=((a:Int),(b:Int),(i:Int),MA v d)∧r=MA v (Sort.insOuter (lt C) a b i d)∧n=b-i) ⟨a+1,d,hb,hz,rfl,rfl,rfl⟩ (by omega) ?_;rintro s r n ⟨i,d,q1,q2,rfl,rfl,rfl⟩;simp only[u4,M8,Gj];rw[Sort.insOuter];by_cases e:i < b
  ·right
   simp(disch:=omega) only[i5,dT,cond_true,Vd hC,bind_some',aF,al,a1]
   exact⟨_,b-(i+1),rfl,⟨i+1,Sort.insInner (lt C) a i d,by rwa [eX],by rwa [eX],rfl,by rw[if_pos e],rfl⟩,by omega⟩
  ·left
   simp(disch:=omega) only[i5,dF,cond_false,if_neg e]
 simp(disch:=omega) only[u3,rP,p85,q85,aF,al,a1,e,bind_some',Sort.insertionSort]
theorem Ij {lo hi first:Nat}{d:Array β}(hs:first+hi≤d.size)(hl:lo < hi∨hi=0)(hz:d.size≤250)(h0:lo≤250):lm ((lo:Int),(hi:Int),(first:Int),MA v d)=some (MA v (Sort.siftDown (lt C) hi first lo d)):=by
 have key:∃ y,yr ((hi:Int),(first:Int),(lo:Int),MA v d)=some y∧Sum.elim id id y=MA v (Sort.siftDown (lt C) hi first lo d):=by
  refine iR (fun s n=>∃ (root:Nat) (d':Array β),first+hi≤d'.size∧(root < hi∨hi=0)∧d'.size≤250∧root≤250∧s=((hi:Int),(first:Int),(root:Int),MA v d')∧Sort.siftDown (lt C) hi first root d'=Sort.siftDown (lt C) hi first lo d∧n=hi-root) _
   ⟨lo,d,hs,hl,hz,h0,rfl,rfl,rfl⟩ (by omega) ?_
  rintro s n ⟨root,d',g1,g0,g2,g3,rfl,g4,rfl⟩;rw[← g4]
  clear g4
  simp only[u4,Gp,yq];rw[Sort.siftDown];by_cases e:hi≤2*root+1
  ·left
   simp(disch:=omega) only[m2,aF,al,aF,a1,iq,dT,cond_true,dif_pos (show 2*root+1≥hi from e)]
   exact⟨_,rfl,rfl⟩
  ·simp(disch:=omega) only[m2,aF,al,aF,a1,iq,i5,dF,cond_false,dif_neg (show ¬ 2*root+1≥hi from e),an]
   by_cases e2:2*root+1+1 < hi
   ·simp(disch:=omega) only[dT,cond_true,aF,al,aD,aP,hC,bind_some',Bool.true_and]
    cases hl1:lt C d'[first+(2*root+1)]! d'[first+(2*root+1)+1]!
    ·simp(disch:=omega) only[cond_false,aF,al,aD,aP,hC,bind_some',Bool.false_eq_true,if_false]
     cases hl2:lt C d'[first+root]! d'[first+(2*root+1)]!
     ·left; simp only[Bool.not_false,cond_true,if_true]; exact⟨_,rfl,rfl⟩
     ·right
      simp(disch:=omega) only[Bool.not_true,cond_false,Bool.false_eq_true,if_false,aD,al,Int.toNat_natCast,bu,aT,bv]
      exact⟨_,hi-(2*root+1),rfl,⟨2*root+1,Sort.swp d' (first+root) (first+(2*root+1)),by rw[am]; omega,by omega,by rw[am]; omega,by omega,rfl,rfl,rfl⟩,by omega⟩
    ·simp(disch:=omega) only[cond_true,aF,al,aD,aP,hC,bind_some',if_true]
     cases hl2:lt C d'[first+root]! d'[first+(2*root+1+1)]!
     ·left;have hl2':lt C d'[first+root]! d'[first+(2*root+2)]! = false:=hl2;simp only[Bool.not_false,cond_true,hl2',if_true]; exact⟨_,rfl,rfl⟩
     ·right;have hl2':lt C d'[first+root]! d'[first+(2*root+2)]! = true:=hl2
      simp(disch:=omega) only[hl2',Bool.not_true,cond_false,Bool.false_eq_true,if_false,aD,al,Int.toNat_natCast,bu,aT,bv,dif_pos (show 2*root+2 < hi from e2)]
      exact⟨_,hi-(2*root+1+1),rfl,⟨2*root+1+1,Sort.swp d' (first+root) (first+(2*root+2)),by rw[am]; omega,by omega,by rw[am]; omega,by omega,rfl,rfl,rfl⟩,by omega⟩
   ·simp(disch:=omega) only[dF,cond_false,aF,al,aD,aP,hC,bind_some',Bool.false_and,Bool.false_eq_true,if_false]
    cases hl2:lt C d'[first+root]! d'[first+(2*root+1)]!
    ·left; simp only[Bool.not_false,cond_true,if_true]; exact⟨_,rfl,rfl⟩
    ·right
     simp(disch:=omega) only[Bool.not_true,cond_false,Bool.false_eq_true,if_false,aD,al,Int.toNat_natCast,bu,aT,bv]
     exact⟨_,hi-(2*root+1),rfl,⟨2*root+1,Sort.swp d' (first+root) (first+(2*root+1)),by rw[am]; omega,by omega,by rw[am]; omega,by omega,rfl,rfl,rfl⟩,by omega⟩
 obtain⟨y,e1,e2⟩:=key;simp only[u4,lm,XW,TD,e1,bind_some'];cases y with
 | inl x=>simp only[Sum.elim_inl]; rw[← e2]; rfl
 | inr x=>simp only[Sum.elim_inr]; rw[← e2]; rfl
theorem heap {a b:Nat}{d:Array β}(hab:a < b)(hb:b≤d.size)(hz:d.size≤250):rQ ((a:Int),(b:Int),MA v d)=some (MA v (Sort.heapSort (lt C) d a b)):=by
 have c0:∀ k:Nat,(0:Int)=((0:Nat):Int):=fun _=>rfl;have e1:∀ (k:Nat),k≤b-a→Gr ((a:Int),0,((b-a:Nat):Int),(k:Int)-1,MA v d)=some ((a:Int),0,((b-a:Nat):Int),MA v (Sort.heapBuild (lt C) (b-a) a k d)):=fun k hk=>by
  refine aH (fun s r n=>∃ (k:Nat) (d':Array β),k≤b-a∧d'.size=d.size∧s=((a:Int),0,((b-a:Nat):Int),(k:Int)-1,MA v d')∧r=((a:Int),0,((b-a:Nat):Int),MA v (Sort.heapBuild (lt C) (b-a) a k d'))∧n=k) ⟨k,d,hk,rfl,rfl,rfl,rfl⟩ (by omega) ?_;rintro s r n ⟨k,d',q1,q2,rfl,rfl,rfl⟩;simp only[u5,Nf,Gq];cases n with
  | zero=>left; rfl
  | succ k=>
   right;have g1:((k+1:Nat):Int)-1=(k:Int):=by omega
   have g2:decide ((0:Int)≤(k:Int))=true:=by simp
   simp(disch:=omega) only[g1,g2,cond_true,Ij hC,bind_some',nI,al]
   exact⟨_,k,rfl,⟨k,Sort.siftDown (lt C) (b-a) a k d',by omega,by rw[eY _ _ _ _ _ (Nat.le_refl _),q2],rfl,rfl,rfl⟩,by omega⟩
 have e2:∀ (d:Array β) (k:Nat),k≤b-a→b≤d.size→d.size≤250→Gt ((a:Int),0,(k:Int)-1,MA v d)=some (MA v (Sort.heapPop (lt C) a k d)):=fun d k hk hb hz=>by
  refine aH (fun s r n=>∃ (k:Nat) (d':Array β),k≤b-a∧d'.size=d.size∧s=((a:Int),0,(k:Int)-1,MA v d')∧r=MA v (Sort.heapPop (lt C) a k d')∧n=k) ⟨k,d,hk,rfl,rfl,rfl,rfl⟩ (by omega) ?_;rintro s r n ⟨k,d',q1,q2,rfl,rfl,rfl⟩;simp only[u4,Nh,Gs];cases n with
  | zero=>left; rfl
  | succ k=>
   right;have g1:((k+1:Nat):Int)-1=(k:Int):=by omega
   have g2:decide ((0:Int)≤(k:Int))=true:=by simp
   have g3:lm (0,(k:Int),(a:Int),MA v (Sort.swp d' a (a+k)))=some (MA v (Sort.siftDown (lt C) k a 0 (Sort.swp d' a (a+k)))):=Ij hC (lo:=0) (by rw[am]; omega) (by omega) (by rw[am]; omega) (by omega)
   simp(disch:=omega) only[g1,g2,cond_true,an,aF,al,aD,aP,Int.toNat_natCast,bu,aT,bv,g3,bind_some',nI]
   exact⟨_,k,rfl,⟨k,Sort.siftDown (lt C) k a 0 (Sort.swp d' a (a+k)),by omega,by rw[eY _ _ _ _ _ (Nat.le_refl _),am,q2],rfl,rfl,rfl⟩,by omega⟩
 have t1:((b-a-1:Nat):Int)=(b:Int)-(a:Int)-1:=by omega
 have t2:Int.tdiv ((b-a-1:Nat):Int) 2=((b-a-1) / 2:Nat):=C0 _;have e1':=e1 ((b-a-1) / 2+1) (by omega);rw[show(((b-a-1) / 2+1:Nat):Int)-1=(((b-a-1) / 2:Nat):Int)by omega]at e1';have e2':=e2 (Sort.heapBuild (lt C) (b-a) a ((b-a-1) / 2+1) d) (b-a) (Nat.le_refl _) (by rw[dR]; exact hb) (by rw[dR]; exact hz)
 simp(disch:=omega) only[u3,rQ,p86,q86,pn,aF,al,p1,t2,e1',bind_some',nI]
 rw[show((b-a-1:Nat):Int)=((b-a:Nat):Int)-1 by omega]
 simp(disch:=omega) only[nI,al,e2',bind_some',Sort.heapSort]
omit hC
theorem Ik {n:Nat}(h:n < 256):P67 (n:Int)=some ((Sort.bitsLen n:Nat):Int):=by
 have f:af .u8 (n:Int)=true:=by
  rw[af,decide_eq_true_eq];have e2:(2:Int)^8=256:=by decide
  simp only[IntKind.wrap,IntKind.bits,IntKind.signed,Bool.false_and,e2,Bool.false_eq_true,if_false];omega
 have d1:decide ((4294967296:Int)≤(n:Int))=false:=by simp; omega
 have d2:decide ((65536:Int)≤(n:Int))=false:=by simp; omega
 have d3:decide ((256:Int)≤(n:Int))=false:=by simp; omega
 simp only[P67,p67,q67,P95,p95,q95,zW,ED,zV,d1,cond_false,bind_some',d2,d3,f,al];have key:∀ m:Fin 256,∀ t:ByteArray,t=tb→aA (m.val:Int) t.size=true∧zq t (m.val:Int)=((Sort.bitsLen m.val:Nat):Int):=by
  intro m t ht;subst ht;constructor
  ·exact aC (by have:=m.isLt; exact this)
  ·revert m; decide +kernel
 obtain⟨k1,k2⟩:=key ⟨n,h⟩ _ rfl;simp only at k1 k2;have hl:=(Sort.bitsLen_le_iff n 8).2 (by omega);have z:(0:Int)+((Sort.bitsLen n:Nat):Int)=((Sort.bitsLen n:Nat):Int):=by omega
 simp(disch:=omega) only[k1,al,k2,z,aF,bind_some']
theorem npt {n:Nat}(h:n < 256):h9 (n:Int)=some (((1 <<< Sort.bitsLen n:Nat)):Int):=by
 have hl:=(Sort.bitsLen_le_iff n 8).2 (by omega);have f:af .u64 (n:Int)=true:=nH (by omega) (by omega);have d:decide ((0:Int)≤((Sort.bitsLen n:Nat):Int))=true:=by simp
 have e:gC .u64 1 ((Sort.bitsLen n:Nat):Int)=((1 <<< Sort.bitsLen n:Nat):Int):=by
  have hm:min ((Sort.bitsLen n:Nat):Int).toNat (IntKind.bits .u64)=Sort.bitsLen n:=by show min (Sort.bitsLen n) 64=_; omega
  have h2:2^Sort.bitsLen n≤2^8:=Nat.pow_le_pow_right (by omega) hl;unfold gC;rw[hm,show((1:Int)*2^Sort.bitsLen n)=((2^Sort.bitsLen n:Nat):Int)by simp,zN (by omega),Nat.one_shiftLeft]
 simp only[h9,Sg,JN,f,al,Ik h,bind_some',d,e]
theorem Ve (r:UInt64):ia (r.toNat:Int)=some (((Sort.xorNext r).toNat:Int),((Sort.xorNext r).toNat:Int)):=by
 have s13:∀ a:UInt64,gC .u64 (a.toNat:Int) 13=((a <<< 13).toNat:Int):=fun a=>Ju a 13 (by omega);have s7:∀ a:UInt64,bG .u64 (a.toNat:Int) 7=((a >>> 7).toNat:Int):=fun a=>WE a 7 (by omega);have s17:∀ a:UInt64,gC .u64 (a.toNat:Int) 17=((a <<< 17).toNat:Int):=fun a=>Ju a 17 (by omega);simp only[ia,Sj,JO,s13,s7,s17,Mb,Sort.xorNext]
theorem brk {a b:Nat}{d:Array β}(hab:a≤b)(hb:b≤d.size)(hz:d.size≤250):qH ((a:Int),(b:Int),MA v d)=some (MA v (Sort.breakPatterns d a b)):=by
 unfold Sort.breakPatterns;simp only[];by_cases h8:8≤b-a
 ·have g8:decide ((8:Int)≤((b-a:Nat):Int))=true:=by simp; omega
  have hm1:1 <<< Sort.bitsLen (b-a)≤2*(b-a):=by rw[Nat.one_shiftLeft]; exact Sort.two_pow_bitsLen_le (by omega)
  have hm0:0 < 1 <<< Sort.bitsLen (b-a):=by rw[Nat.one_shiftLeft]; exact Nat.two_pow_pos _
  generalize hm:1 <<< Sort.bitsLen (b-a)=m at *;generalize hn:b-a=n at *
  let st:Nat→UInt64×Array β:=fun k=>Nat.rec (UInt64.ofNat n,d) (fun i s=>Sort.breakStep a n m s (a+n / 4*2-1+i)) k
  have hst:∀ k,(st k).2.size=d.size:=fun k=>by
   induction k with
   | zero=>rfl
   | succ k ih=>show(Sort.swp _ _ _).size=_; rw[am]; exact ih
  have hrun:Gv ((a:Int),(n:Int),(m:Int),((a+n / 4*2-1:Nat):Int),MA v d,(n:Int))=some (MA v (st 3).2,((st 3).1.toNat:Int)):=by
   have h0:((UInt64.ofNat n).toNat:Int)=(n:Int):=by rw[UInt64.toNat_ofNat']; omega
   refine aY 3 (fun k=>((a:Int),(n:Int),(m:Int),((a+n / 4*2-1+k:Nat):Int),MA v (st k).2,((st k).1.toNat:Int))) _ (fun k hk=>?_) ?_ (by omega) |> fun h=>by
    have e:((a:Int),(n:Int),(m:Int),((a+n / 4*2-1+0:Nat):Int),MA v (st 0).2,((st 0).1.toNat:Int))=((a:Int),(n:Int),(m:Int),((a+n / 4*2-1:Nat):Int),MA v d,(n:Int)):=by
     show(_,_,_,_,_,((UInt64.ofNat n).toNat:Int))=_;rw[h0]; rfl
    rw[← e]; exact h
   ·have q4:Int.tdiv (n:Int) 4=((n / 4:Nat):Int):=C0 n;have q5:((n / 4:Nat):Int)*2=((n / 4*2:Nat):Int):=by omega
    have hsz:=hst k;generalize hr:st k=s at *;have hnx:st (k+1)=Sort.breakStep a n m (st k) (a+n / 4*2-1+k):=rfl;rw[hr]at hnx;have hlt:=(Sort.xorNext s.1).toNat_lt;have hbd:(Sort.xorNext s.1).toNat &&& (m-1)≤m-1:=Nat.and_le_right;have fu:af .u64 ((m-1:Nat):Int)=true:=nH (by omega) (by omega)
    simp(disch:=omega) only[u6,Gu,Ay,q4,aF,al,q5,an,a1,iq,dT,cond_true,Ve,bind_some',fu,p1,Ma]
    rw[hnx];unfold Sort.breakStep;simp only[];generalize (Sort.xorNext s.1).toNat &&& (m-1)=o at *;by_cases ho:n≤o
    ·simp(disch:=omega) only[dT,cond_true,pn,aF,al,an,aD,aP,Int.toNat_natCast,bu,aT,bv,if_pos (show o≥n from ho),a1]
     rw[show a+n / 4*2-1+k+1=a+n / 4*2-1+(k+1)by omega]
    ·simp(disch:=omega) only[dF,cond_false,pn,aF,al,an,aD,aP,Int.toNat_natCast,bu,aT,bv,if_neg (show ¬ o≥n from ho),a1]
     rw[show a+n / 4*2-1+k+1=a+n / 4*2-1+(k+1)by omega]
   ·have q4:Int.tdiv (n:Int) 4=((n / 4:Nat):Int):=C0 n;have q5:((n / 4:Nat):Int)*2=((n / 4*2:Nat):Int):=by omega
    simp(disch:=omega) only[u6,Gu,Ay,q4,aF,al,q5,an,a1,iq,dF,cond_false]
  have q4:Int.tdiv (n:Int) 4=((n / 4:Nat):Int):=C0 n;have q5:((n / 4:Nat):Int)*2=((n / 4*2:Nat):Int):=by omega
  have fu:af .u64 (n:Int)=true:=nH (by omega) (by omega);have hn':(b:Int)-(a:Int)=(n:Int):=by omega
  have hnp:=npt (n:=n) (by omega);rw[hm]at hnp;have hst3:st 3=Sort.breakStep a n m (Sort.breakStep a n m (Sort.breakStep a n m (UInt64.ofNat n,d) (a+n / 4*2-1)) (a+n / 4*2-1+1)) (a+n / 4*2-1+2):=rfl;rw[hst3]at hrun;rw[if_pos (show n≥8 from h8)]
  simp(disch:=omega) only[u3,qH,p87,q87,hn',aF,al,g8,cond_true,fu,hnp,bind_some',q4,q5,an,p1,hrun]
 ·have g8:decide ((8:Int)≤((b-a:Nat):Int))=false:=by simp; omega
  simp(disch:=omega) only[u3,qH,p87,q87,pn,aF,al,g8,cond_false,if_neg (show ¬ b-a≥8 from h8)]
theorem rev {a b:Nat}{d:Array β}(hab:a≤b)(hb1:1≤b)(hb:b≤d.size)(hz:d.size≤250):rS ((a:Int),(b:Int),MA v d)=some (MA v (Sort.reverseRange d a b)):=by
 have e:Gx ((a:Int),((b-1:Nat):Int),MA v d)=some (MA v (Sort.reverseLoop a (b-1) d)):=by
  refine aH (fun s r n=>∃ (i j:Nat) (d:Array β),j < d.size∧d.size≤250∧i≤250∧s=((i:Int),(j:Int),MA v d)∧r=MA v (Sort.reverseLoop i j d)∧n=j-i) ⟨a,b-1,d,by omega,hz,by omega,rfl,rfl,rfl⟩ (by omega) ?_;rintro s r n ⟨i,j,d,q1,q2,q3,rfl,rfl,rfl⟩;simp only[u3,No,Gw];by_cases e:i < j
  ·right;rw[show Sort.reverseLoop i j d=Sort.reverseLoop (i+1) (j-1) (Sort.swp d i j)by rw[Sort.reverseLoop,if_pos e]]
   simp(disch:=omega) only[i5,dT,cond_true,aD,aP,al,Int.toNat_natCast,bu,aT,bv,a1,aF,p1]
   exact⟨_,j-1-(i+1),rfl,⟨i+1,j-1,Sort.swp d i j,by rw[am]; omega,by rwa [am],by omega,rfl,rfl,rfl⟩,by omega⟩
  ·left;rw[show Sort.reverseLoop i j d=d by rw[Sort.reverseLoop,if_neg e]]
   simp(disch:=omega) only[i5,dF,cond_false]
 simp(disch:=omega) only[u3,rS,p89,q89,p1,aF,al,e,bind_some',Sort.reverseRange]
include hC
theorem ord {a b s:Nat}{d:Array β}(ha:a < d.size)(hb:b < d.size)(hs:s≤250):qI ((a:Int),(b:Int),MA v d,(s:Int))=some (((Sort.order2 (lt C) d a b s).1:Int),((Sort.order2 (lt C) d a b s).2.1:Int),MA v d,((Sort.order2 (lt C) d a b s).2.2:Int)):=by
 unfold Sort.order2
 simp(disch:=omega) only[u4,qI,X5,TG,aD,al,aP,hC,bind_some',a1,aF]
 cases lt C d[b]! d[a]! <;> rfl
theorem Vf {a b c s:Nat}{d:Array β}(ha:a < d.size)(hb:b < d.size)(hc:c < d.size)(hs:s≤200):ni ((a:Int),(b:Int),(c:Int),MA v d,(s:Int))=some (((Sort.median (lt C) d a b c s).1:Int),MA v d,((Sort.median (lt C) d a b c s).2:Int)):=by
 unfold Sort.median;simp only[];have o1:=Sort.order2_mem (lt C) d a b s;have n1:=Sort.order2_count (lt C) d a b s;generalize g1:Sort.order2 (lt C) d a b s=r1 at *;have o2:=Sort.order2_mem (lt C) d r1.2.1 c r1.2.2;have n2:=Sort.order2_count (lt C) d r1.2.1 c r1.2.2;generalize g2:Sort.order2 (lt C) d r1.2.1 c r1.2.2=r2 at *;have e1:qI ((a:Int),(b:Int),MA v d,(s:Int))=some ((r1.1:Int),(r1.2.1:Int),MA v d,(r1.2.2:Int)):=by rw[ord hC ha hb (by omega),g1]
 have e2:qI ((r1.2.1:Int),(c:Int),MA v d,(r1.2.2:Int))=some ((r2.1:Int),(r2.2.1:Int),MA v d,(r2.2.2:Int)):=by rw[ord hC (by omega) hc (by omega),g2]
 have e3:=ord hC (d:=d) (a:=r1.1) (b:=r2.1) (s:=r2.2.2) (by omega) (by omega) (by omega);simp only[u5,ni,X7,TJ,e1,e2,e3,bind_some']
theorem Vg {a s:Nat}{d:Array β}(ha:1≤a)(hb:a+1 < d.size)(hz:d.size≤250)(hs:s≤200):tK ((a:Int),MA v d,(s:Int))=some (((Sort.medianAdjacent (lt C) d a s).1:Int),MA v d,((Sort.medianAdjacent (lt C) d a s).2:Int)):=by
 have e:=Vf hC (d:=d) (a:=a-1) (b:=a) (c:=a+1) (s:=s) (by omega) (by omega) hb hs;unfold Sort.medianAdjacent
 simp(disch:=omega) only[u3,tK,Ya,TM,p1,aF,al,a1,e,bind_some']
omit hC
def hN:Sort.Hint→Int
 | .unknown=>0
 | .increasing=>1
 | .decreasing=>2
include hC
theorem chp {a b:Nat}{d:Array β}(hab:a < b)(hb:b≤d.size)(hz:d.size≤250):rR ((a:Int),(b:Int),MA v d)=some (((Sort.choosePivot (lt C) d a b).1:Int),hN (Sort.choosePivot (lt C) d a b).2,MA v d):=by
 unfold Sort.choosePivot;simp only[];generalize hn:b-a=n at *;have q4:Int.tdiv (n:Int) 4=((n / 4:Nat):Int):=C0 n;have q1:((n / 4:Nat):Int)*1=((n / 4*1:Nat):Int):=by omega
 have q2:((n / 4:Nat):Int)*2=((n / 4*2:Nat):Int):=by omega
 have q3:((n / 4:Nat):Int)*3=((n / 4*3:Nat):Int):=by omega
 have hn':(b:Int)-(a:Int)=(n:Int):=by omega
 have hfin:∀ (p s:Nat),(cond (decide ((s:Int)=0)) (some ((p:Int),(1:Int),MA v d)) (cond (decide ((s:Int)=12)) (some ((p:Int),(2:Int),MA v d)) (some ((p:Int),(0:Int),MA v d)))) =
   some ((p:Int),hN (if s=0 then Sort.Hint.increasing else if s=12 then Sort.Hint.decreasing else Sort.Hint.unknown),MA v d):=fun p s=>by
  by_cases h0:s=0
  ·subst h0; rfl
  ·have d0:decide ((s:Int)=0)=false:=by simp; omega
   rw[d0,if_neg h0];by_cases h12:s=12
   ·subst h12; rfl
   ·have d1:decide ((s:Int)=12)=false:=by simp; omega
    rw[d1,if_neg h12]; rfl
 simp(disch:=omega) only[u3,rR,p88,q88,hn',aF,al,q4,q1,q2,q3,an]
 by_cases h8:8≤n
 ·have d8:decide ((8:Int)≤(n:Int))=true:=by simp; omega
  rw[d8,cond_true,if_pos (show n≥8 from h8)];by_cases h50:50≤n
  ·have d50:decide ((50:Int)≤(n:Int))=true:=by simp; omega
   rw[d50,cond_true,if_pos (show n≥50 from h50)];have m1:=Sort.medianAdjacent_mem (lt C) d (a+n / 4*1) 0;have c1:=Sort.medianAdjacent_count (lt C) d (a+n / 4*1) 0;have e1:=Vg hC (d:=d) (a:=a+n / 4*1) (s:=0) (by omega) (by omega) hz (by omega);generalize Sort.medianAdjacent (lt C) d (a+n / 4*1) 0=r1 at *;have m2:=Sort.medianAdjacent_mem (lt C) d (a+n / 4*2) r1.2;have c2:=Sort.medianAdjacent_count (lt C) d (a+n / 4*2) r1.2;have e2:=Vg hC (d:=d) (a:=a+n / 4*2) (s:=r1.2) (by omega) (by omega) hz (by omega);generalize Sort.medianAdjacent (lt C) d (a+n / 4*2) r1.2=r2 at *;have m3:=Sort.medianAdjacent_mem (lt C) d (a+n / 4*3) r2.2;have c3:=Sort.medianAdjacent_count (lt C) d (a+n / 4*3) r2.2;have e3:=Vg hC (d:=d) (a:=a+n / 4*3) (s:=r2.2) (by omega) (by omega) hz (by omega);generalize Sort.medianAdjacent (lt C) d (a+n / 4*3) r2.2=r3 at *;have e4:=Vf hC (d:=d) (a:=r1.1) (b:=r2.1) (c:=r3.1) (s:=r3.2) (by omega) (by omega) (by omega) (by omega);have e1':tK (((a+n / 4*1:Nat):Int),MA v d,0)=some ((r1.1:Int),MA v d,(r1.2:Int)):=e1;simp only[e1',e2,e3,e4,bind_some',hfin]
  ·have d50:decide ((50:Int)≤(n:Int))=false:=by simp; omega
   rw[d50,cond_false,if_neg (show ¬ n≥50 from h50)];have e4:ni (((a+n / 4*1:Nat):Int),((a+n / 4*2:Nat):Int),((a+n / 4*3:Nat):Int),MA v d,0)=some (((Sort.median (lt C) d (a+n / 4*1) (a+n / 4*2) (a+n / 4*3) 0).1:Int),MA v d,((Sort.median (lt C) d (a+n / 4*1) (a+n / 4*2) (a+n / 4*3) 0).2:Int)):=Vf hC (s:=0) (by omega) (by omega) (by omega) (by omega);simp only[e4,bind_some',hfin]
 ·have d8:decide ((8:Int)≤(n:Int))=false:=by simp; omega
  rw[d8,cond_false,if_neg (show ¬ n≥8 from h8)];rfl
omit hC
theorem qq (d:Array β)(b:Nat):∀ (n i:Nat),b-i≤n→i≤b→i≤Sort.scanSorted (lt C) d b i∧Sort.scanSorted (lt C) d b i≤b:=by
 intro n
 induction n with
 | zero=>intro i h1 h2; rw[Sort.scanSorted,if_neg (by simp; omega)]; omega
 | succ n ih=>
  intro i h1 h2;rw[Sort.scanSorted];split
  ·rename_i h;simp only[Bool.and_eq_true,decide_eq_true_eq]at h;have:=ih (i+1) (by omega) (by omega);omega
  ·omega
theorem jN:∀ (j:Nat) (d:Array β),(Sort.shiftDown (lt C) j d).size=d.size
 | 0,d=>by rw[Sort.shiftDown]
 | j+1,d=>by
  rw[Sort.shiftDown];split
  ·rfl
  ·rw[jN j,am]
theorem jO (b:Nat):∀ (n j:Nat) (d:Array β),b-j≤n→(Sort.shiftUp (lt C) b j d).size=d.size:=by
 intro n
 induction n with
 | zero=>intro j d h; rw[Sort.shiftUp,if_neg (by omega)]
 | succ n ih=>
  intro j d h;rw[Sort.shiftUp];split
  ·split
   ·rfl
   ·rw[ih _ _ (by omega),am]
  ·rfl
include hC
theorem ps1 {a b i j:Nat}{d:Array β}(h1:1≤i)(hb:b≤d.size)(hz:d.size≤250)(hi:i≤250):Gz ((a:Int),(b:Int),(i:Int),(j:Int),MA v d)=some ((a:Int),(b:Int),((Sort.scanSorted (lt C) d b i:Nat):Int),(j:Int),MA v d):=by
 refine aH (fun s r n=>∃ i:Nat,1≤i∧i≤251∧s=((a:Int),(b:Int),(i:Int),(j:Int),MA v d)∧r=((a:Int),(b:Int),((Sort.scanSorted (lt C) d b i:Nat):Int),(j:Int),MA v d)∧n=b-i) ⟨i,h1,by omega,rfl,rfl,rfl⟩ (by omega) ?_;rintro s r n ⟨i,q1,q2,rfl,rfl,rfl⟩;simp only[u5,Ny,Gy];by_cases e:i < b
 ·simp(disch:=omega) only[i5,dT,cond_true,aD,al,p1,aF,aP,hC,bind_some']
  cases hl:lt C d[i]! d[i-1]!
  ·right;rw[show Sort.scanSorted (lt C) d b i=Sort.scanSorted (lt C) d b (i+1)by rw[Sort.scanSorted,if_pos (by simp[e,hl])]]
   simp(disch:=omega) only[Bool.not_false,cond_true,a1,aF,al]
   exact⟨_,b-(i+1),rfl,⟨i+1,by omega,by omega,rfl,rfl,rfl⟩,by omega⟩
  ·left;rw[show Sort.scanSorted (lt C) d b i=i by rw[Sort.scanSorted,if_neg (by simp[hl])]];simp only[Bool.not_true,cond_false]
 ·left;rw[show Sort.scanSorted (lt C) d b i=i by rw[Sort.scanSorted,if_neg (by simp[e])]]
  simp(disch:=omega) only[i5,dF,cond_false]
theorem ps3 {a b i j k:Nat}{d:Array β}(hk:k < d.size)(hz:d.size≤250):GB ((a:Int),(b:Int),(i:Int),(j:Int),(k:Int),MA v d)=some ((a:Int),(b:Int),(i:Int),(j:Int),MA v (Sort.shiftDown (lt C) k d)):=by
 refine aH (fun s r n=>∃ (k:Nat) (d:Array β),k < d.size∧d.size≤250∧s=((a:Int),(b:Int),(i:Int),(j:Int),(k:Int),MA v d)∧r=((a:Int),(b:Int),(i:Int),(j:Int),MA v (Sort.shiftDown (lt C) k d))∧n=k) ⟨k,d,hk,hz,rfl,rfl,rfl⟩ (by omega) ?_;rintro s r n ⟨k,d,q1,q2,rfl,rfl,rfl⟩;simp only[u6,NA,GA];cases n with
 | zero=>left; rw[Sort.shiftDown]; rfl
 | succ k=>
  have g1:decide ((1:Int)≤((k+1:Nat):Int))=true:=by simp; omega
  simp(disch:=omega) only[g1,cond_true,aD,al,p1,aF,aP,hC,bind_some',Nat.add_sub_cancel]
  cases hl:lt C d[k+1]! d[k]!
  ·left;rw[show Sort.shiftDown (lt C) (k+1) d=d by rw[Sort.shiftDown,if_pos (by simp[hl])]];simp only[Bool.not_false,cond_true]
  ·right;rw[show Sort.shiftDown (lt C) (k+1) d=Sort.shiftDown (lt C) k (Sort.swp d (k+1) k)by rw[Sort.shiftDown,if_neg (by simp[hl])]]
   simp(disch:=omega) only[Bool.not_true,cond_false,aD,al,aP,Int.toNat_natCast,bu,aT,bv]
   exact⟨_,k,rfl,⟨k,Sort.swp d (k+1) k,by rw[am]; omega,by rwa [am],rfl,rfl,rfl⟩,by omega⟩
theorem ps2 {a b i j:Nat}{d:Array β}(ha:a≤i)(h1:1≤i)(hi:i≤d.size)(hz:d.size≤250):AB ((a:Int),(b:Int),(i:Int),(j:Int),MA v d)=some ((a:Int),(b:Int),(i:Int),(j:Int),MA v (if i-a≥2 then Sort.shiftDown (lt C) (i-1) d else d)):=by
 simp only[AB,NB,GC];by_cases e:2≤i-a
 ·have g1:decide ((2:Int)≤((i-a:Nat):Int))=true:=by simp; omega
  simp(disch:=omega) only[pn,aF,al,g1,cond_true,p1,ps3 hC,bind_some',if_pos (show i-a≥2 from e)]
 ·have g1:decide ((2:Int)≤((i-a:Nat):Int))=false:=by simp; omega
  simp(disch:=omega) only[pn,aF,al,g1,cond_false,if_neg (show ¬ i-a≥2 from e)]
theorem ps4 {a b i j k:Nat}{d:Array β}(h1:1≤k)(hk:k≤250)(hb:b≤d.size)(hz:d.size≤250):GE ((a:Int),(b:Int),(i:Int),(j:Int),(k:Int),MA v d)=some ((a:Int),(b:Int),(i:Int),(j:Int),MA v (Sort.shiftUp (lt C) b k d)):=by
 refine aH (fun s r n=>∃ (k:Nat) (d:Array β),1≤k∧k≤251∧b≤d.size∧d.size≤250∧s=((a:Int),(b:Int),(i:Int),(j:Int),(k:Int),MA v d)∧r=((a:Int),(b:Int),(i:Int),(j:Int),MA v (Sort.shiftUp (lt C) b k d))∧n=b-k) ⟨k,d,h1,by omega,hb,hz,rfl,rfl,rfl⟩ (by omega) ?_;rintro s r n ⟨k,d,q1,q0,q2,q3,rfl,rfl,rfl⟩;simp only[u6,NE,GD];by_cases e:k < b
 ·simp(disch:=omega) only[i5,dT,cond_true,aD,al,p1,aF,aP,hC,bind_some']
  cases hl:lt C d[k]! d[k-1]!
  ·left;rw[show Sort.shiftUp (lt C) b k d=d by rw[Sort.shiftUp,if_pos e,if_pos (by simp[hl])]];simp only[Bool.not_false,cond_true]
  ·right;rw[show Sort.shiftUp (lt C) b k d=Sort.shiftUp (lt C) b (k+1) (Sort.swp d k (k-1))by rw[Sort.shiftUp,if_pos e,if_neg (by simp[hl])]]
   simp(disch:=omega) only[Bool.not_true,cond_false,aD,al,aP,Int.toNat_natCast,bu,aT,bv,a1,aF]
   exact⟨_,b-(k+1),rfl,⟨k+1,Sort.swp d k (k-1),by omega,by omega,by rwa [am],by rwa [am],rfl,rfl,rfl⟩,by omega⟩
 ·left;rw[show Sort.shiftUp (lt C) b k d=d by rw[Sort.shiftUp,if_neg e]]
  simp(disch:=omega) only[i5,dF,cond_false]
theorem pis {a b:Nat}{d:Array β}(hab:a < b)(hb:b≤d.size)(hz:d.size≤250):rU ((a:Int),(b:Int),MA v d)=some ((Sort.partialInsertionSort (lt C) d a b).2,MA v (Sort.partialInsertionSort (lt C) d a b).1):=by
 have key:∃ y,GG ((a:Int),(b:Int),((a+1:Nat):Int),0,MA v d)=some y∧Sum.elim (fun y=>(y.2,y.1)) (fun y=>(y,false)) y=(MA v (Sort.partialInsertionSort (lt C) d a b).1,(Sort.partialInsertionSort (lt C) d a b).2):=by
  refine iR (fun s n=>∃ (t i:Nat) (d':Array β),t≤5∧a < i∧i≤b∧b≤d'.size∧d'.size≤250∧s=((a:Int),(b:Int),(i:Int),((5-t:Nat):Int),MA v d')∧Sort.partialIns (lt C) a b t i d'=Sort.partialInsertionSort (lt C) d a b∧n=t) _
   ⟨5,a+1,d,by omega,by omega,by omega,hb,hz,rfl,rfl,rfl⟩ (by omega) ?_
  rintro s n ⟨t,i,d',q1,q2,q3,q4,q5,rfl,q6,rfl⟩;rw[← q6]
  clear q6
  simp only[u5,NG,GF];cases n with
  | zero=>left; exact⟨_,rfl,rfl⟩
  | succ t=>
   have g0:decide (((5-(t+1):Nat):Int) < 5)=true:=by simp; omega
   have hs:=qq (C:=C) d' b _ i (Nat.le_refl _) q3;rw[Sort.partialIns]
   simp(disch:=omega) only[g0,cond_true,ps1 hC,bind_some']
   generalize Sort.scanSorted (lt C) d' b i=i2 at *;by_cases e:i2=b
   ·left;have g1:decide ((i2:Int)=(b:Int))=true:=by simp; omega
    simp only[g1,cond_true,if_pos e];exact⟨_,rfl,rfl⟩
   ·have g1:decide ((i2:Int)=(b:Int))=false:=by simp; omega
    simp(disch:=omega) only[g1,cond_false,if_neg e,pn,aF,al]
    by_cases e5:b-a < 50
    ·left;have g2:decide (((b-a:Nat):Int) < 50)=true:=by simp; omega
     simp only[g2,cond_true,if_pos e5];exact⟨_,rfl,rfl⟩
    ·right;have g2:decide (((b-a:Nat):Int) < 50)=false:=by simp; omega
     have z1:(Sort.swp d' i2 (i2-1)).size=d'.size:=am _ _ _
     simp(disch:=omega) only[g2,cond_false,if_neg e5,p1,aF,al,aD,aP,Int.toNat_natCast,bu,aT,bv,ps2 hC,bind_some',pn]
     generalize hd2:(if i2-a≥2 then Sort.shiftDown (lt C) (i2-1) (Sort.swp d' i2 (i2-1))else Sort.swp d' i2 (i2-1))=d2;have z2:d2.size=d'.size:=by
      rw[← hd2]; split
      ·rw[jN,z1]
      ·exact z1
     by_cases e2:2≤b-i2
     ·have g3:decide ((2:Int)≤((b-i2:Nat):Int))=true:=by simp; omega
      simp(disch:=omega) only[g3,cond_true,a1,aF,al,ps4 hC,bind_some',if_pos (show b-i2≥2 from e2)]
      exact⟨_,t,rfl,⟨t,i2,Sort.shiftUp (lt C) b (i2+1) d2,by omega,by omega,by omega,by rw[jO _ _ _ _ (Nat.le_refl _)]; omega,by rw[jO _ _ _ _ (Nat.le_refl _)]; omega,by rw[show 5-(t+1)+1=5-t by omega],rfl,rfl⟩,by omega⟩
     ·have g3:decide ((2:Int)≤((b-i2:Nat):Int))=false:=by simp; omega
      simp(disch:=omega) only[g3,cond_false,a1,aF,al,if_neg (show ¬ b-i2≥2 from e2)]
      exact⟨_,t,rfl,⟨t,i2,d2,by omega,by omega,by omega,by omega,by omega,by rw[show 5-(t+1)+1=5-t by omega],rfl,rfl⟩,by omega⟩
 obtain⟨y,e1,e2⟩:=key
 simp(disch:=omega) only[u3,rU,p90,q90,a1,aF,al,e1,bind_some']
 cases y with
 | inl x=>
  simp only[Sum.elim_inl,Prod.mk.injEq]at e2 ⊢;rw[e2.1,e2.2]
 | inr x=>
  simp only[Sum.elim_inr,Prod.mk.injEq]at e2 ⊢;rw[e2.1,e2.2]
theorem pe1 {a i j:Nat}{d:Array β}(ha:a < d.size)(hj:j < d.size)(hz:d.size≤250):GI ((a:Int),(i:Int),(j:Int),MA v d)=some ((a:Int),((Sort.scanUp (fun x=>!lt C d[a]! x) d j i:Nat):Int),(j:Int),MA v d):=by
 refine aH (fun s r n=>∃ i:Nat,s=((a:Int),(i:Int),(j:Int),MA v d)∧r=((a:Int),((Sort.scanUp (fun x=>!lt C d[a]! x) d j i:Nat):Int),(j:Int),MA v d)∧n=j+1-i) ⟨i,rfl,rfl,rfl⟩ (by omega) ?_;rintro s r n ⟨i,rfl,rfl,rfl⟩;simp only[u4,NL,GH];by_cases e:i≤j
 ·simp(disch:=omega) only[iq,dT,cond_true,aD,al,aF,aP,hC,bind_some']
  cases hl:lt C d[a]! d[i]!
  ·right;rw[show Sort.scanUp (fun x=>!lt C d[a]! x) d j i=Sort.scanUp (fun x=>!lt C d[a]! x) d j (i+1)by rw[Sort.scanUp,if_pos (by simp[e,hl])]]
   simp(disch:=omega) only[Bool.not_false,cond_true,a1,aF,al]
   exact⟨_,j+1-(i+1),rfl,⟨i+1,rfl,rfl,rfl⟩,by omega⟩
  ·left;rw[show Sort.scanUp (fun x=>!lt C d[a]! x) d j i=i by rw[Sort.scanUp,if_neg (by simp[hl])]];simp only[Bool.not_true,cond_false]
 ·left;rw[show Sort.scanUp (fun x=>!lt C d[a]! x) d j i=i by rw[Sort.scanUp,if_neg (by simp[e])]]
  simp(disch:=omega) only[iq,dF,cond_false]
theorem pe2 {a i j:Nat}{d:Array β}(ha:a < d.size)(hi:1≤i)(hj:j < d.size)(hz:d.size≤250):GK ((a:Int),(i:Int),(j:Int),MA v d)=some ((a:Int),(i:Int),((Sort.scanDown (fun x=>lt C d[a]! x) d i j:Nat):Int),MA v d):=by
 refine aH (fun s r n=>∃ j:Nat,j < d.size∧s=((a:Int),(i:Int),(j:Int),MA v d)∧r=((a:Int),(i:Int),((Sort.scanDown (fun x=>lt C d[a]! x) d i j:Nat):Int),MA v d)∧n=j) ⟨j,hj,rfl,rfl,rfl⟩ (by omega) ?_;rintro s r n ⟨j,q1,rfl,rfl,rfl⟩;simp only[u4,NN,GJ];cases n with
 | zero=>
  left;rw[show Sort.scanDown (fun x=>lt C d[a]! x) d i 0=0 by rw[Sort.scanDown]]
  simp(disch:=omega) only[iq,dF,cond_false]
 | succ j=>
  by_cases e:i≤j+1
  ·simp(disch:=omega) only[iq,dT,cond_true,aD,al,aF,aP,hC,bind_some']
   cases hl:lt C d[a]! d[j+1]!
   ·left;rw[show Sort.scanDown (fun x=>lt C d[a]! x) d i (j+1)=j+1 by rw[Sort.scanDown,if_neg (by simp[hl])]];simp only[cond_false]
   ·right;rw[show Sort.scanDown (fun x=>lt C d[a]! x) d i (j+1)=Sort.scanDown (fun x=>lt C d[a]! x) d i j by rw[Sort.scanDown,if_pos (by simp[e,hl])]]
    simp(disch:=omega) only[cond_true,p1,Nat.add_sub_cancel,aF,al]
    exact⟨_,j,rfl,⟨j,by omega,rfl,rfl,rfl⟩,by omega⟩
  ·left;rw[show Sort.scanDown (fun x=>lt C d[a]! x) d i (j+1)=j+1 by rw[Sort.scanDown,if_neg (by simp[e])]]
   simp(disch:=omega) only[iq,dF,cond_false]
theorem pr0 {a i j:Nat}{d:Array β}(ha:a < d.size)(hj:j < d.size)(hz:d.size≤250):GO ((a:Int),(i:Int),(j:Int),MA v d)=some ((a:Int),((Sort.scanUp (fun x=>lt C x d[a]!) d j i:Nat):Int),(j:Int),MA v d):=by
 refine aH (fun s r n=>∃ i:Nat,s=((a:Int),(i:Int),(j:Int),MA v d)∧r=((a:Int),((Sort.scanUp (fun x=>lt C x d[a]!) d j i:Nat):Int),(j:Int),MA v d)∧n=j+1-i) ⟨i,rfl,rfl,rfl⟩ (by omega) ?_;rintro s r n ⟨i,rfl,rfl,rfl⟩;simp only[u4,NY,GN];by_cases e:i≤j
 ·simp(disch:=omega) only[iq,dT,cond_true,aD,al,aF,aP,hC,bind_some']
  cases hl:lt C d[i]! d[a]!
  ·left;rw[show Sort.scanUp (fun x=>lt C x d[a]!) d j i=i by rw[Sort.scanUp,if_neg (by simp[hl])]];simp only[cond_false]
  ·right;rw[show Sort.scanUp (fun x=>lt C x d[a]!) d j i=Sort.scanUp (fun x=>lt C x d[a]!) d j (i+1)by rw[Sort.scanUp,if_pos (by simp[e,hl])]]
   simp(disch:=omega) only[cond_true,a1,aF,al]
   exact⟨_,j+1-(i+1),rfl,⟨i+1,rfl,rfl,rfl⟩,by omega⟩
 ·left;rw[show Sort.scanUp (fun x=>lt C x d[a]!) d j i=i by rw[Sort.scanUp,if_neg (by simp[e])]]
  simp(disch:=omega) only[iq,dF,cond_false]
theorem pr1 {a i j:Nat}{d:Array β}(ha:a < d.size)(hi:1≤i)(hj:j < d.size)(hz:d.size≤250):GQ ((a:Int),(i:Int),(j:Int),MA v d)=some ((a:Int),(i:Int),((Sort.scanDown (fun x=>!lt C x d[a]!) d i j:Nat):Int),MA v d):=by
 refine aH (fun s r n=>∃ j:Nat,j < d.size∧s=((a:Int),(i:Int),(j:Int),MA v d)∧r=((a:Int),(i:Int),((Sort.scanDown (fun x=>!lt C x d[a]!) d i j:Nat):Int),MA v d)∧n=j) ⟨j,hj,rfl,rfl,rfl⟩ (by omega) ?_;rintro s r n ⟨j,q1,rfl,rfl,rfl⟩;simp only[u4,N0,GP];cases n with
 | zero=>
  left;rw[show Sort.scanDown (fun x=>!lt C x d[a]!) d i 0=0 by rw[Sort.scanDown]]
  simp(disch:=omega) only[iq,dF,cond_false]
 | succ j=>
  by_cases e:i≤j+1
  ·simp(disch:=omega) only[iq,dT,cond_true,aD,al,aF,aP,hC,bind_some']
   cases hl:lt C d[j+1]! d[a]!
   ·right;rw[show Sort.scanDown (fun x=>!lt C x d[a]!) d i (j+1)=Sort.scanDown (fun x=>!lt C x d[a]!) d i j by rw[Sort.scanDown,if_pos (by simp[e,hl])]]
    simp(disch:=omega) only[Bool.not_false,cond_true,p1,Nat.add_sub_cancel,aF,al]
    exact⟨_,j,rfl,⟨j,by omega,rfl,rfl,rfl⟩,by omega⟩
   ·left;rw[show Sort.scanDown (fun x=>!lt C x d[a]!) d i (j+1)=j+1 by rw[Sort.scanDown,if_neg (by simp[hl])]];simp only[Bool.not_true,cond_false]
  ·left;rw[show Sort.scanDown (fun x=>!lt C x d[a]!) d i (j+1)=j+1 by rw[Sort.scanDown,if_neg (by simp[e])]]
   simp(disch:=omega) only[iq,dF,cond_false]
theorem pr3 {a i j:Nat}{d:Array β}(ha:a < d.size)(hj:j < d.size)(hz:d.size≤250):GS ((a:Int),(i:Int),(j:Int),MA v d)=some ((a:Int),((Sort.scanUp (fun x=>lt C x d[a]!) d j i:Nat):Int),(j:Int),MA v d):=by
 refine aH (fun s r n=>∃ i:Nat,s=((a:Int),(i:Int),(j:Int),MA v d)∧r=((a:Int),((Sort.scanUp (fun x=>lt C x d[a]!) d j i:Nat):Int),(j:Int),MA v d)∧n=j+1-i) ⟨i,rfl,rfl,rfl⟩ (by omega) ?_;rintro s r n ⟨i,rfl,rfl,rfl⟩;simp only[u4,N2,GR];by_cases e:i≤j
 ·simp(disch:=omega) only[iq,dT,cond_true,aD,al,aF,aP,hC,bind_some']
  cases hl:lt C d[i]! d[a]!
  ·left;rw[show Sort.scanUp (fun x=>lt C x d[a]!) d j i=i by rw[Sort.scanUp,if_neg (by simp[hl])]];simp only[cond_false]
  ·right;rw[show Sort.scanUp (fun x=>lt C x d[a]!) d j i=Sort.scanUp (fun x=>lt C x d[a]!) d j (i+1)by rw[Sort.scanUp,if_pos (by simp[e,hl])]]
   simp(disch:=omega) only[cond_true,a1,aF,al]
   exact⟨_,j+1-(i+1),rfl,⟨i+1,rfl,rfl,rfl⟩,by omega⟩
 ·left;rw[show Sort.scanUp (fun x=>lt C x d[a]!) d j i=i by rw[Sort.scanUp,if_neg (by simp[e])]]
  simp(disch:=omega) only[iq,dF,cond_false]
theorem pr4 {a i j:Nat}{d:Array β}(ha:a < d.size)(hi:1≤i)(hj:j < d.size)(hz:d.size≤250):GU ((a:Int),(i:Int),(j:Int),MA v d)=some ((a:Int),(i:Int),((Sort.scanDown (fun x=>!lt C x d[a]!) d i j:Nat):Int),MA v d):=by
 refine aH (fun s r n=>∃ j:Nat,j < d.size∧s=((a:Int),(i:Int),(j:Int),MA v d)∧r=((a:Int),(i:Int),((Sort.scanDown (fun x=>!lt C x d[a]!) d i j:Nat):Int),MA v d)∧n=j) ⟨j,hj,rfl,rfl,rfl⟩ (by omega) ?_;rintro s r n ⟨j,q1,rfl,rfl,rfl⟩;simp only[u4,N4,GT];cases n with
 | zero=>
  left;rw[show Sort.scanDown (fun x=>!lt C x d[a]!) d i 0=0 by rw[Sort.scanDown]]
  simp(disch:=omega) only[iq,dF,cond_false]
 | succ j=>
  by_cases e:i≤j+1
  ·simp(disch:=omega) only[iq,dT,cond_true,aD,al,aF,aP,hC,bind_some']
   cases hl:lt C d[j+1]! d[a]!
   ·right;rw[show Sort.scanDown (fun x=>!lt C x d[a]!) d i (j+1)=Sort.scanDown (fun x=>!lt C x d[a]!) d i j by rw[Sort.scanDown,if_pos (by simp[e,hl])]]
    simp(disch:=omega) only[Bool.not_false,cond_true,p1,Nat.add_sub_cancel,aF,al]
    exact⟨_,j,rfl,⟨j,by omega,rfl,rfl,rfl⟩,by omega⟩
   ·left;rw[show Sort.scanDown (fun x=>!lt C x d[a]!) d i (j+1)=j+1 by rw[Sort.scanDown,if_neg (by simp[hl])]];simp only[Bool.not_true,cond_false]
  ·left;rw[show Sort.scanDown (fun x=>!lt C x d[a]!) d i (j+1)=j+1 by rw[Sort.scanDown,if_neg (by simp[e])]]
   simp(disch:=omega) only[iq,dF,cond_false]
theorem peq {a b p:Nat}{d:Array β}(ha:a < d.size)(hp:p < d.size)(hb:b≤d.size)(hb1:1≤b)(hz:d.size≤250):rW ((a:Int),(b:Int),(p:Int),MA v d)=some (((Sort.partitionEqual (lt C) d a b p).1:Int),MA v (Sort.partitionEqual (lt C) d a b p).2):=by
 have key:∀ {i j:Nat} {d:Array β},a < d.size→1≤i→j < d.size→d.size≤250→GM ((a:Int),(i:Int),(j:Int),MA v d)=some (((Sort.partEqLoop (lt C) a i j d).1:Int),MA v (Sort.partEqLoop (lt C) a i j d).2):=by
  intro i j d ha hi hj hz;refine aH (fun s r n=>∃ (i j:Nat) (d:Array β),a < d.size∧1≤i∧j < d.size∧d.size≤250∧s=((a:Int),(i:Int),(j:Int),MA v d)∧r=(((Sort.partEqLoop (lt C) a i j d).1:Int),MA v (Sort.partEqLoop (lt C) a i j d).2)∧n=j+1-i) ⟨i,j,d,ha,hi,hj,hz,rfl,rfl,rfl⟩ (by omega) ?_;rintro s r n ⟨i,j,d,q1,q2,q3,q4,rfl,rfl,rfl⟩;have u1:=Sort.scanUp_ge (fun x=>!lt C d[a]! x) d j i;have u2:=Sort.scanDown_le (fun x=>lt C d[a]! x) d (Sort.scanUp (fun x=>!lt C d[a]! x) d j i) j;rw[Sort.partEqLoop_eq]
  simp(disch:=omega) only[u4,NP,GL,pe1 hC,pe2 hC,bind_some']
  generalize Sort.scanUp (fun x=>!lt C d[a]! x) d j i=i2 at *;generalize Sort.scanDown (fun x=>lt C d[a]! x) d i2 j=j2 at *;by_cases e:j2 < i2
  ·left; simp(disch:=omega) only[i5,dT,cond_true,if_pos (show i2 > j2 from e)]
  ·right
   simp(disch:=omega) only[i5,dF,cond_false,if_neg (show ¬ i2 > j2 from e),aD,al,aP,Int.toNat_natCast,bu,aT,bv,a1,aF,p1]
   exact⟨_,j2-1+1-(i2+1),rfl,⟨i2+1,j2-1,Sort.swp d i2 j2,by rwa [am],by omega,by rw[am]; omega,by rwa [am],rfl,rfl,rfl⟩,by omega⟩
 have k:=key (i:=a+1) (j:=b-1) (d:=Sort.swp d a p) (by rwa [am]) (by omega) (by rw[am]; omega) (by rwa [am])
 simp(disch:=omega) only[u4,rW,p92,q92,aD,al,aP,Int.toNat_natCast,bu,aT,bv,a1,aF,p1,k,bind_some',Sort.partitionEqual]
omit hC
theorem Il (a:Nat):∀ (n i j:Nat) (d:Array β),j+1-i≤n→(Sort.partLoop (lt C) a i j d).1≤j∧(Sort.partLoop (lt C) a i j d).2.size=d.size:=by
 intro n
 induction n with
 | zero=>
  intro i j d h;have u1:=Sort.scanUp_ge (fun x=>lt C x d[a]!) d j i;have u2:=Sort.scanDown_le (fun x=>!lt C x d[a]!) d (Sort.scanUp (fun x=>lt C x d[a]!) d j i) j;rw[Sort.partLoop_eq,if_pos (by omega)];exact⟨u2,rfl⟩
 | succ n ih=>
  intro i j d h;have u1:=Sort.scanUp_ge (fun x=>lt C x d[a]!) d j i;have u2:=Sort.scanDown_le (fun x=>!lt C x d[a]!) d (Sort.scanUp (fun x=>lt C x d[a]!) d j i) j;rw[Sort.partLoop_eq];split
  ·exact⟨u2,rfl⟩
  ·have:=ih (Sort.scanUp (fun x=>lt C x d[a]!) d j i+1) (Sort.scanDown (fun x=>!lt C x d[a]!) d (Sort.scanUp (fun x=>lt C x d[a]!) d j i) j-1) (Sort.swp d (Sort.scanUp (fun x=>lt C x d[a]!) d j i) (Sort.scanDown (fun x=>!lt C x d[a]!) d (Sort.scanUp (fun x=>lt C x d[a]!) d j i) j)) (by omega);exact⟨by omega,by rw[this.2,am]⟩
include hC
theorem prt {a b p:Nat}{d:Array β}(ha:a < d.size)(hp:p < d.size)(hb:b≤d.size)(hb1:1≤b)(hz:d.size≤250):qJ ((a:Int),(b:Int),(p:Int),MA v d)=some (((Sort.partition (lt C) d a b p).1:Int),(Sort.partition (lt C) d a b p).2.1,MA v (Sort.partition (lt C) d a b p).2.2):=by
 have key:∀ {i j:Nat} {d:Array β},a < d.size→1≤i→j < d.size→d.size≤250→GW ((a:Int),(i:Int),(j:Int),MA v d)=some ((a:Int),((Sort.partLoop (lt C) a i j d).1:Int),MA v (Sort.partLoop (lt C) a i j d).2):=by
  intro i j d ha hi hj hz;refine aH (fun s r n=>∃ (i j:Nat) (d:Array β),a < d.size∧1≤i∧j < d.size∧d.size≤250∧s=((a:Int),(i:Int),(j:Int),MA v d)∧r=((a:Int),((Sort.partLoop (lt C) a i j d).1:Int),MA v (Sort.partLoop (lt C) a i j d).2)∧n=j+1-i) ⟨i,j,d,ha,hi,hj,hz,rfl,rfl,rfl⟩ (by omega) ?_;rintro s r n ⟨i,j,d,q1,q2,q3,q4,rfl,rfl,rfl⟩;have u1:=Sort.scanUp_ge (fun x=>lt C x d[a]!) d j i;have u2:=Sort.scanDown_le (fun x=>!lt C x d[a]!) d (Sort.scanUp (fun x=>lt C x d[a]!) d j i) j;rw[Sort.partLoop_eq]
  simp(disch:=omega) only[u4,N6,GV,pr3 hC,pr4 hC,bind_some']
  generalize Sort.scanUp (fun x=>lt C x d[a]!) d j i=i2 at *;generalize Sort.scanDown (fun x=>!lt C x d[a]!) d i2 j=j2 at *;by_cases e:j2 < i2
  ·left; simp(disch:=omega) only[i5,dT,cond_true,if_pos (show i2 > j2 from e)]
  ·right
   simp(disch:=omega) only[i5,dF,cond_false,if_neg (show ¬ i2 > j2 from e),aD,al,aP,Int.toNat_natCast,bu,aT,bv,a1,aF,p1]
   exact⟨_,j2-1+1-(i2+1),rfl,⟨i2+1,j2-1,Sort.swp d i2 j2,by rwa [am],by omega,by rw[am]; omega,by rwa [am],rfl,rfl,rfl⟩,by omega⟩
 unfold Sort.partition;simp only[];have z1:(Sort.swp d a p).size=d.size:=am _ _ _;generalize hd:Sort.swp d a p=d1 at *;have u1:=Sort.scanUp_ge (fun x=>lt C x d1[a]!) d1 (b-1) (a+1);have u2:=Sort.scanDown_le (fun x=>!lt C x d1[a]!) d1 (Sort.scanUp (fun x=>lt C x d1[a]!) d1 (b-1) (a+1)) (b-1)
 simp(disch:=omega) only[u4,qJ,p93,q93,aD,al,aP,Int.toNat_natCast,bu,aT,bv,hd,a1,aF,p1,pr0 hC,pr1 hC,bind_some']
 generalize Sort.scanUp (fun x=>lt C x d1[a]!) d1 (b-1) (a+1)=i2 at *;generalize Sort.scanDown (fun x=>!lt C x d1[a]!) d1 i2 (b-1)=j2 at *;by_cases e:j2 < i2
 ·simp(disch:=omega) only[i5,dT,cond_true,if_pos (show i2 > j2 from e),aD,al,aP,Int.toNat_natCast,bu,aT,bv]
 ·have z2:(Sort.swp d1 i2 j2).size=d1.size:=am _ _ _;have k:=key (i:=i2+1) (j:=j2-1) (d:=Sort.swp d1 i2 j2) (by omega) (by omega) (by omega) (by omega);have hl:=Il (C:=C) a _ (i2+1) (j2-1) (Sort.swp d1 i2 j2) (Nat.le_refl _)
  simp(disch:=omega) only[i5,dF,cond_false,if_neg (show ¬ i2 > j2 from e),aD,al,aP,Int.toNat_natCast,bu,aT,bv,a1,aF,p1,k,bind_some']
theorem Vh (hS:Sort.SWO (lt C)):∀ (n f m a b limit:Nat) (wb wp:Bool) (d:Array β),n < f→n < m→n≤1000→b-a≤n→a≤b→b≤d.size→d.size≤250→limit≤250→Sort.Below (lt C) a b d →
  goF (fun x=>pV (un f) x.1 x.2.1 x.2.2.1 x.2.2.2.1 x.2.2.2.2.1 x.2.2.2.2.2) m ((a:Int),(b:Int),(limit:Int),wb,wp,MA v d)=some (MA v (Sort.pdq (lt C) d a b limit wb wp)):=by
 have small:∀ (f m a b limit:Nat) (wb wp:Bool) (d:Array β),0 < m→b-a≤12→a≤b→b≤d.size→d.size≤250→goF (fun x=>pV (un f) x.1 x.2.1 x.2.2.1 x.2.2.2.1 x.2.2.2.2.1 x.2.2.2.2.2) m ((a:Int),(b:Int),(limit:Int),wb,wp,MA v d)=some (MA v (Sort.pdq (lt C) d a b limit wb wp)):=by
  intro f m a b limit wb wp d hm h12 hab hb hz;obtain⟨m,rfl⟩:∃ m',m=m'+1:=⟨m-1,by omega⟩;have g:decide (((b-a:Nat):Int)≤12)=true:=by simp; omega
  rw[Sort.pdq,if_pos h12]
  simp(disch:=omega) only[u6,goF,pV,vU,pn,aF,al,g,cond_true,ins hC,bind_some']
 intro n
 induction n with
 | zero=>intro f m a b limit wb wp d h1 h2 hn h3 hab hb hz hl hB; exact small f m a b limit wb wp d h2 (by omega) hab hb hz
 | succ n ih=>
  intro f m a b limit wb wp d h1 h2 hn h3 hab hb hz hl hB;by_cases h12:b-a≤12
  ·exact small f m a b limit wb wp d (by omega) h12 hab hb hz
  obtain⟨m,rfl⟩:∃ m',m=m'+1:=⟨m-1,by omega⟩;obtain⟨f,rfl⟩:∃ f',f=f'+1:=⟨f-1,by omega⟩;have g12:decide (((b-a:Nat):Int)≤12)=false:=by simp; omega
  rw[Sort.pdq,if_neg h12];by_cases h0:limit=0
  ·subst h0;have g0:decide (((0:Nat):Int)=0)=true:=rfl
   simp(disch:=omega) only[u6,goF,pV,vU,pn,aF,al,g12,cond_false,g0,cond_true,heap hC,bind_some',if_true]
  have g0:decide ((limit:Int)=0)=false:=by simp; omega
  rw[if_neg h0];simp only[];have e1:vT (un (f+1)) ((a:Int),(b:Int),(limit:Int),wb,wp,((b-a:Nat):Int),MA v d)=some ((a:Int),(b:Int),((if(!wb)=true then limit-1 else limit:Nat):Int),wb,wp,((b-a:Nat):Int),MA v (if(!wb)=true then Sort.breakPatterns d a b else d)):=by
   cases wb
   ·simp(disch:=omega) only[vT,GX,AE,Bool.not_false,cond_true,brk,bind_some',p1,aF,al,if_true]
   ·simp only[vT,GX,AE,Bool.not_true,cond_false,Bool.false_eq_true,if_false]
  have s1:Sort.PermIn a b d (if(!wb)=true then Sort.breakPatterns d a b else d):=by
   split
   ·exact Sort.breakPatterns_holds d a b hab hb
   ·exact Sort.permIn_refl _ _ _
  have hl1:(if(!wb)=true then limit-1 else limit)≤250:=by split <;> omega
  generalize (if(!wb)=true then Sort.breakPatterns d a b else d)=d1 at *;generalize (if(!wb)=true then limit-1 else limit)=l1 at *;have z1:d1.size=d.size:=s1.1;have e2:=chp hC (d:=d1) (a:=a) (b:=b) (by omega) (by omega) (by omega);have hc0:=Sort.choosePivot_holds (lt C) d1 a b (by omega);generalize Sort.choosePivot (lt C) d1 a b=c at *;have e3:AF (un (f+1)) ((a:Int),(b:Int),(l1:Int),wb,wp,((b-a:Nat):Int),(c.1:Int),hN c.2,MA v d1)=some ((a:Int),(b:Int),(l1:Int),wb,wp,((b-a:Nat):Int),((if c.2 = .decreasing then(b-1)-(c.1-a)else c.1:Nat):Int),hN (if c.2 = .decreasing then Sort.Hint.increasing else c.2),MA v (if c.2 = .decreasing then Sort.reverseRange d1 a b else d1)):=by
   obtain⟨c1,c2⟩:=c;simp only at hc0;cases c2
   ·rfl
   ·rfl
   ·have g:decide (hN Sort.Hint.decreasing=2)=true:=rfl
    simp(disch:=omega) only[AF,Od,GY,g,cond_true,rev,bind_some',p1,aF,al,pn,if_true]
    rfl
  have s2:Sort.PermIn a b d1 (if c.2 = .decreasing then Sort.reverseRange d1 a b else d1):=by
   split
   ·exact Sort.reverseRange_holds d1 a b hab (by omega)
   ·exact Sort.permIn_refl _ _ _
  have hpv:a≤(if c.2 = .decreasing then(b-1)-(c.1-a)else c.1)∧(if c.2 = .decreasing then(b-1)-(c.1-a)else c.1) < b:=by split <;> omega
  generalize (if c.2 = .decreasing then Sort.reverseRange d1 a b else d1)=d2 at *;generalize (if c.2 = .decreasing then(b-1)-(c.1-a)else c.1)=pv at *;generalize (if c.2 = .decreasing then Sort.Hint.increasing else c.2)=hint at *;have z2:d2.size=d1.size:=s2.1;have B2:Sort.Below (lt C) a b d2:=(hB.perm hb s1).perm (by omega) s2;have s3:Sort.PermIn a b d2 (if(wb&&wp&&decide (hint = .increasing))=true then Sort.partialInsertionSort (lt C) d2 a b else(d2,false)).1:=by
   split
   ·exact(Sort.partialInsertionSort_holds hS d2 a b (by omega) (by omega) B2).1
   ·exact Sort.permIn_refl _ _ _
  have e4:AG (un (f+1)) ((a:Int),(b:Int),(l1:Int),wb,wp,((b-a:Nat):Int),(pv:Int),hN hint,MA v d2)=some (cond (if(wb&&wp&&decide (hint = .increasing))=true then Sort.partialInsertionSort (lt C) d2 a b else(d2,false)).2
    (.inl (MA v (if(wb&&wp&&decide (hint = .increasing))=true then Sort.partialInsertionSort (lt C) d2 a b else(d2,false)).1))
    (.inr ((a:Int),(b:Int),(l1:Int),wb,wp,((b-a:Nat):Int),(pv:Int),MA v (if(wb&&wp&&decide (hint = .increasing))=true then Sort.partialInsertionSort (lt C) d2 a b else(d2,false)).1))):=by
   have hpis:=pis hC (d:=d2) (a:=a) (b:=b) (by omega) (by omega) (by omega);cases wb
   ·rfl
   ·cases wp
    ·rfl
    ·cases hint
     ·rfl
     ·have g:decide (hN Sort.Hint.increasing=1)=true:=rfl;simp only[AG,Oe,GZ,g,cond_true,hpis,bind_some',Bool.true_and,decide_true,if_true];cases(Sort.partialInsertionSort (lt C) d2 a b).2 <;> rfl
     ·rfl
  generalize (if(wb&&wp&&decide (hint = .increasing))=true then Sort.partialInsertionSort (lt C) d2 a b else(d2,false))=pi at *;obtain⟨d3,fl⟩:=pi;simp only at s3 e4 ⊢;have z3:d3.size=d2.size:=s3.1;have B3:Sort.Below (lt C) a b d3:=B2.perm (by omega) s3;rw[goF];generalize hG:goF (fun x=>pV (un (f+1)) x.1 x.2.1 x.2.2.1 x.2.2.2.1 x.2.2.2.2.1 x.2.2.2.2.2) m=G
  simp(disch:=omega) only[u6,pV,vU,pn,aF,al,g12,cond_false,g0,e1,bind_some',e2,e3,e4]
  clear e1 e2 e3 e4
  cases fl
  ·simp only[cond_false,Sum.elim_inr,Bool.false_eq_true,if_false];have call:∀ (x y:Nat) (dd:Array β),x≤y→y-x≤n→y≤dd.size→dd.size≤250→Sort.Below (lt C) x y dd→un (f+1) ((x:Int),(y:Int),(l1:Int),MA v dd)=some (MA v (Sort.pdq (lt C) dd x y l1 true true)):=fun x y dd k1 k2 k3 k4 k5=>by
    have:=ih f 18446744073709551616 x y l1 true true dd (by omega) (by omega) (by omega) k2 k1 k3 k4 hl1 k5;have this':AH (un f) ((x:Int),(y:Int),(l1:Int),true,true,MA v dd)=some (MA v (Sort.pdq (lt C) dd x y l1 true true)):=this;show VR (un f) _ _ _ _=_;simp only[VR,q66,this',bind_some']
   have part:∀ (mid:Nat) (ap:Bool) (d4:Array β),Sort.partition (lt C) d3 a b pv=(mid,ap,d4) →
     ∃ s',(((qJ ((a:Int),(b:Int),(pv:Int),MA v d3)).bind fun r17=>ah (af .i64 (r17.1-(a:Int))) (ah (af .i64 ((b:Int)-r17.1)) (ah (af .i64 (Int.tdiv ((b-a:Nat):Int) 8)) (cond (decide ((r17.1-(a:Int)) < ((b:Int)-r17.1)))
      ((un (f+1) ((a:Int),r17.1,(l1:Int),r17.2.2)).bind fun r18=>ah (af .i64 (r17.1+1)) (some (Sum.inl ((r17.1+1),(b:Int),(l1:Int),decide (Int.tdiv ((b-a:Nat):Int) 8≤(r17.1-(a:Int))),r17.2.1,r18))))
      (ah (af .i64 (r17.1+1)) ((un (f+1) ((r17.1+1),(b:Int),(l1:Int),r17.2.2)).bind fun r19=>some (Sum.inl ((a:Int),r17.1,(l1:Int),decide (Int.tdiv ((b-a:Nat):Int) 8≤((b:Int)-r17.1)),r17.2.1,r19))))))):Option ((Int×Int×Int×Bool×Bool×List E)⊕List E)))=some (Sum.inl s')∧G s'=some (MA v (if h:a≤mid∧mid < b then
       if mid-a < b-mid then Sort.pdq (lt C) (Sort.pdq (lt C) d4 a mid l1 true true) (mid+1) b l1 (decide (mid-a≥(b-a) / 8)) ap
       else Sort.pdq (lt C) (Sort.pdq (lt C) d4 (mid+1) b l1 true true) a mid l1 (decide (b-mid≥(b-a) / 8)) ap else d4)):=fun mid ap d4 hx=>by
    have hr:=prt hC (d:=d3) (a:=a) (b:=b) (p:=pv) (by omega) (by omega) (by omega) (by omega) (by omega);obtain⟨g1,g2,hs4,hBa,hBr,hleft,hright⟩:=Sort.round_part hS (Sort.partition_holds _) hpv.1 hpv.2 (by omega) B3 hx;rw[hx]at hr;simp only at hr;have q8:Int.tdiv ((b-a:Nat):Int) 8=(((b-a) / 8:Nat):Int):=C0 _;rw[dif_pos ⟨g1,g2⟩]
    simp(disch:=omega) only[hr,bind_some',pn,aF,al,q8,i5,iq,a1]
    by_cases hlt:mid-a < b-mid
    ·have k:=call a mid d4 g1 (by omega) (by omega) (by omega) hBa;obtain⟨l1',l2'⟩:=Sort.pdq_sorts (lt C) hS d4 a mid l1 true true g1 (by omega) hBa;have hB':=(hleft _ l1' l2').1
     simp(disch:=omega) only[dT,cond_true,k,bind_some',if_pos hlt]
     refine⟨_,rfl,?_⟩;rw[← hG];exact ih (f+1) m (mid+1) b l1 _ ap _ (by omega) (by omega) (by omega) (by omega) (by omega) (by rw[l1'.1]; omega) (by rw[l1'.1]; omega) hl1 hB'
    ·have k:=call (mid+1) b d4 (by omega) (by omega) (by omega) (by omega) hBr;obtain⟨l1',l2'⟩:=Sort.pdq_sorts (lt C) hS d4 (mid+1) b l1 true true (by omega) (by omega) hBr;have hB':=(hright _ l1' l2').1
     simp(disch:=omega) only[dF,cond_false,k,bind_some',if_neg hlt]
     refine⟨_,rfl,?_⟩;rw[← hG];exact ih (f+1) m a mid l1 _ ap _ (by omega) (by omega) (by omega) (by omega) (by omega) (by rw[l1'.1]; omega) (by rw[l1'.1]; omega) hl1 hB'
   by_cases ha0:0 < a
   ·have ga:decide ((0:Int) < (a:Int))=true:=by simp; omega
    simp(disch:=omega) only[ga,cond_true,p1,aF,al,aD,aP,hC,bind_some']
    cases hq:lt C d3[a-1]! d3[pv]!
    ·simp only[Bool.not_false,cond_true,Bool.and_true,decide_eq_true_eq,if_pos (show a > 0 from ha0)];have hr:=peq hC (d:=d3) (a:=a) (b:=b) (p:=pv) (by omega) (by omega) (by omega) (by omega) (by omega);rcases hx:Sort.partitionEqual (lt C) d3 a b pv with⟨mid,d4⟩
     obtain⟨g1,g2,hs4,hB4,hfin⟩:=Sort.round_eq hS (Sort.partitionEqual_holds _) ha0 hpv.1 hpv.2 (by omega) B3 hq hx;rw[hx]at hr;simp only at hr;simp only[hr,bind_some',dif_pos (And.intro g1 g2)];rw[← hG];exact ih (f+1) m mid b l1 wb wp d4 (by omega) (by omega) (by omega) (by omega) g2 (by omega) (by omega) hl1 hB4
    ·simp only[Bool.not_true,cond_false,Bool.and_false,Bool.false_eq_true,if_false];rcases hx:Sort.partition (lt C) d3 a b pv with⟨mid,ap,d4⟩
     obtain⟨s',k1,k2⟩:=part mid ap d4 hx;rw[k1];exact k2
   ·have ga:decide ((0:Int) < (a:Int))=false:=by simp; omega
    have gn:decide (a > 0)=false:=by simp; omega
    simp only[ga,cond_false,gn,Bool.false_and,Bool.false_eq_true,if_false];rcases hx:Sort.partition (lt C) d3 a b pv with⟨mid,ap,d4⟩
    obtain⟨s',k1,k2⟩:=part mid ap d4 hx;rw[k1];exact k2
  ·simp only[cond_true,Sum.elim_inl,if_true]
theorem top (hS:Sort.SWO (lt C)){d:Array β}(hz:d.size≤250):G0 (MA v d)=some (MA v (Sort.sort (lt C) d)):=by
 have hl:Sort.bitsLen d.size≤8:=(Sort.bitsLen_le_iff d.size 8).2 (by omega);have fu:af .u64 (d.size:Int)=true:=nH (by omega) (by omega);have k:=Vh hC hS 1000 18446744073709551615 18446744073709551616 0 d.size (Sort.bitsLen d.size) true true d (by omega) (by omega) (by omega) (by omega) (by omega) (Nat.le_refl _) hz (by omega) (.inl rfl);have k':AH (un 18446744073709551615) (0,(d.size:Int),((Sort.bitsLen d.size:Nat):Int),true,true,MA v d)=some (MA v (Sort.sort (lt C) d)):=k;have e:P66 (0,(d.size:Int),((Sort.bitsLen d.size:Nat):Int),MA v d)=some (MA v (Sort.sort (lt C) d)):=by
  show VR (un 18446744073709551615) _ _ _ _=_;simp only[VR,q66,k',bind_some']
 simp(disch:=omega) only[G0,p44,q44,pQ,fu,al,Ik,bind_some',e]
end
theorem srt (K:E→Int)(gd:E→Prop)(x0:E)(h0:gd x0)(hK:∀ x y,gd x→gd y→∃ c:Bool,P91 (x,y)=some c∧(c=true↔K x < K y)){l:List E}(hl:∀ x∈l,gd x)(hz:l.length≤250):
  ∃ l',G0 l=some l'∧l'.Perm l∧Sd K l' 0 l'.length:=by
 letI:Inhabited {x:E // gd x}:=⟨⟨x0,h0⟩⟩
 let C:{x:E // gd x}→{x:E // gd x}→Bool:=fun x y=>Classical.choose (hK x.1 y.1 x.2 y.2)
 have hC:∀ x y:{x:E // gd x},P91 (x.1,y.1)=some (lt C x y):=fun x y=>(Classical.choose_spec (hK x.1 y.1 x.2 y.2)).1;have hlt:∀ x y:{x:E // gd x},lt C x y=true↔K x.1 < K y.1:=fun x y=>(Classical.choose_spec (hK x.1 y.1 x.2 y.2)).2;have hlf:∀ x y:{x:E // gd x},lt C x y=false↔K y.1≤K x.1:=fun x y=>by rw[← Bool.not_eq_true,hlt]; omega
 have hS:Sort.SWO (lt C):=⟨fun x=>(hlf x x).2 (Int.le_refl _),fun x y z h1 h2=>(hlt _ _).2 (Int.lt_trans ((hlt _ _).1 h1) ((hlt _ _).1 h2)),fun x y z h1 h2=>(hlf _ _).2 (Int.le_trans ((hlf _ _).1 h2) ((hlf _ _).1 h1))⟩
 let d:Array {x:E // gd x}:=(l.attach.map fun x=>⟨x.1,hl x.1 x.2⟩).toArray
 have hd:MA (fun x:{x:E // gd x}=>x.1) d=l:=by
  simp only[MA,d,List.map_map];exact List.attach_map_subtype_val l
 have hds:d.size=l.length:=by simp[d]
 obtain⟨s1,s2⟩:=Sort.sort_sorts (lt C) hS d;have ht:=top (v:=fun x:{x:E // gd x}=>x.1) hC hS (d:=d) (by omega);rw[hd]at ht;refine⟨_,ht,?_,fun i j q1 q2 q3=>?_⟩
 ·have hp:=s1.2.2;have e1:∀ r:Array {x:E // gd x},r.size=d.size→r.extract 0 d.size=r:=fun r hr=>by rw[← hr]; simp
  rw[e1 _ s1.1,show d.extract 0 d.size=d by simp]at hp;have:=hp.map (fun x:{x:E // gd x}=>x.1);rw[← hd];exact this
 ·rw[pQ]at q3;have e:∀ k,k < (Sort.sort (lt C) d).size→gt (MA (fun x:{x:E // gd x}=>x.1) (Sort.sort (lt C) d)) k=((Sort.sort (lt C) d)[k]!).1:=fun k hk=>by rw[← bI,aP hk]
  rw[e i (by omega),e j q3];exact(hlf _ _).1 (s2 i j q1 q2 (by have:=s1.1; omega))
end Pdq44
theorem UL (a b:List Int)(ha:a.length≤1000000):P20 (a,b)=some (decide (a=b)):=by
 show q20 AM a b=_;unfold q20;by_cases hn:a.length=b.length
 ·rw[show decide ((↑(List.length a):Int)=(↑(List.length b):Int))=true from decide_eq_true (by omega),Bool.not_true,cond_false];have e:AM (a,b,0)=some (cond (fp a.length (fun k=>decide (gt a k=gt b k))) (Sum.inr ()) (Sum.inl false)):=by
   refine kd (step:=fun x=>Oo x.1 x.2.1 x.2.2) a.length (fun k=>(a,b,(k:Int))) (fun k=>decide (gt a k=gt b k)) _ _ (fun k hk=>?_) ?_ (by omega)
   ·show rY a b (k:Int)=_;unfold rY;rw[show decide ((k:Int) < (↑(List.length a):Int))=true from aN hk,cond_true,aj (aC hk),aj (aC (by omega)),bI,bI];cases decide (gt a k=gt b k)with
    | false=>rfl
    | true=>rw[Bool.not_true,cond_false,aj (aE (by omega))]; rfl
   ·show rY a b (a.length:Int)=_;unfold rY;rw[show decide ((a.length:Int) < (↑(List.length a):Int))=false from aV _,cond_false]
  rw[e];have q:fp a.length (fun k=>decide (gt a k=gt b k))=decide (a=b):=by
   rw[Bool.eq_iff_iff,dB,decide_eq_true_eq];constructor
   ·intro h; exact mX hn fun i hi=>of_decide_eq_true (h i hi)
   ·rintro rfl k hk; exact decide_eq_true rfl
  rw[q];cases decide (a=b) <;> rfl
 ·rw[show decide ((↑(List.length a):Int)=(↑(List.length b):Int))=false from decide_eq_false (by omega),Bool.not_false,cond_true,decide_eq_false fun e=>hn (by rw[e])]
def Wd (v:List Int):List Int:=((List.range 100).map fun n:Nat=>(n:Int)).filter fun n=>decide (n∈v)
theorem Lt {v:List Int}{n:Int}(hv:∀ x∈v,0≤x∧x≤99):n∈Wd v↔n∈v:=by
 unfold Wd;rw[List.mem_filter,decide_eq_true_eq,List.mem_map];constructor
 ·exact fun h=>h.2
 ·intro h;have:=hv n h;exact⟨⟨n.toNat,List.mem_range.2 (by omega),by omega⟩,h⟩
theorem asc_vnO (v:List Int):(Wd v).Pairwise (fun a b=>(fun n:Int=>n) a < (fun n:Int=>n) b):=by
 unfold Wd;refine List.Pairwise.filter _ ?_;rw[List.pairwise_map];exact List.pairwise_lt_range.imp fun h=>Int.ofNat_lt.2 h
theorem UM (x y:Int):P91 (x,y)=some (decide (x < y)):=by
 show q91 vR x y=_;unfold q91;rw[show vR x=some (!decide (x=x))from rfl,bind_some',qB];rfl
theorem sortV {v:List Int}(hv:∀ x∈v,0≤x∧x≤99)(hl:v.length≤250):∃ s,G0 v=some s∧C4 s=some (Wd v):=by
 obtain⟨s,e1,e2,e3⟩:=Pdq44.srt (fun n=>n) (fun _=>True) 0 trivial (fun x y _ _=>⟨decide (x < y),UM x y,by rw[decide_eq_true_eq]⟩) (l:=v) (fun _ _=>trivial) hl;refine⟨s,e1,?_⟩;rw[Uz s (by rw[e2.length_eq]; omega)];congr 1;refine qf (fun n=>n) (ddN_asc (fun n=>n) s e3 (fun a _ b _ h=>h) s.length (Nat.le_refl _)).1 (asc_vnO v) fun x=>?_;rw[nJ,e2.mem_iff,Lt hv]
theorem CU (x:HM)(c:au):∀ n∈(eN x c).2.2,n∈x.2.2∨n=c.2.2.2.1:=by
 intro n hn;unfold eN jK wq l8 at hn;split at hn
 ·split at hn
  ·split at hn <;> exact .inl hn
  ·exact .inl hn
 ·split at hn
  ·split at hn
   ·exact .inl hn
   ·simpa using hn
  ·split at hn <;> exact .inl hn
theorem Bi (hold minute:Int):∀ (l:List au) (x:HM),(nK hold minute l x).2.2.length≤x.2.2.length+l.length∧((∀ c∈l,be c)→(∀ n∈x.2.2,0≤n∧n≤99)→∀ n∈(nK hold minute l x).2.2,0≤n∧n≤99)
 | [],x=>⟨Nat.le_refl _,fun _ h=>h⟩
 | c::l,x=>by
  unfold nK;split
  ·exact⟨by simp,fun _ h=>h⟩
  ·obtain⟨h1,h2⟩:=Bi hold minute l (eN (gl hold c.2.1 x) c);have h3:=su (gl hold c.2.1 x) c;have h4:(gl hold c.2.1 x).2.2=x.2.2:=rfl;rw[h4]at h3;refine⟨by simp only[List.length_cons]; omega,fun hc hx=>h2 (fun d hd=>hc d (by simp[hd])) fun n hn=>?_⟩;rcases CU _ _ n hn with q | q
   ·exact hx n q
   ·have:=(hc c (by simp)).2.2.2;rw[q]; exact this
theorem yL {h:List Int×Int}{l:List au}(minute:Int)(hl:b8 l):(afterM h l minute).2.2.length≤40∧∀ n∈(afterM h l minute).2.2,0≤n∧n≤99:=by
 obtain⟨e1,e2,e3,e4⟩:=jM (l:=l) (by have:=hl.1; omega) hl.2.1 hl.2.2;obtain⟨h1,h2⟩:=Bi h.2 minute (hrd l) (Ls h.1);have h3:=hl.1;have h4:(Ls h.1).2.2.length=0:=rfl;have h5:(afterM h l minute).2.2=(nK h.2 minute (hrd l) (Ls h.1)).2.2:=rfl;rw[h5];exact⟨by omega,h2 (yJ hl).1 (by simp[Ls])⟩
noncomputable def HI (h:List Int×Int)(l:List au)(minute order:Int):Ii×Int:=if ft h l minute order 1=0 then(ku ((afterM h l minute).2.1 order),0)else((0,0,0,0),ft h l minute order 1)
noncomputable def UN (h:List Int×Int)(l:List au)(minute:Int):Int×List (List Int):=if ft h l minute 0 1=0 then(0,(afterM h l minute).1)else(ft h l minute 0 1,[])
noncomputable def Bj (h:List Int×Int)(l:List au)(minute:Int):Int×List Int:=if ft h l minute 0 1=0 then(0,Wd (afterM h l minute).2.2)else(ft h l minute 0 1,[])
noncomputable def wA (h:List Int×Int)(l:List au)(minute size:Int):Int×Int×Int:=if ft h l minute 0 size=0 then(match bO (afterM h l minute).1 size.toNat with
  | some c=>((c.1:Int),(c.2:Int),0)
  | none=>(0,0,3))else(0,0,ft h l minute 0 size)
theorem im {α β:Type}(k:β→Option α)(n:Option α):Io none k n=n:=rfl
theorem io {α β:Type}(x:β)(k:β→Option α)(n:Option α):Io (some x) k n=k x:=rfl
section
variable {h:List Int×Int} {l:List au} (minute:Int) (hh:h.1.length≤1000) (hl:l.length≤1000)
include hh hl
theorem HJ (order:Int):P15 (h,l,minute,order)=some (HI h l minute order):=by
 show q15 i6 P42v1 nZ h l minute order=_;unfold q15 HI
 try unfold Hl
 try unfold Hk
 try unfold Db
 try unfold Da
 try unfold yE
 try unfold pd
 rw[np h l minute order 1 hh hl];by_cases h0:ft h l minute order 1=0
 ·obtain⟨pool,e1,e2⟩:=il h0;rw[if_pos h0,im,e1,bind_some',if_pos h0];simp only[decide_true,Bool.not_true,cond_false,qd,bind_some',tW e2];rfl
 ·rw[if_neg h0,io,if_neg h0,decide_eq_false h0];rfl
theorem UO:P17 (h,l,minute)=some (UN h l minute):=by
 show q17 i6 P42v1 h l minute=_;unfold q17 UN;rw[np h l minute 0 1 hh hl];by_cases h0:ft h l minute 0 1=0
 ·obtain⟨pool,e1,e2⟩:=il h0;rw[if_pos h0,im,e1,bind_some',if_pos h0];rfl
 ·rw[if_neg h0,io,if_neg h0,decide_eq_false h0];rfl
theorem UP:P16 (h,l,minute)=some (Bj h l minute):=by
 show q16 i6 P42v1 G0 C4 h l minute=_;unfold q16 Bj;rw[np h l minute 0 1 hh hl];by_cases h0:ft h l minute 0 1=0
 ·obtain⟨pool,e1,e2⟩:=il h0;obtain⟨v1,v2⟩:=yL (h:=h) minute (eH.1 h0).1.2;obtain⟨s,s1,s2⟩:=sortV v2 (by omega);rw[if_pos h0,im,e1,bind_some',if_pos h0];simp only[decide_true,Bool.not_true,cond_false,s1,s2,bind_some']
 ·rw[if_neg h0,io,if_neg h0,decide_eq_false h0];rfl
theorem HK (size:Int):P21 (h,l,minute,size)=some (wA h l minute size):=by
 show q21 i6 P42v1 qL h l minute size=_;unfold q21 wA;rw[np h l minute 0 size hh hl];by_cases h0:ft h l minute 0 size=0
 ·obtain⟨⟨c1,c2⟩,c3,c4,c5⟩:=eH.1 h0;obtain⟨pool,e1,e2⟩:=il h0;have hI:=IM.after (h:=h) c2 minute;have hlen:=hI.len;have hsl:=kj c1;obtain⟨sz,rfl⟩:∃ sz:Nat,size=(sz:Int):=⟨size.toNat,by omega⟩;rw[if_pos h0,im,e1,bind_some',if_pos h0];simp only[decide_true,Bool.not_true,cond_false,Int.toNat_natCast];rw[yS (fun r hr=>by have:=hI.row (gx c1) hr; omega) (by omega) (by omega),bind_some',wt];cases bO (afterM h l minute).1 sz with
  | none=>rfl
  | some c=>rfl
 ·rw[if_neg h0,io,if_neg h0,decide_eq_false h0];rfl
end
def We:List Int×Int:=([5,3],10)
def Qo:List au:=[(1,0,1,1,2),(2,1,1,2,2),(3,5,2,1,0),(4,12,1,3,3),(5,11,2,2,0)]
def exS:List au:=[(1,0,1,1,2),(2,1,1,2,2),(3,5,2,1,0),(5,11,2,2,0),(4,12,1,3,3)]
theorem UQ:cx We:=by decide +kernel
theorem yM:b8 Qo:=by decide +kernel
theorem yN:hrd Qo=exS:=(qg (by decide) yM.2.1 yM.2.2 (by decide +kernel) (fun x=>(by decide +kernel:exS.Perm Qo).mem_iff)).symm
theorem yO {m o z:Int}(h1:0≤m∧m≤9999)(h2:0≤o∧o≤99)(h3:1≤z∧z≤12):ft We Qo m o z=0:=eH.2 ⟨⟨UQ,yM⟩,h1,h2,h3⟩
theorem qi:P14 ()=some true:=by
 show q14 P41 P15 P21 P16 P20=_;unfold q14;rw[show P41 ()=some (10,[5,3],Qo)from rfl,bind_some'];simp only;rw[show(([5,3],10):List Int×Int)=We from rfl,HJ 12 (by decide) (by decide),bind_some',HK 1 (by decide) (by decide),bind_some',UP 12 (by decide) (by decide),bind_some'];have e1:HI We Qo 12 2=((4,-1,-1,2),0):=by
  unfold HI afterM;rw[if_pos (yO (by decide) (by decide) (by decide)),yN]
  decide +kernel
 have e2:wA We Qo 1 1=(0,4,0):=by
  unfold wA afterM;rw[if_pos (yO (by decide) (by decide) (by decide)),yN]
  decide +kernel
 have e3:Bj We Qo 12=(0,[2]):=by
  unfold Bj afterM;rw[if_pos (yO (by decide) (by decide) (by decide)),yN]
  decide +kernel
 rw[e1,e2,e3];simp only[UL [2] [2] (by decide)];rfl
theorem UR (h:List Int×Int)(l:List au):C2 (h,l)=some (decide (30 < h.1.length∨60 < l.length)):=by
 show cond (decide (30 < (↑(List.length h.1):Int))) (some true) (some (decide (60 < (↑(List.length l):Int))))=_;by_cases h1:30 < h.1.length
 ·rw[decide_eq_true (show 30 < (↑(List.length h.1):Int)by omega),decide_eq_true (show 30 < h.1.length∨60 < l.length from .inl h1)];rfl
 ·rw[decide_eq_false (show ¬ 30 < (↑(List.length h.1):Int)by omega),cond_false];congr 1;rw[Bool.eq_iff_iff,decide_eq_true_eq,decide_eq_true_eq];omega
abbrev TyH:Ty:=.pair (.sl (.int .i64)) (.int .i64)
abbrev TyC:Ty:=.sl (.pair (.int .i64) (.pair (.int .i64) (.pair (.int .i64) (.pair (.int .i64) (.int .i64)))))
abbrev TyX:Ty:=.pair (.int .i64) (.pair (.int .i64) (.int .i64))
def cJ:Nat→List Int→List Nat
 | n,[]=>if 0 < n then [n]else []
 | n,v::l=>if v = -1 then cJ (n+1) l else(if 0 < n then [n]else [])++cJ 0 l
def grd (z:Nat):Nat→List Int→Nat
 | 0,_=>0
 | _+1,[]=>0
 | f+1,v::l=>if ji (v::l) 0 z=true then 1+grd z f ((v::l).drop z)else grd z f l
theorem mc {l:List Int}{s z:Nat}(hz:1≤z)(h:ji l s z=true):s+z≤l.length:=by
 by_cases c:s+z≤l.length
 ·exact c
 ·have:=cN.1 h (s+z-1) (by omega) (by omega);rw[zL (by omega)]at this;cases this
theorem ip (z:Nat)(hz:1≤z):∀ (f:Nat) (l:List Int) (f':Nat),l.length≤f→l.length≤f'→grd z f l=grd z f' l
 | 0,l,f',h,_=>by
  have:l=[]:=List.length_eq_zero_iff.1 (by omega);subst this;cases f' <;> rfl
 | f+1,[],f',_,_=>by cases f' <;> rfl
 | f+1,v::l,0,_,h=>by simp at h
 | f+1,v::l,f'+1,h,h'=>by
  simp only[List.length_cons]at h h';simp only[grd];split
  ·rw[ip z hz f _ f' (by simp only[List.length_drop,List.length_cons]; omega) (by simp only[List.length_drop,List.length_cons]; omega)]
  ·rw[ip z hz f l f' (by omega) (by omega)]
theorem ua (n:Nat)(l:List Int)(i:Nat):gt (List.replicate n (-1)++l) i=if i < n then -1 else gt l (i-n):=by
 rw[hU,List.length_replicate];by_cases h:i < n
 ·rw[if_pos h,if_pos h,tY _ _ h]
 ·rw[if_neg h,if_neg h]
theorem wB (n z:Nat)(l:List Int)(h:z≤n):(List.replicate n (-1)++l).drop z=List.replicate (n-z) (-1)++l:=by
 rw[List.drop_append_of_le_length (by simpa using h),List.drop_replicate]
theorem Lu (n z:Nat)(l:List Int)(hl:gt l 0 ≠ -1):ji (List.replicate n (-1)++l) 0 z=decide (z≤n):=by
 rw[Bool.eq_iff_iff,cN,decide_eq_true_eq];constructor
 ·intro h;by_cases c:z≤n
  ·exact c
  ·have:=h n (by omega) (by omega);rw[ua,if_neg (by omega),Nat.sub_self]at this;exact absurd this hl
 ·intro h i _ hi;rw[ua,if_pos (by omega)]
theorem Bk (z:Nat)(hz:1≤z)(l:List Int)(hl:gt l 0 ≠ -1):∀ (n f:Nat),n+l.length≤f→grd z f (List.replicate n (-1)++l)=n / z+grd z f l:=by
 intro n
 induction n using Nat.strongRecOn with
 | ind n ih=>
  intro f hf;cases n with
  | zero=>simp
  | succ n=>
   cases f with
   | zero=>omega
   | succ f=>
    have e:List.replicate (n+1) (-1:Int)++l = -1::(List.replicate n (-1)++l):=rfl;have hi:=Lu (n+1) z l hl;rw[e]at hi;have hfl:grd z (f+1) l=grd z f l:=ip z hz _ _ _ (by omega) (by omega);rw[e,grd,hi];by_cases c:z≤n+1
    ·rw[if_pos (decide_eq_true c),← e,wB _ _ _ c,ih (n+1-z) (by omega) f (by omega),hfl];have:(n+1) / z=(n+1-z) / z+1:=Nat.div_eq_sub_div (by omega) c;omega
    ·rw[if_neg (by simpa using c),ih n (by omega) f (by omega),hfl,Nat.div_eq_of_lt (by omega),Nat.div_eq_of_lt (by omega)]
theorem wC (z:Nat)(hz:1≤z){v:Int}(hv:v ≠ -1)(l:List Int)(f:Nat):grd z (f+1) (v::l)=grd z f l:=by
 rw[grd,if_neg];intro h;have:=cN.1 h 0 (Nat.le_refl _) (by omega);exact hv this
theorem Lv:gt ([]:List Int) 0 ≠ -1:=by decide
theorem md (z:Nat)(hz:1≤z):∀ (l:List Int) (n f:Nat),n+l.length≤f→((cJ n l).map (· / z)).sum=grd z f (List.replicate n (-1)++l)
 | [],n,f,h=>by
  rw[Bk z hz [] Lv n f (by simpa using h)];have e:grd z f []=0:=by cases f <;> rfl
  rw[e,cJ];by_cases c:0 < n
  ·rw[if_pos c]; simp
  ·rw[if_neg c];obtain rfl:n=0:=by omega
   simp
 | v::l,n,f,h=>by
  simp only[List.length_cons]at h;rw[cJ];by_cases c:v = -1
  ·rw[if_pos c,md z hz l (n+1) f (by omega)];congr 1;rw[c,List.replicate_succ',List.append_assoc];rfl
  ·rw[if_neg c,Bk z hz (v::l) c n f (by simp only[List.length_cons]; omega)];cases f with
   | zero=>omega
   | succ f=>
    rw[wC z hz c,List.map_append,List.sum_append,md z hz l 0 f (by omega)];by_cases d:0 < n
    ·rw[if_pos d]; simp
    ·rw[if_neg d];obtain rfl:n=0:=by omega
     simp
def Lw (z:Nat)(l:List Int):Prop:=∃ s,ji l s z=true
theorem ub (z:Nat)(hz:1≤z):∀ (f:Nat) (l:List Int),l.length≤f→(0 < grd z f l↔Lw z l)
 | 0,l,h=>by
  have:l=[]:=List.length_eq_zero_iff.1 (by omega);subst this;constructor
  ·intro q; exact absurd q (by simp[grd])
  ·rintro⟨s,q⟩; have:=mc hz q; simp at this; omega
 | f+1,[],_=>by
  constructor
  ·intro q; exact absurd q (by simp[grd])
  ·rintro⟨s,q⟩; have:=mc hz q; simp at this; omega
 | f+1,v::l,h=>by
  simp only[List.length_cons]at h;rw[grd];by_cases c:ji (v::l) 0 z=true
  ·rw[if_pos c]; exact⟨fun _=>⟨0,c⟩,fun _=>by omega⟩
  ·rw[if_neg c,ub z hz f l (by omega)];constructor
   ·rintro⟨s,q⟩;refine⟨s+1,?_⟩;rw[cN]at q ⊢;intro i h1 h2;have:=q (i-1) (by omega) (by omega);obtain⟨j,rfl⟩:∃ j,i=j+1:=⟨i-1,by omega⟩;exact this
   ·rintro⟨s,q⟩;cases s with
    | zero=>exact absurd q c
    | succ s=>
     refine⟨s,?_⟩;rw[cN]at q ⊢;intro i h1 h2;exact q (i+1) (by omega) (by omega)
theorem nL (z:Nat)(hz:1≤z):∀ (l:List Nat),0 < (l.map (· / z)).sum↔∃ r∈l,z≤r
 | []=>by simp
 | r::l=>by
  simp only[List.map_cons,List.sum_cons,List.mem_cons];have ih:=nL z hz l;have hp:0 < r / z↔z≤r:=by
   rw[Nat.div_pos_iff]; omega
  constructor
  ·intro h;by_cases c:0 < r / z
   ·exact⟨r,.inl rfl,hp.1 c⟩
   ·obtain⟨q,h1,h2⟩:=ih.1 (by omega);exact⟨q,.inr h1,h2⟩
  ·rintro⟨q,rfl | h1,h2⟩
   ·have:=hp.2 h2; omega
   ·exact Nat.lt_of_lt_of_le (ih.2 ⟨q,h1,h2⟩) (Nat.le_add_left _ _)
theorem qj {z:Nat}(hz:1≤z)(l:List Int):(∃ r∈cJ 0 l,z≤r)↔Lw z l:=by
 rw[← nL z hz,md z hz l 0 l.length (by omega)];exact ub z hz l.length l (Nat.le_refl _)
theorem HL {z:Nat}(hz:1≤z){l:List Int}(h:Lw z l):z≤l.length:=by
 obtain⟨s,q⟩:=h;have:=mc hz q;omega
def gm (seats:List (List Int)):List Nat:=seats.flatMap (cJ 0)
def bA (z:Nat)(seats:List (List Int)):Nat:=(seats.map fun l=>grd z l.length l).sum
theorem wD (z:Nat)(hz:1≤z):∀ (seats:List (List Int)),((gm seats).map (· / z)).sum=bA z seats
 | []=>rfl
 | l::s=>by
  have ih:=wD z hz s;have e1:gm (l::s)=cJ 0 l++gm s:=rfl;have e2:bA z (l::s)=grd z l.length l+bA z s:=rfl;rw[e1,e2,List.map_append,List.sum_append,ih,md z hz l 0 l.length (by omega)];rfl
theorem qk {seats:List (List Int)}{z:Nat}(hz:1≤z):(bO seats z).isSome=true↔∃ l∈seats,Lw z l:=by
 constructor
 ·intro h;obtain⟨c,hc⟩:=Option.isSome_iff_exists.1 h;obtain⟨b1,b2,b3⟩:=iW hc;exact⟨_,ck b1,c.2,b3⟩
 ·rintro⟨l,hl,s,hs⟩;obtain⟨r,hr,rfl⟩:=dm hl;cases hb:bO seats z with
  | some c=>rfl
  | none=>
   have:=Bg hb (c:=(r,s)) hr (mc hz hs);rw[hs]at this;cases this
theorem wE {seats:List (List Int)}{z:Nat}(hz:1≤z):(∃ r∈gm seats,z≤r)↔(bO seats z).isSome=true:=by
 rw[qk hz];unfold gm;constructor
 ·rintro⟨r,hr,h⟩;obtain⟨l,hl,hr⟩:=List.mem_flatMap.1 hr;exact⟨l,hl,(qj hz l).1 ⟨r,hr,h⟩⟩
 ·rintro⟨l,hl,h⟩;obtain⟨r,hr,h⟩:=(qj hz l).2 h;exact⟨r,List.mem_flatMap.2 ⟨l,hl,hr⟩,h⟩
def cs (l:List Nat):List Int:=l.map fun n:Nat=>(n:Int)
theorem HN (a b:List Nat):cs (a++b)=cs a++cs b:=List.map_append
theorem uc (a:List Nat):(cs a).length=a.length:=by simp[cs]
theorem nq:∀ (l:List Int) (n:Nat),(cJ n l).length≤l.length+1
 | [],n=>by rw[cJ]; split <;> simp
 | v::l,n=>by
  rw[cJ];split
  ·have:=nq l (n+1); simp only[List.length_cons]; omega
  ·have:=nq l 0;rw[List.length_append,List.length_cons];split
   ·simp only[List.length_singleton]; omega
   ·simp only[List.length_nil]; omega
theorem US (l:List Int)(hl:l.length≤1000):P63 l=some l:=by
 show BL (decide (List.length l=0)) (some []) (ah (bC 8 (List.length ([]:List Int)+List.length l)) (some ([]++l)))=_;rw[aj (bY (by simp; omega))];exact xD l _ rfl
theorem HO {a1 a2:Int}{l:List Int}{o:List Nat}{seats:List (List Int)}(hl:l.length≤1000)(ho:o.length≤100000):
  sg (0,a1,a2,((l++[0]).length:Int),0,cs o,seats,l++[0])=some (a1,a2,seats,l++[0],cs (o++cJ 0 l)):=by
 have key:=du (step:=fun x=>P1 x.1 x.2.1 x.2.2.1 x.2.2.2.1 x.2.2.2.2.1 x.2.2.2.2.2.1 x.2.2.2.2.2.2.1 x.2.2.2.2.2.2.2)
  (fun s=>l.length+1-s.2.2.2.2.1.toNat)
  (fun s=>∃ (k n:Nat) (q:List Nat),k≤l.length+1∧n≤k∧q.length≤o.length+k∧s=((n:Int),a1,a2,((l++[0]).length:Int),(k:Int),cs q,seats,l++[0])∧(k≤l.length→q++cJ n (l.drop k)=o++cJ 0 l)∧(k=l.length+1→q=o++cJ 0 l))
  (fun y=>y=(a1,a2,seats,l++[0],cs (o++cJ 0 l)))
  (x:=(((0:Nat):Int),a1,a2,((l++[0]).length:Int),((0:Nat):Int),cs o,seats,l++[0]))
  ⟨0,0,o,Nat.zero_le _,Nat.le_refl _,Nat.le_refl _,rfl,fun _=>rfl,fun h=>by omega⟩ (by show l.length+1-_ < _; omega) (by
   rintro s ⟨k,n,q,hk,hn,hq,rfl,h1,h2⟩;have hlen:(l++[0]).length=l.length+1:=by simp
   show(∃ s',q55_1 P63 (n:Int) a1 a2 ((l++[0]).length:Int) (k:Int) (cs q) seats (l++[0])=_∧_)∨∃ z,q55_1 P63 (n:Int) a1 a2 ((l++[0]).length:Int) (k:Int) (cs q) seats (l++[0])=_∧_;unfold q55_1;by_cases hkl:k < l.length+1
   ·left;have fk:af .i64 ((k:Int)+1)=true:=aE (by omega);have fn:af .i64 ((n:Int)+1)=true:=aE (by omega);have fc:bC 8 (List.length (cs q)+List.length ([(n:Int)]:List Int))=true:=bY (by rw[uc]; simp; omega);rw[aN (by omega),cond_true,aj (aC (by omega)),bI];have mk:∀ (n':Nat) (q':List Nat),n'≤k+1→q'.length≤o.length+(k+1)→(k+1≤l.length→q'++cJ n' (l.drop (k+1))=o++cJ 0 l)→(k=l.length→q'=o++cJ 0 l) →
      ∃ s',(some (Sum.inl ((n':Int),a1,a2,((l++[0]).length:Int),(k:Int)+1,cs q',seats,l++[0])):Option ((Int×Int×Int×Int×Int×List Int×List (List Int)×List Int)⊕(Int×Int×List (List Int)×List Int×List Int)))=some (.inl s') ∧
       (∃ (k n:Nat) (q:List Nat),k≤l.length+1∧n≤k∧q.length≤o.length+k∧s'=((n:Int),a1,a2,((l++[0]).length:Int),(k:Int),cs q,seats,l++[0])∧(k≤l.length→q++cJ n (l.drop k)=o++cJ 0 l)∧(k=l.length+1→q=o++cJ 0 l))∧l.length+1-s'.2.2.2.2.1.toNat < l.length+1-((k:Nat):Int).toNat:=
     fun n' q' m1 m2 m3 m4=>⟨_,rfl,⟨k+1,n',q',by omega,m1,m2,rfl,m3,fun e=>m4 (by omega)⟩,by show l.length+1-((k:Int)+1).toNat < l.length+1-((k:Nat):Int).toNat; omega⟩
    by_cases hin:k < l.length
    ·have hg:gt (l++[0]) k=gt l k:=by rw[hU,if_pos hin]
     have hd:l.drop k=gt l k::l.drop (k+1):=by rw[List.drop_eq_getElem_cons hin,ca hin]
     have h1':=h1 (by omega);rw[hd,cJ]at h1';rw[hg];by_cases c:gt l k = -1
     ·rw[decide_eq_true c,cond_true,aj fn,aj fk];rw[if_pos c]at h1';exact mk (n+1) q (by omega) (by omega) (fun _=>h1') (fun e=>by omega)
     ·rw[decide_eq_false c,cond_false];rw[if_neg c]at h1';by_cases d:0 < n
      ·rw[decide_eq_true (show(0:Int) < (n:Int)by omega),cond_true,aj fc,aj fk];rw[if_pos d]at h1';have:=mk 0 (q++[n]) (by omega) (by simp; omega) (fun _=>by rw[List.append_assoc]; exact h1') (fun e=>by omega);rw[HN]at this;exact this
      ·rw[decide_eq_false (show ¬ (0:Int) < (n:Int)by omega),cond_false,aj fk];rw[if_neg d]at h1';exact mk 0 q (by omega) (by omega) (fun _=>h1') (fun e=>by omega)
    ·obtain rfl:k=l.length:=by omega
     have hg:gt (l++[0]) l.length=0:=by rw[hU,if_neg (by omega),Nat.sub_self]; rfl
     have h1':=h1 (Nat.le_refl _);rw[List.drop_length,cJ]at h1';rw[hg,show decide ((0:Int) = -1)=false from rfl,cond_false];by_cases d:0 < n
     ·rw[decide_eq_true (show(0:Int) < (n:Int)by omega),cond_true,aj fc,aj fk];rw[if_pos d]at h1';have:=mk 0 (q++[n]) (by omega) (by simp; omega) (fun e=>by omega) (fun _=>h1');rw[HN]at this;exact this
     ·rw[decide_eq_false (show ¬ (0:Int) < (n:Int)by omega),cond_false,aj fk];rw[if_neg d,List.append_nil]at h1';exact mk 0 q (by omega) (by omega) (fun e=>by omega) (fun _=>h1')
   ·obtain rfl:k=l.length+1:=by omega
    right;refine⟨_,?_,rfl⟩;rw[hlen,aV,cond_false,h2 rfl])
 obtain⟨y,h1,h2⟩:=key;rw[← h2];exact h1
theorem sw {seats:List (List Int)}{i:Nat}(h:i < seats.length):gm (seats.take (i+1))=gm (seats.take i)++cJ 0 (gt seats i):=by
 unfold gm;rw[eG _ h,List.flatMap_append]
 simp
theorem HP {rows vain:List Int}{hold:Int}{seats:List (List Int)}{pool:List dY}(hl:∀ r,r < seats.length→(gt seats r).length≤12)(hs:seats.length≤30):
  uq (rows,hold,seats,vain,pool)=some (rows,hold,seats,vain,pool,cs (gm seats))∧(gm seats).length≤13*30:=by
 have hlen:∀ i,i≤seats.length→(gm (seats.take i)).length≤13*i:=fun i=>by
  induction i with
  | zero=>intro _; simp[gm]
  | succ i ih=>
   intro hi;have:=ih (by omega);have h2:=nq (gt seats i) 0;have h3:=hl i (by omega);rw[sw (by omega),List.length_append];omega
 refine⟨?_,by have:=hlen seats.length (Nat.le_refl _); rw[List.take_length]at this; omega⟩;have e:vZ ((seats.length:Int),0,[],seats)=some (seats,cs (gm seats)):=by
  have key:=aY (step:=fun x=>Qa x.1 x.2.1 x.2.2.1 x.2.2.2) seats.length (fun k=>((seats.length:Int),(k:Int),cs (gm (seats.take k)),seats)) (seats,cs (gm seats))
   (fun k hk=>by
    show si P63 sg (seats.length:Int) (k:Int) (cs (gm (seats.take k))) seats=_;unfold si;have h3:=hl k hk;have h4:=hlen k (by omega);rw[aN hk,cond_true,aj (aC hk),bI,US _ (by omega),bind_some',aj (bY (by simp; omega)),
     show sg (0,(seats.length:Int),(k:Int),(↑(List.length (gt seats k++[0])):Int),0,cs (gm (seats.take k)),seats,gt seats k++[0])=_ from HO (by omega) (by omega),bind_some']
    simp only;rw[aj (aE (by omega)),sw hk];rfl)
   (by
    show si P63 sg (seats.length:Int) (seats.length:Int) (cs (gm (seats.take seats.length))) seats=_;unfold si;rw[aV,cond_false,List.take_length])
   (by omega)
  exact key
 show q55 P63 vZ rows hold seats vain pool=_;unfold q55;rw[show vZ ((↑(List.length seats):Int),0,[],seats)=_ from e,bind_some']
theorem UT (l:List Int)(h:1≤l.length)(hl:l.length≤100000):∃ M,Qf l=some M∧M∈l∧∀ x∈l,x≤M:=by
 have key:=gZ (step:=fun x=>Qe x.1 x.2.1 x.2.2) (l.length-1)
  (fun k s=>∃ M,s=(l,M,((k+1:Nat):Int))∧M∈l∧∀ i,i < k+1→gt l i≤M)
  (fun y=>y∈l∧∀ x∈l,x≤y) (x:=(l,gt l 0,1)) ⟨gt l 0,rfl,ck (by omega),fun i hi=>by
   obtain rfl:i=0:=by omega
   exact Int.le_refl _⟩ (by omega)
  (by
   rintro k s hk ⟨M,rfl,h1,h2⟩;refine⟨(l,max M (gt l (k+1)),((k+1:Nat):Int)+1),?_,max M (gt l (k+1)),rfl,?_,fun i hi=>?_⟩
   ·show sj l M ((k+1:Nat):Int)=_;unfold sj;rw[show decide (((k+1:Nat):Int) < (↑(List.length l):Int))=true from aN (by omega),cond_true,aj (aC (by omega)),aj (aE (by omega)),bI]
   ·by_cases c:M≤gt l (k+1)
    ·rw[Int.max_eq_right c]; exact ck (by omega)
    ·rw[Int.max_eq_left (by omega)]; exact h1
   ·by_cases c:i=k+1
    ·rw[c]; exact Int.le_max_right _ _
    ·exact Int.le_trans (h2 i (by omega)) (Int.le_max_left _ _))
  (by
   rintro s ⟨M,rfl,h1,h2⟩;refine⟨M,?_,h1,fun x hx=>?_⟩
   ·show sj l M ((l.length-1+1:Nat):Int)=_;unfold sj;rw[show decide (((l.length-1+1:Nat):Int) < (↑(List.length l):Int))=false from decide_eq_false (by omega),cond_false]
   ·obtain⟨i,hi,e⟩:=dm hx;rw[← e]; exact h2 i (by omega))
 obtain⟨M,e1,e2,e3⟩:=key;refine⟨M,?_,e2,e3⟩;show q54 A8 l=_;unfold q54;rw[show decide ((↑(List.length l):Int) < 1)=false from decide_eq_false (by omega),cond_false,aj (show aA 0 (List.length l)=true from aC (k:=0) (by omega)),show ix l 0=gt l 0 from bI l 0,show A8 (l,gt l 0,1)=some M from e1];rfl
def lgF (seats:List (List Int)):Nat→Nat
 | 0=>0
 | n+1=>if(bO seats (n+1)).isSome=true then n+1 else lgF seats n
theorem ql (seats:List (List Int)):∀ n,lgF seats n≤n∧(1≤lgF seats n→(bO seats (lgF seats n)).isSome=true)∧∀ z,1≤z→z≤n→(bO seats z).isSome=true→z≤lgF seats n
 | 0=>⟨Nat.le_refl _,fun h=>by simp[lgF]at h,fun z h1 h2=>by omega⟩
 | n+1=>by
  obtain⟨h1,h2,h3⟩:=ql seats n;rw[lgF];by_cases c:(bO seats (n+1)).isSome=true
  ·rw[if_pos c]; exact⟨Nat.le_refl _,fun _=>c,fun z _ h _=>h⟩
  ·rw[if_neg c];refine⟨by omega,h2,fun z q1 q2 q3=>?_⟩;by_cases e:z=n+1
   ·subst e; exact absurd q3 c
   ·exact h3 z q1 (by omega) q3
theorem HQ {seats:List (List Int)}(hl:∀ r,r < seats.length→(gt seats r).length≤12){z:Nat}(hz:1≤z)(h:(bO seats z).isSome=true):z≤12:=by
 obtain⟨l,h1,h2⟩:=(qk hz).1 h;obtain⟨r,hr,rfl⟩:=dm h1;have:=HL hz h2;have:=hl r hr;omega
noncomputable def lgE (h:List Int×Int)(l:List au)(minute:Int):Int×Int:=if ft h l minute 0 1=0 then((lgF (afterM h l minute).1 12:Int),0)else(0,ft h l minute 0 1)
noncomputable def UU (h:List Int×Int)(l:List au)(minute size:Int):Int×Int:=if ft h l minute 0 size=0 then((bA size.toNat (afterM h l minute).1:Int),0)else(0,ft h l minute 0 size)
theorem HS (z:Nat)(hz:1≤z)(l:List Nat)(hl:l.length≤1000)(hb:∀ x∈l,x≤1000):wa ((z:Int),0,((cs l).length:Int),0,cs l)=some ((((l.map (· / z)).sum:Nat):Int),cs l):=by
 have hsum:∀ k,((l.take k).map (· / z)).sum≤1000*k:=fun k=>by
  induction k with
  | zero=>simp
  | succ k ih=>
   by_cases hk:k < l.length
   ·rw[eG l hk,List.map_append,List.sum_append];have:=hb _ (ck hk);have:gt l k / z≤gt l k:=Nat.div_le_self _ _;simp only[List.map_cons,List.map_nil,List.sum_cons,List.sum_nil];omega
   ·rw[List.take_of_length_le (by omega)]at ih ⊢;omega
 have hlen:=uc l;have key:=aY (step:=fun x=>Qj x.1 x.2.1 x.2.2.1 x.2.2.2.1 x.2.2.2.2) l.length (fun k=>((z:Int),(((l.take k).map (· / z)).sum:Int),((cs l).length:Int),(k:Int),cs l)) ((((l.map (· / z)).sum:Nat):Int),cs l)
  (fun k hk=>by
   show so i6 P42v1 uq (z:Int) (((l.take k).map (· / z)).sum:Int) ((cs l).length:Int) (k:Int) (cs l)=_;unfold so;have hg:gt (cs l) k=((gt l k:Nat):Int):=by rw[ca (by omega),ca hk]; simp[cs]
   have ht:Int.tdiv ((gt l k:Nat):Int) (z:Int)=((gt l k / z:Nat):Int):=rfl;have h1:=hsum k;have h2:=hb _ (ck hk);have h3:gt l k / z≤gt l k:=Nat.div_le_self _ _;have h4:gt l k / z≤1000:=by omega
   have h5:((gt l k / z:Nat):Int)≤1000:=Int.ofNat_le.2 h4;have h6:(0:Int)≤((gt l k / z:Nat):Int):=Int.natCast_nonneg _;rw[aN (by omega),cond_true,aj (aC (by omega)),aj (decide_eq_true (by omega)),bI,hg,ht,aj (aO (by generalize ((gt l k / z:Nat):Int)=dv at h5 h6; omega) (by generalize ((gt l k / z:Nat):Int)=dv at h5 h6; omega)),aj (aO (by generalize ((gt l k / z:Nat):Int)=dv at h5 h6; omega) (by generalize ((gt l k / z:Nat):Int)=dv at h5 h6; omega)),aj (aE (by omega)),eG l hk,List.map_append,List.sum_append]
   simp)
  (by
   show so i6 P42v1 uq (z:Int) (((l.take l.length).map (· / z)).sum:Int) ((cs l).length:Int) (l.length:Int) (cs l)=_;unfold so;rw[hlen,aV,cond_false,List.take_length])
  (by omega)
 simp only[List.take_zero,List.map_nil,List.sum_nil]at key;exact key
theorem qm:∀ (l:List Int) (n:Nat),∀ r∈cJ n l,r≤n+l.length
 | [],n,r,h=>by
  rw[cJ]at h;split at h
  ·rw[List.mem_singleton.1 h]; simp
  ·cases h
 | v::l,n,r,h=>by
  rw[cJ]at h;simp only[List.length_cons];split at h
  ·have:=qm l (n+1) r h; omega
  ·rcases List.mem_append.1 h with q | q
   ·split at q
    ·rw[List.mem_singleton.1 q]; omega
    ·cases q
   ·have:=qm l 0 r q; omega
theorem ue (l:List Int)(k:Nat):fr l (k:Int)=decide (gt l k = -1):=by
 by_cases h:k < l.length
 ·exact Id h
 ·rw[zL (by omega)];unfold fr;have:wi (k:Int) 0 ((l.length:Int)-1)=false:=by
   cases hw:wi (k:Int) 0 ((l.length:Int)-1)with
   | false=>rfl
   | true=>have:=cS.1 hw; omega
  rw[this];rfl
section
variable {h:List Int×Int} {l:List au} (minute:Int) (hh:h.1.length≤1000) (hl:l.length≤1000)
include hh hl
theorem UV:P32 (h,l,minute)=some (lgE h l minute):=by
 show q32 i6 P42v1 uq Qf h l minute=_;unfold q32 lgE;rw[np h l minute 0 1 hh hl];by_cases h0:ft h l minute 0 1=0
 ·obtain⟨⟨c1,c2⟩,_⟩:=eH.1 h0;obtain⟨pool,e1,e2⟩:=il h0;have hI:=IM.after (h:=h) c2 minute;have hlen:=hI.len;have hsl:=kj c1;have hrow:∀ r,r < (afterM h l minute).1.length→(gt (afterM h l minute).1 r).length≤12:=fun r hr=>hI.row (gx c1) hr;obtain⟨e3,e4⟩:=HP (rows:=h.1) (vain:=(afterM h l minute).2.2) (hold:=h.2) (pool:=pool) hrow (by omega);obtain⟨M,m1,m2,m3⟩:=UT (cs (gm (afterM h l minute).1)++[0]) (by simp) (by simp[uc]; omega);rw[if_pos h0,im,e1,bind_some',if_pos h0];simp only[decide_true,Bool.not_true,cond_false];rw[e3,bind_some',aj (bY (by simp[uc]; omega)),m1,bind_some'];congr 2;obtain⟨g1,g2,g3⟩:=ql (afterM h l minute).1 12;have a1:(0:Int)≤M:=m3 0 (by simp);have a2:∀ z:Nat,1≤z→(bO (afterM h l minute).1 z).isSome=true→(z:Int)≤M:=fun z hz hb=>by
   obtain⟨r,hr,hzr⟩:=(wE hz).2 hb;have:=m3 (r:Int) (by simp only[List.mem_append]; left; exact List.mem_map.2 ⟨r,hr,rfl⟩);omega
  have a3:M≤(lgF (afterM h l minute).1 12:Int):=by
   rcases List.mem_append.1 m2 with q | q
   ·obtain⟨r,hr,rfl⟩:=List.mem_map.1 q;by_cases c:1≤r
    ·have hb:=(wE c).1 ⟨r,hr,Nat.le_refl _⟩;have:=g3 r c (HQ hrow c hb) hb;omega
    ·omega
   ·rw[List.mem_singleton.1 q]; omega
  by_cases c:1≤lgF (afterM h l minute).1 12
  ·have:=a2 _ c (g2 c);omega
  ·omega
 ·rw[if_neg h0,io,if_neg h0,decide_eq_false h0];rfl
theorem UW (size:Int):P33 (h,l,minute,size)=some (UU h l minute size):=by
 show q33 i6 P42v1 uq wa h l minute size=_;unfold q33 UU;rw[np h l minute 0 size hh hl];by_cases h0:ft h l minute 0 size=0
 ·obtain⟨⟨c1,c2⟩,_,_,c5⟩:=eH.1 h0;obtain⟨pool,e1,e2⟩:=il h0;have hI:=IM.after (h:=h) c2 minute;have hlen:=hI.len;have hsl:=kj c1;have hrow:∀ r,r < (afterM h l minute).1.length→(gt (afterM h l minute).1 r).length≤12:=fun r hr=>hI.row (gx c1) hr;obtain⟨e3,e4⟩:=HP (rows:=h.1) (vain:=(afterM h l minute).2.2) (hold:=h.2) (pool:=pool) hrow (by omega);obtain⟨z,rfl⟩:∃ z:Nat,size=(z:Int):=⟨size.toNat,by omega⟩;have hb:∀ x∈gm (afterM h l minute).1,x≤1000:=fun x hx=>by
   obtain⟨row,h1,h2⟩:=List.mem_flatMap.1 hx;obtain⟨r,hr,rfl⟩:=dm h1;have:=qm _ _ _ h2;have:=hrow r hr;omega
  rw[if_pos h0,im,e1,bind_some',if_pos h0];simp only[decide_true,Bool.not_true,cond_false,Int.toNat_natCast];rw[e3,bind_some'];simp only;rw[show wa ((z:Int),0,(↑(List.length (cs (gm (afterM h l minute).1))):Int),0,cs (gm (afterM h l minute).1))=_ from HS z (by omega) _ (by omega) hb,bind_some',wD z (by omega)]
 ·rw[if_neg h0,io,if_neg h0,decide_eq_false h0];rfl
end
theorem Bl (hold minute:Int):∀ (a b:List au) (x:HM),(∀ c∈a,c.2.1≤minute)→nK hold minute (a++b) x=nK hold minute b (nK hold minute a x)
 | [],b,x,_=>rfl
 | c::a,b,x,h=>by
  have hc:=h c (by simp);rw[List.cons_append,nK,nK,if_neg (by omega),if_neg (by omega)];exact Bl hold minute a b _ fun d hd=>h d (by simp[hd])
def ND (hold minute:Int)(x:HM):Prop:=∀ n,eL hold minute (x.2.1 n)=false
theorem HU (f:Int→Int)(seats:List (List Int))(h:∀ v,f v=v):(seats.map fun l=>l.map f)=seats:=by
 have:f=id:=funext h;subst this
 simp
theorem UX {hold minute:Int}{x:HM}(h:ND hold minute x):gl hold minute x=x:=by
 unfold gl;have e1:lapG hold minute x.2.1=x.2.1:=funext fun n=>by unfold lapG; rw[h n]; rfl
 rw[e1,HU _ _ fun v=>by unfold yH; rw[h v]; rfl]
theorem HV (hold minute:Int)(o:gk):eL hold minute (iV o)=false:=rfl
theorem UY (hold minute:Int)(x:HM):ND hold minute (gl hold minute x):=fun n=>by
 show eL hold minute (lapG hold minute x.2.1 n)=false;unfold lapG;cases h:eL hold minute (x.2.1 n)with
 | true=>rw[if_pos rfl,HV]
 | false=>rw[if_neg (by decide)]; exact h
theorem uf {hold minute:Int}{g:Int→gk}{n:Int}{o:gk}(h:∀ m,eL hold minute (g m)=false)(ho:eL hold minute o=false):∀ m,eL hold minute (eM g n o m)=false:=fun m=>by
 unfold eM;by_cases c:m=n
 ·rw[if_pos c]; exact ho
 ·rw[if_neg c]; exact h m
theorem Lx {hold minute:Int}(hh:1≤hold){x:HM}(h:ND hold minute x){c:au}(hc:c.2.1=minute):ND hold minute (eN x c):=by
 unfold eN jK wq l8;split
 ·split
  ·cases bO x.1 c.2.2.2.2.toNat with
   | none=>exact uf h rfl
   | some q=>
    refine uf h ?_;unfold eL;rw[Bool.and_eq_false_iff];right;refine decide_eq_false ?_;show ¬ (c.2.1+hold≤minute);omega
  ·exact h
 ·split
  ·split
   ·exact uf h rfl
   ·exact h
  ·split
   ·exact uf h rfl
   ·exact h
def hearL (x:HM)(ds:List au):HM:=ds.foldl eN x
theorem wF {hold minute:Int}(hh:1≤hold):∀ (ds:List au) (x:HM),(∀ d∈ds,d.2.1=minute)→gl hold minute (nK hold minute ds x)=hearL (gl hold minute x) ds
 | [],x,_=>rfl
 | d::ds,x,h=>by
  have hd:=h d (by simp);rw[nK,if_neg (by omega),wF hh ds _ fun e he=>h e (by simp[he]),hd];show _=hearL (eN (gl hold minute x) d) ds;rw[UX (Lx hh (UY hold minute x) hd)]
theorem sx {h:List Int×Int}(hh:cx h){l ds:List au}{minute:Int}(hl:b8 l)(hd:b8 (l++ds))(h1:∀ c∈l,c.2.1≤minute)(h2:∀ d∈ds,d.2.1=minute)(h3:∀ c∈l,∀ d∈ds,c.1 < d.1)(h4:ds.Pairwise (fun a b=>a.1 < b.1)):
  afterM h (l++ds) minute=hearL (afterM h l minute) ds:=by
 obtain⟨e1,e2,e3,e4⟩:=jM (l:=l) (by have:=hl.1; omega) hl.2.1 hl.2.2;have hq:hrd (l++ds)=hrd l++ds:=by
  refine(qg (by have:=hd.1; omega) hd.2.1 hd.2.2 ?_ fun x=>?_).symm
  ·rw[List.pairwise_append];refine⟨e2,h4.imp_of_mem fun ha hb hab=>?_,fun a ha b hb=>?_⟩
   ·have:=h2 _ ha;have:=h2 _ hb;unfold kc;omega
   ·have q1:=h1 a ((e3 a).1 ha);have q2:=h2 b hb;have q3:=h3 a ((e3 a).1 ha) b hb;unfold kc;omega
  ·rw[List.mem_append,List.mem_append,e3]
 unfold afterM;rw[hq,Bl h.2 minute (hrd l) ds _ fun c hc=>h1 c ((e3 c).1 hc),wF hh.2.2.1 ds _ h2]
theorem me {l ds:List au}(hl:b8 l)(hn:l.length+ds.length≤40)(hd:∀ d∈ds,be d)(h3:∀ c∈l,∀ d∈ds,c.1 < d.1)(h4:ds.Pairwise (fun a b=>a.1 < b.1)):b8 (l++ds):=by
 refine⟨by rw[List.length_append]; exact hn,fun c hc=>?_,fun a ha b hb e=>?_⟩
 ·rcases List.mem_append.1 hc with q | q
  ·exact hl.2.1 c q
  ·exact hd c q
 ·rcases List.mem_append.1 ha with p | p <;> rcases List.mem_append.1 hb with q | q
  ·exact hl.2.2 a p b q e
  ·have:=h3 a p b q; omega
  ·have:=h3 b q a p; omega
  ·obtain⟨i,hi,rfl⟩:=dm p;obtain⟨j,hj,rfl⟩:=dm q;by_cases c:i=j
   ·rw[c]
   ·rcases Nat.lt_or_gt_of_ne c with c | c
    ·have:=List.pairwise_iff_getElem.1 h4 i j hi hj c;rw[← ca hi,← ca hj]at this;omega
    ·have:=List.pairwise_iff_getElem.1 h4 j i hj hi c;rw[← ca hi,← ca hj]at this;omega
end Go.Proofs.Ytdkaijofmigmbaa.D
