/- Cut down from longer texts. -/
import Derived.Test.YtdkaijofmigmbaaH2f
import Derived.Test.YtdkaijofmigmbaaB3f
import Derived.Test.YtdkaijofmigmbaaG9f
import Derived.Test.YtdkaijofmigmbaaG2f
import Derived.Sort.LotD4
import Derived.Test.YtdkaijofmigmbaaG6f
set_option linter.unusedVariables false
set_option linter.unusedSimpArgs false
set_option linter.unusedSectionVars false
set_option maxRecDepth 100000
namespace Go.Proofs.Ytdkaijofmigmbaa.D
open Go Go.Proofs Go.Proofs.Ytdkaijofmigmbaa.L
theorem K7 (l:List aB)(h:l.length≤1000000):tB wq (l,(l.length:Int),0,0,[])=some (Sum.inr (0,l)):=by
 refine(aQ (step:=fun x=>Ei wq x.1 x.2.1 x.2.2.1 x.2.2.2.1 x.2.2.2.2) l.length (fun k=>(l,(l.length:Int),(k:Int),(0:Int),l.take k)) (Sum.inr (0,l)) (fun k hk=>?_) ?_ (by omega))
 ·show m8 wq l (l.length:Int) (k:Int) 0 (l.take k)=_;unfold m8;rw[aN hk,cond_true,ak (aC hk)];have e:wq (ix l (k:Int),0,l.take k)=some (true,0,l.take (k+1)):=by
   unfold wq;simp only;rw[ak (bY (by simp; omega)),bI,List.take_add_one,List.getElem?_eq_getElem hk,b8 hk];rfl
  rw[e];show ai (ah .i64 ((k:Int)+1)) _=_;rw[ak (aF (by omega))];rfl
 ·show m8 wq l (l.length:Int) (l.length:Int) 0 (l.take l.length)=_;unfold m8;rw[aT,cond_false,List.take_length]
theorem K8 (l:List aB)(h:l.length≤1000000):P123 l=some l:=by
 have e:vD wq (l,0,[])=some (l,0,l):=by
  show Jq wq (tB wq) l 0 []=_;unfold Jq;rw[K7 l h];rfl
 unfold P123;rw[e];rfl
def fr (l:List Int)(i:Int):Bool:=wi i 0 ((l.length:Int)-1)&&decide (ix l i = -1)
def nQ (l:List Int)(s n:Nat):Bool:=fi n fun k=>decide (gt l (s+k) = -1)
def gp (l:List Int)(s:Int)(n:Int):Bool:=(fr l (s-1)&&!fr l (s-2))||(fr l (s+n)&&!fr l (s+n+1))
theorem Ur {r:Nat}(i:Int){rows vain:List Int}{hold:Int}{seats:List (List Int)}{pool:List dZ}(hr:r < seats.length)(hl:(gt seats r).length≤1000):
  P97 ((r:Int),i,rows,hold,seats,vain,pool)=some (fr (gt seats r) i,rows,hold,seats,vain,pool):=by
 show q97 P60 (r:Int) i rows hold seats vain pool=_;unfold q97;rw[ak (aC hr),bI,ak (aS (by omega) (by omega))];have e:P60 (i,0,(((gt seats r).length:Int)-1))=some (wi i 0 (((gt seats r).length:Int)-1)):=tz _ _ _;rw[e];simp only[Option.bind_some];unfold fr;cases hw:wi i 0 (((gt seats r).length:Int)-1)with
 | false=>rfl
 | true=>
  have:=dk.1 hw;rw[cond_true,ak (aC hr),ak (Ec (by omega) (by omega))];rfl
theorem HE {r s n:Nat}{a0 a3 a4 a5 a6 k size:Int}{fst:bT}{fnd:Bool}{rows vain:List Int}{hold:Int}{seats:List (List Int)}{pool:List dZ}(hr:r < seats.length)(hs:s+n≤(gt seats r).length)(hl:(gt seats r).length≤1000):
  L96_2 PYb (a0,(r:Int),(s:Int),a3,a4,a5,a6,(n:Int),0,k,fst,fnd,size,seats,rows,hold,vain,pool) =
  some (cond (nQ (gt seats r) s n) (Sum.inr (a0,(r:Int),(s:Int),a3,a4,a5,a6,k,fst,fnd,size,seats,rows,hold,vain,pool)) (Sum.inl (a0,(r:Int),a3,a4,a5,a6,k,fst,fnd,size,seats,rows,hold,vain,pool))):=by
 refine kg (step:=fun x=>LN PYb x.1 x.2.1 x.2.2.1 x.2.2.2.1 x.2.2.2.2.1 x.2.2.2.2.2.1 x.2.2.2.2.2.2.1 x.2.2.2.2.2.2.2.1 x.2.2.2.2.2.2.2.2.1 x.2.2.2.2.2.2.2.2.2.1 x.2.2.2.2.2.2.2.2.2.2.1 x.2.2.2.2.2.2.2.2.2.2.2.1 x.2.2.2.2.2.2.2.2.2.2.2.2.1 x.2.2.2.2.2.2.2.2.2.2.2.2.2.1 x.2.2.2.2.2.2.2.2.2.2.2.2.2.2.1 x.2.2.2.2.2.2.2.2.2.2.2.2.2.2.2.1 x.2.2.2.2.2.2.2.2.2.2.2.2.2.2.2.2.1 x.2.2.2.2.2.2.2.2.2.2.2.2.2.2.2.2.2)
  n (fun q=>(a0,(r:Int),(s:Int),a3,a4,a5,a6,(n:Int),(q:Int),k,fst,fnd,size,seats,rows,hold,vain,pool)) (fun q=>decide (gt (gt seats r) (s+q) = -1)) _ _ (fun q hq=>?_) ?_ (by omega)
 ·show rM P97 PYb a0 (r:Int) (s:Int) a3 a4 a5 a6 (n:Int) (q:Int) k fst fnd size seats rows hold vain pool=_;unfold rM;rw[aN hq,cond_true,ak (aS (by omega) (by omega)),bI,show((s:Int)+(q:Int))=((s+q:Nat):Int)by omega,ak (aC (by omega)),bI];cases hd:decide (gt (gt seats r) (s+q) = -1)with
  | false=>rfl
  | true=>
   rw[Bool.not_true,cond_false,ak (aF (by omega))];rfl
 ·show rM P97 PYb a0 (r:Int) (s:Int) a3 a4 a5 a6 (n:Int) (n:Int) k fst fnd size seats rows hold vain pool=_;unfold rM;rw[aT,cond_false];rfl
theorem PYb_0 (p f:bT)(g b:Bool):PYb (p,g,0,f,b)=some (cond g (true,0,cond b f p,true) (false,1,p,true)):=by
 cases g <;> cases b <;> rfl
theorem HY {r s n m:Nat}{a2 a3:Int}{fst:bT}{fnd:Bool}{rows vain:List Int}{hold:Int}{seats:List (List Int)}{pool:List dZ}(hr:r < seats.length)(hl:(gt seats r).length≤1000)(hn:n≤1000)(hs:s < m)(hm:m+n=(gt seats r).length+1):
  q96_1 P97 PYb (L96_2 PYb) (r:Int) (r:Int) a2 a3 (m:Int) (s:Int) 0 fst fnd (n:Int) seats rows hold vain pool =
  some (cond (nQ (gt seats r) s n) (cond (gp (gt seats r) s n)
    (Sum.inl ((r:Int),(r:Int),a2,a3,(m:Int),((s+1:Nat):Int),0,cond fnd fst (0,(r:Int),(s:Int),(n:Int)),true,(n:Int),seats,rows,hold,vain,pool))
    (Sum.inr (Sum.inl (1,(0,(r:Int),(s:Int),(n:Int)),true,(n:Int),seats,rows,hold,vain,pool))))
   (Sum.inl ((r:Int),(r:Int),a2,a3,(m:Int),((s+1:Nat):Int),0,fst,fnd,(n:Int),seats,rows,hold,vain,pool))):=by
 unfold q96_1;rw[aN hs,cond_true,show(↑((r:Int).toNat):Int)=(r:Int)from rfl,HE hr (by omega) hl];cases hp:nQ (gt seats r) s n with
 | false=>
  simp only[cond_false,aa,elim_inl];rw[ak (aF (by omega))];rfl
 | true=>
  simp only[cond_true,aa,elim_inr];rw[ak (aS (by omega) (by omega)),ak (aS (by omega) (by omega))];simp only[Ur _ hr hl,aa,PYb_0,gp];have f1:ah .i64 ((s:Int)-2)=true:=aS (by omega) (by omega);have f2:ah .i64 ((s:Int)+(n:Int)+1)=true:=aS (by omega) (by omega);have f3:ah .i64 ((s:Int)+1)=true:=aF (by omega);simp only[f1,f2,f3,am];cases fr (gt seats r) ((s:Int)-1) <;> cases fr (gt seats r) ((s:Int)-2) <;> cases fr (gt seats r) ((s:Int)+(n:Int)) <;> cases fr (gt seats r) ((s:Int)+(n:Int)+1) <;> rfl
def ot (seats:List (List Int))(n:Nat):List (Nat×Nat)→bT×Bool→bT×Bool×Bool
 | [],(f,b)=>(f,b,false)
 | (r,s)::cs,(f,b)=>cond (nQ (gt seats r) s n) (cond (gp (gt seats r) s n) (ot seats n cs (cond b f (0,(r:Int),(s:Int),(n:Int)),true)) ((0,(r:Int),(s:Int),(n:Int)),true,true)) (ot seats n cs (f,b))
theorem uo (seats:List (List Int))(n:Nat):∀ (cs ds:List (Nat×Nat)) (a:bT×Bool),ot seats n (cs++ds) a=(match ot seats n cs a with
  | (f,b,true)=>(f,b,true)
  | (f,b,false)=>ot seats n ds (f,b))
 | [],ds,(f,b)=>rfl
 | (r,s)::cs,ds,(f,b)=>by
  simp only[List.cons_append,ot];cases nQ (gt seats r) s n with
  | false=>simp only[cond_false]; exact uo seats n cs ds _
  | true=>
   cases gp (gt seats r) s n with
   | false=>rfl
   | true=>simp only[cond_true]; exact uo seats n cs ds _
def ij (r s k:Nat):List (Nat×Nat):=(List.range' s k).map fun s=>(r,s)
theorem HZ {r n m:Nat}{a2 a3:Int}{fst:bT}{fnd:Bool}{rows vain:List Int}{hold:Int}{seats:List (List Int)}{pool:List dZ}(hr:r < seats.length)(hl:(gt seats r).length≤1000)(hn:n≤1000)(hm:m=0∨m+n=(gt seats r).length+1){mi:Int}(hmi:mi=(m:Int)∨(m=0∧mi≤0)):
  vE PYb ((r:Int),(r:Int),a2,a3,mi,0,0,fst,fnd,(n:Int),seats,rows,hold,vain,pool)=some (match ot seats n (ij r 0 m) (fst,fnd)with
   | (f,b,true)=>Sum.inl (1,f,b,(n:Int),seats,rows,hold,vain,pool)
   | (f,b,false)=>Sum.inr (a2,a3,0,f,b,(n:Int),seats,rows,hold,vain,pool)):=by
 have key:=cF (step:=fun x=>LP PYb x.1 x.2.1 x.2.2.1 x.2.2.2.1 x.2.2.2.2.1 x.2.2.2.2.2.1 x.2.2.2.2.2.2.1 x.2.2.2.2.2.2.2.1 x.2.2.2.2.2.2.2.2.1 x.2.2.2.2.2.2.2.2.2.1 x.2.2.2.2.2.2.2.2.2.2.1 x.2.2.2.2.2.2.2.2.2.2.2.1 x.2.2.2.2.2.2.2.2.2.2.2.2.1 x.2.2.2.2.2.2.2.2.2.2.2.2.2.1 x.2.2.2.2.2.2.2.2.2.2.2.2.2.2)
  (fun x=>m-x.2.2.2.2.2.1.toNat)
  (fun x=>∃ s f b,s≤m∧x=((r:Int),(r:Int),a2,a3,mi,(s:Int),0,f,b,(n:Int),seats,rows,hold,vain,pool)∧ot seats n (ij r s (m-s)) (f,b)=ot seats n (ij r 0 m) (fst,fnd))
  (fun y=>y=(match ot seats n (ij r 0 m) (fst,fnd)with
   | (f,b,true)=>Sum.inl (1,f,b,(n:Int),seats,rows,hold,vain,pool)
   | (f,b,false)=>Sum.inr (a2,a3,0,f,b,(n:Int),seats,rows,hold,vain,pool)))
  (x:=((r:Int),(r:Int),a2,a3,mi,((0:Nat):Int),0,fst,fnd,(n:Int),seats,rows,hold,vain,pool)) ⟨0,fst,fnd,Nat.zero_le _,rfl,rfl⟩ (by show m-_ < _; omega) (by
   rintro x ⟨s,f,b,hs,rfl,hg⟩;show(∃ s',q96_1 P97 PYb (L96_2 PYb) (r:Int) (r:Int) a2 a3 mi (s:Int) 0 f b (n:Int) seats rows hold vain pool=_∧_)∨∃ y,q96_1 P97 PYb (L96_2 PYb) (r:Int) (r:Int) a2 a3 mi (s:Int) 0 f b (n:Int) seats rows hold vain pool=_∧_;by_cases hsm:s < m
   ·have hmi':mi=(m:Int):=by omega
    subst hmi';rw[HY hr hl hn hsm (by omega)];have hstep:ot seats n (ij r s (m-s)) (f,b)=cond (nQ (gt seats r) s n) (cond (gp (gt seats r) s n) (ot seats n (ij r (s+1) (m-(s+1))) (cond b f (0,(r:Int),(s:Int),(n:Int)),true)) ((0,(r:Int),(s:Int),(n:Int)),true,true)) (ot seats n (ij r (s+1) (m-(s+1))) (f,b)):=by
     rw[show m-s=(m-(s+1))+1 by omega];rfl
    rw[hstep]at hg;cases hp:nQ (gt seats r) s n with
    | false=>
     rw[hp]at hg;exact .inl ⟨_,rfl,⟨s+1,f,b,by omega,rfl,hg⟩,by show m-((s+1:Nat):Int).toNat < m-((s:Nat):Int).toNat; simp only[Int.toNat_natCast]; omega⟩
    | true=>
     rw[hp]at hg;cases hq:gp (gt seats r) s n with
     | true=>
      rw[hq]at hg;exact .inl ⟨_,rfl,⟨s+1,_,true,by omega,rfl,hg⟩,by show m-((s+1:Nat):Int).toNat < m-((s:Nat):Int).toNat; simp only[Int.toNat_natCast]; omega⟩
     | false=>
      rw[hq]at hg;refine .inr ⟨_,rfl,?_⟩;rw[← hg];rfl
   ·obtain rfl:s=m:=by omega
    refine .inr ⟨Sum.inr (a2,a3,0,f,b,(n:Int),seats,rows,hold,vain,pool),?_,?_⟩
    ·unfold q96_1;rw[show decide ((s:Int) < mi)=false from decide_eq_false (by omega),cond_false]
    ·rw[← hg,Nat.sub_self];rfl)
 obtain⟨y,h1,h2⟩:=key;rw[← h2];exact h1
def cG (seats:List (List Int))(n r k:Nat):List (Nat×Nat):=(List.range' r k).flatMap fun r=>ij r 0 ((gt seats r).length+1-n)
theorem H0 {n:Nat}{fst:bT}{fnd:Bool}{rows vain:List Int}{hold:Int}{seats:List (List Int)}{pool:List dZ}(hl:∀ r,r < seats.length→(gt seats r).length≤1000)(hs:seats.length≤1000)(hn:n≤1000):
  zR PYb ((seats.length:Int),0,0,fst,fnd,(n:Int),seats,rows,hold,vain,pool)=some (match ot seats n (cG seats n 0 seats.length) (fst,fnd)with
   | (f,b,true)=>Sum.inl (1,f,b,(n:Int),seats,rows,hold,vain,pool)
   | (f,b,false)=>Sum.inr (0,f,b,(n:Int),seats,rows,hold,vain,pool)):=by
 have key:=cF (step:=fun x=>LR PYb x.1 x.2.1 x.2.2.1 x.2.2.2.1 x.2.2.2.2.1 x.2.2.2.2.2.1 x.2.2.2.2.2.2.1 x.2.2.2.2.2.2.2.1 x.2.2.2.2.2.2.2.2.1 x.2.2.2.2.2.2.2.2.2.1 x.2.2.2.2.2.2.2.2.2.2)
  (fun x=>seats.length-x.2.1.toNat)
  (fun x=>∃ r f b,r≤seats.length∧x=((seats.length:Int),(r:Int),0,f,b,(n:Int),seats,rows,hold,vain,pool)∧ot seats n (cG seats n r (seats.length-r)) (f,b)=ot seats n (cG seats n 0 seats.length) (fst,fnd))
  (fun y=>y=(match ot seats n (cG seats n 0 seats.length) (fst,fnd)with
   | (f,b,true)=>Sum.inl (1,f,b,(n:Int),seats,rows,hold,vain,pool)
   | (f,b,false)=>Sum.inr (0,f,b,(n:Int),seats,rows,hold,vain,pool)))
  (x:=((seats.length:Int),((0:Nat):Int),0,fst,fnd,(n:Int),seats,rows,hold,vain,pool)) ⟨0,fst,fnd,Nat.zero_le _,rfl,rfl⟩ (by show seats.length-_ < _; omega) (by
   rintro x ⟨r,f,b,hr,rfl,hg⟩;show(∃ s',rN P97 PYb (vE PYb) (seats.length:Int) (r:Int) 0 f b (n:Int) seats rows hold vain pool=_∧_)∨∃ y,rN P97 PYb (vE PYb) (seats.length:Int) (r:Int) 0 f b (n:Int) seats rows hold vain pool=_∧_;by_cases hrm:r < seats.length
   ·have hlr:=hl r hrm;have hstep:cG seats n r (seats.length-r)=ij r 0 ((gt seats r).length+1-n)++cG seats n (r+1) (seats.length-(r+1)):=by
     rw[show seats.length-r=(seats.length-(r+1))+1 by omega];rfl
    rw[hstep,uo]at hg;unfold rN;rw[aN hrm,cond_true,ak (aC hrm),bI,ak (aS (by omega) (by omega)),ak (aS (by omega) (by omega)),show(↑((r:Int).toNat):Int)=(r:Int)from rfl,
     HZ hrm hlr hn (m:=(gt seats r).length+1-n) (by omega) (by omega)]
    cases hq:ot seats n (ij r 0 ((gt seats r).length+1-n)) (f,b)with
    | mk f' y=>
     obtain⟨b',t⟩:=y;rw[hq]at hg;cases t with
     | true=>
      refine .inr ⟨_,rfl,?_⟩;rw[← hg]
     | false=>
      left;refine⟨((seats.length:Int),((r+1:Nat):Int),0,f',b',(n:Int),seats,rows,hold,vain,pool),?_,⟨r+1,f',b',by omega,rfl,hg⟩,by show seats.length-((r+1:Nat):Int).toNat < seats.length-((r:Nat):Int).toNat; simp only[Int.toNat_natCast]; omega⟩;simp only[aa,elim_inr];rw[ak (aF (by omega))];rfl
   ·obtain rfl:r=seats.length:=by omega
    refine .inr ⟨Sum.inr (0,f,b,(n:Int),seats,rows,hold,vain,pool),?_,?_⟩
    ·unfold rN;rw[aT,cond_false]
    ·rw[← hg,Nat.sub_self];rfl)
 obtain⟨y,h1,h2⟩:=key;rw[← h2];exact h1
def nS (seats:List (List Int))(n:Nat):bT×Bool:=((ot seats n (cG seats n 0 seats.length) ((0,0,0,0),false)).1,(ot seats n (cG seats n 0 seats.length) ((0,0,0,0),false)).2.1)
theorem yT {n:Nat}{rows vain:List Int}{hold:Int}{seats:List (List Int)}{pool:List dZ}(hl:∀ r,r < seats.length→(gt seats r).length≤1000)(hs:seats.length≤1000)(hn:n≤1000):
  qQ ((n:Int),rows,hold,seats,vain,pool)=some ((nS seats n).1,(nS seats n).2,rows,hold,seats,vain,pool):=by
 have e:LS PYb (0,(0,0,0,0),false,(n:Int),rows,hold,seats,vain,pool)=some ((match ot seats n (cG seats n 0 seats.length) ((0,0,0,0),false)with
   | (f,b,true)=>(1,f,b,(n:Int),rows,hold,seats,vain,pool)
   | (f,b,false)=>(0,f,b,(n:Int),rows,hold,seats,vain,pool))):=by
  show q96 P97 PYb (zR PYb) 0 (0,0,0,0) false (n:Int) rows hold seats vain pool=_;unfold q96;rw[show(↑(List.length seats):Int)=(seats.length:Int)from rfl,H0 hl hs hn];cases ot seats n (cG seats n 0 seats.length) ((0,0,0,0),false)with
  | mk f y=>obtain⟨b,t⟩:=y; cases t <;> rfl
 unfold qQ nS;rw[e];cases ot seats n (cG seats n 0 seats.length) ((0,0,0,0),false)with
 | mk f y=>obtain⟨b,t⟩:=y; cases t <;> rfl
theorem H1 (l:List Int)(i:Int):uv (l,i)=some (fr l i):=by
 show q47 l i=_;unfold q47 fr;by_cases h1:0≤i
 ·by_cases h2:i < (l.length:Int)
  ·rw[decide_eq_true h1,show decide (i < (↑(List.length l):Int))=true from decide_eq_true h2,cond_true,cond_true,ak (Ec h1 h2),show wi i 0 ((l.length:Int)-1)=true from dk.2 ⟨h1,by omega⟩];rfl
  ·have:wi i 0 ((l.length:Int)-1)=false:=by
    cases h:wi i 0 ((l.length:Int)-1)with
    | false=>rfl
    | true=>have:=dk.1 h; omega
   rw[decide_eq_true h1,show decide (i < (↑(List.length l):Int))=false from decide_eq_false h2,this];rfl
 ·have:wi i 0 ((l.length:Int)-1)=false:=by
   cases h:wi i 0 ((l.length:Int)-1)with
   | false=>rfl
   | true=>have:=dk.1 h; omega
  rw[decide_eq_false h1,this];rfl
theorem H2 {l:List Int}{k:Nat}(h:k < l.length):fr l (k:Int)=decide (gt l k = -1):=by
 unfold fr;rw[show wi (k:Int) 0 ((l.length:Int)-1)=true from dk.2 ⟨by omega,by omega⟩,bI];rfl
def H3 (l:List Int)(s:Int)(n:Nat):Bool:=fi n fun k=>fr l (s+(k:Int))
theorem H4 {l:List Int}{s n:Nat}(h:s+n≤l.length):H3 l (s:Int) n=nQ l s n:=
 iN fun k hk=>by rw[show((s:Int)+(k:Int))=((s+k:Nat):Int)by omega,H2 (by omega)]
theorem H5 (l:List Int){s:Int}{n:Nat}(hs:0≤s)(hs':s≤1000)(hn:n≤1000):P22 (l,s,(n:Int))=some (H3 l s n):=by
 show q22 uv AW l s (n:Int)=_;unfold q22;have e:AW (l,s,(n:Int),s)=some (cond (H3 l s n) (Sum.inr ()) (Sum.inl false)):=by
  have:=kg (step:=fun x=>OD x.1 x.2.1 x.2.2.1 x.2.2.2) n (fun k=>(l,s,(n:Int),s+(k:Int))) (fun k=>fr l (s+(k:Int))) (Sum.inl false) (Sum.inr ()) (fun k hk=>by
   show ss uv l s (n:Int) (s+(k:Int))=_;unfold ss;rw[ak (aS (by omega) (by omega)),decide_eq_true (show s+(k:Int) < s+(n:Int)by omega),cond_true,H1,aa];cases fr l (s+(k:Int))with
   | false=>rfl
   | true=>
    rw[Bool.not_true,cond_false,ak (aS (by omega) (by omega)),cond_true];show some (Sum.inl (l,s,(n:Int),s+(k:Int)+1))=some (Sum.inl (l,s,(n:Int),s+((k+1:Nat):Int)));rw[show s+((k+1:Nat):Int)=s+(k:Int)+1 by omega]) (by
   show ss uv l s (n:Int) (s+(n:Int))=_;unfold ss;rw[ak (aS (by omega) (by omega)),decide_eq_false (by omega),cond_false]) (by omega)
  have h0:s+((0:Nat):Int)=s:=by omega
  simp only[h0]at this;exact this
 rw[e];cases H3 l s n <;> rfl
theorem UF (l:List Int){s n:Int}(hs:0≤s)(hs':s≤1000)(hn:0≤n)(hn':n≤1000):P23 (l,s,n)=some (gp l s n):=by
 show q23 uv l s n=_;unfold q23 gp;have f1:ah .i64 (s-1)=true:=aS (by omega) (by omega);have f2:ah .i64 (s+n)=true:=aS (by omega) (by omega);have f3:ah .i64 (s-1-1)=true:=aS (by omega) (by omega);have f4:ah .i64 (s+n+1)=true:=aS (by omega) (by omega);simp only[f1,f2,f3,f4,am,H1,aa];rw[show s-1-1=s-2 by omega];cases fr l (s-1) <;> cases fr l (s-2) <;> cases fr l (s+n) <;> cases fr l (s+n+1) <;> rfl
def pB (seats:List (List Int))(n:Nat)(g:Bool)(c:Nat×Nat):Bool:=nQ (gt seats c.1) c.2 n&&(g||!gp (gt seats c.1) (c.2:Int) (n:Int))
theorem wH (r s k:Nat):(ij r s k).length=k:=by simp[ij]
theorem oU {r m i:Nat}(h:i < m):gt (ij r 0 m) i=(r,i):=by
 simp[gt,ij,List.getD_eq_getElem?_getD,h]
theorem H6 {r n:Nat}{g:Bool}{seats:List (List Int)}(hr:r < seats.length)(hl:(gt seats r).length≤1000)(hn:n≤1000):
  L56_2 ((n:Int),cond g 1 0,(r:Int),0,seats)=some (match(ij r 0 ((gt seats r).length+1-n)).find? (pB seats n g)with
   | some c=>Sum.inl ((c.1:Int),(c.2:Int),true,seats)
   | none=>Sum.inr ((n:Int),cond g 1 0,(r:Int),seats)):=by
 rcases fY (step:=fun x=>OL x.1 x.2.1 x.2.2.1 x.2.2.2.1 x.2.2.2.2) ((gt seats r).length+1-n) (fun k=>((n:Int),cond g 1 0,(r:Int),(k:Int),seats)) (fun k=>pB seats n g (r,k)) (fun k=>Sum.inl ((r:Int),(k:Int),true,seats)) (Sum.inr ((n:Int),cond g 1 0,(r:Int),seats))
  (fun k hk _=>by
   show su P22 P23 (n:Int) (cond g 1 0) (r:Int) (k:Int) seats=_;unfold su;rw[ak (aS (by omega) (by omega)),ak (aC hr),bI,show decide ((k:Int)+(n:Int)≤(↑(List.length (gt seats r)):Int))=true from decide_eq_true (by omega),cond_true,ak (aC hr),H5 _ (by omega) (by omega) hn,aa,H4 (by omega)];unfold pB;simp only;have f3:ah .i64 ((k:Int)+1)=true:=aF (by omega);cases nQ (gt seats r) k n with
   | false=>simp only[cond_false,Bool.false_and,f3,am]; rfl
   | true=>
    cases g with
    | true=>rfl
    | false=>
     simp only[cond_true,cond_false,Bool.true_and,Bool.false_or];rw[show decide ((0:Int)=1)=false from rfl,cond_false,ak (aC hr),UF _ (by omega) (by omega) (by omega) (by omega),aa];cases gp (gt seats r) (k:Int) (n:Int)with
     | false=>rfl
     | true=>simp only[Bool.not_true,cond_false,f3,am]; rfl)
  (fun _=>by
   show su P22 P23 (n:Int) (cond g 1 0) (r:Int) (((gt seats r).length+1-n:Nat):Int) seats=_;unfold su;rw[ak (aS (by omega) (by omega)),ak (aC hr),bI,show decide ((((gt seats r).length+1-n:Nat):Int)+(n:Int)≤(↑(List.length (gt seats r)):Int))=false from decide_eq_false (by omega),cond_false])
  (by omega)with⟨k,h1,h2,h3,h4⟩ | ⟨h3,h4⟩
 ·rw[Jk (l:=ij r 0 ((gt seats r).length+1-n)) (i:=k) (by rw[wH]; exact h1) (by rw[oU h1]; exact h2) (fun j hj=>by rw[oU (by omega)]; exact h3 j hj),oU h1];exact h4
 ·rw[Jl (l:=ij r 0 ((gt seats r).length+1-n)) (fun j hj=>by rw[wH]at hj; rw[oU hj]; exact h3 j hj)];exact h4
theorem H7 {n:Nat}{g:Bool}{seats:List (List Int)}(hl:∀ r,r < seats.length→(gt seats r).length≤1000)(hs:seats.length≤1000)(hn:n≤1000):
  AX ((n:Int),cond g 1 0,0,seats)=some (match(cG seats n 0 seats.length).find? (pB seats n g)with
   | some c=>Sum.inl ((c.1:Int),(c.2:Int),true,seats)
   | none=>Sum.inr ((n:Int),cond g 1 0,seats)):=by
 have key:=cF (step:=fun x=>ON x.1 x.2.1 x.2.2.1 x.2.2.2)
  (fun x=>seats.length-x.2.2.1.toNat)
  (fun x=>∃ r,r≤seats.length∧x=((n:Int),cond g 1 0,(r:Int),seats)∧(cG seats n r (seats.length-r)).find? (pB seats n g)=(cG seats n 0 seats.length).find? (pB seats n g))
  (fun y=>y=(match(cG seats n 0 seats.length).find? (pB seats n g)with
   | some c=>Sum.inl ((c.1:Int),(c.2:Int),true,seats)
   | none=>Sum.inr ((n:Int),cond g 1 0,seats)))
  (x:=((n:Int),cond g 1 0,((0:Nat):Int),seats)) ⟨0,Nat.zero_le _,rfl,rfl⟩ (by show seats.length-_ < _; omega) (by
   rintro x ⟨r,hr,rfl,hg⟩;show(∃ s',q56_1 P22 P23 L56_2 (n:Int) (cond g 1 0) (r:Int) seats=_∧_)∨∃ y,q56_1 P22 P23 L56_2 (n:Int) (cond g 1 0) (r:Int) seats=_∧_;by_cases hrm:r < seats.length
   ·have hlr:=hl r hrm;have hstep:cG seats n r (seats.length-r)=ij r 0 ((gt seats r).length+1-n)++cG seats n (r+1) (seats.length-(r+1)):=by
     rw[show seats.length-r=(seats.length-(r+1))+1 by omega];rfl
    rw[hstep,List.find?_append]at hg;unfold q56_1;rw[show decide ((r:Int) < (↑(List.length seats):Int))=true from aN hrm,cond_true,H6 hrm hlr hn];cases hq:(ij r 0 ((gt seats r).length+1-n)).find? (pB seats n g)with
    | some c=>
     rw[hq]at hg;refine .inr ⟨_,rfl,?_⟩;rw[← hg];rfl
    | none=>
     rw[hq]at hg;left;refine⟨((n:Int),cond g 1 0,((r+1:Nat):Int),seats),?_,⟨r+1,by omega,rfl,by simpa using hg⟩,by show seats.length-((r+1:Nat):Int).toNat < seats.length-((r:Nat):Int).toNat; simp only[Int.toNat_natCast]; omega⟩;simp only[aa,elim_inr];rw[ak (aF (by omega))];rfl
   ·obtain rfl:r=seats.length:=by omega
    refine .inr ⟨Sum.inr ((n:Int),cond g 1 0,seats),?_,?_⟩
    ·unfold q56_1;rw[show decide ((seats.length:Int) < (↑(List.length seats):Int))=false from aT _,cond_false]
    ·rw[← hg,Nat.sub_self];rfl)
 obtain⟨y,h1,h2⟩:=key;rw[← h2];exact h1
theorem yU {n:Nat}{seats:List (List Int)}(hl:∀ r,r < seats.length→(gt seats r).length≤1000)(hs:seats.length≤1000)(hn:n≤1000):
  P56 ((n:Int),seats)=some (match((cG seats n 0 seats.length).find? (pB seats n false)).or ((cG seats n 0 seats.length).find? (pB seats n true))with
   | some c=>((c.1:Int),(c.2:Int),true,seats)
   | none=>(0,0,false,seats)):=by
 show q56 P22 P23 AZ (n:Int) seats=_;unfold q56;have e:AZ ((n:Int),0,seats)=some (match((cG seats n 0 seats.length).find? (pB seats n false)).or ((cG seats n 0 seats.length).find? (pB seats n true))with
   | some c=>Sum.inl ((c.1:Int),(c.2:Int),true,seats)
   | none=>Sum.inr seats):=by
  have st:∀ g:Bool,v9 (n:Int) (cond g 1 0) seats=some (match(cG seats n 0 seats.length).find? (pB seats n g)with
   | some c=>Sum.inr (Sum.inl ((c.1:Int),(c.2:Int),true,seats))
   | none=>Sum.inl ((n:Int),cond g 2 1,seats)):=fun g=>by
   show AY P22 P23 AX (n:Int) (cond g 1 0) seats=_;unfold AY;rw[show decide ((cond g 1 0:Int) < 2)=true by cases g <;> rfl,cond_true,H7 hl hs hn];cases(cG seats n 0 seats.length).find? (pB seats n g)with
   | some c=>rfl
   | none=>cases g <;> rfl
  cases h1:(cG seats n 0 seats.length).find? (pB seats n false)with
  | some c=>
   refine aQ (step:=fun x=>v9 x.1 x.2.1 x.2.2) 0 (fun _=>((n:Int),0,seats)) _ (fun i hi=>by omega) ?_ (by omega);have:=st false;rw[h1]at this;exact this
  | none=>
   cases h2:(cG seats n 0 seats.length).find? (pB seats n true)with
   | some c=>
    refine aQ (step:=fun x=>v9 x.1 x.2.1 x.2.2) 1 (fun i=>((n:Int),(i:Int),seats)) _ (fun i hi=>?_) ?_ (by omega)
    ·obtain rfl:i=0:=by omega
     have:=st false;rw[h1]at this;exact this
    ·have:=st true;rw[h2]at this;exact this
   | none=>
    refine aQ (step:=fun x=>v9 x.1 x.2.1 x.2.2) 2 (fun i=>((n:Int),(i:Int),seats)) _ (fun i hi=>?_) ?_ (by omega)
    ·rcases(show i=0∨i=1 by omega)with rfl | rfl
     ·have:=st false;rw[h1]at this;exact this
     ·have:=st true;rw[h2]at this;exact this
    ·rfl
 rw[e];cases((cG seats n 0 seats.length).find? (pB seats n false)).or ((cG seats n 0 seats.length).find? (pB seats n true)) <;> rfl
theorem qr (seats:List (List Int))(n:Nat):∀ (cs:List (Nat×Nat)) (f:bT) (b:Bool),ot seats n cs (f,b)=(match cs.find? (pB seats n false)with
  | some c=>((0,(c.1:Int),(c.2:Int),(n:Int)),true,true)
  | none=>match b,cs.find? (pB seats n true)with
   | true,_=>(f,true,false)
   | false,some c=>((0,(c.1:Int),(c.2:Int),(n:Int)),true,false)
   | false,none=>(f,false,false))
 | [],f,b=>by cases b <;> rfl
 | (r,s)::cs,f,b=>by
  simp only[ot,List.find?_cons,pB,Bool.false_or,Bool.true_or,Bool.and_true];cases hp:nQ (gt seats r) s n with
  | false=>simp only[cond_false,Bool.false_and]; rw[qr seats n cs]
  | true=>
   cases hq:gp (gt seats r) (s:Int) (n:Int)with
   | false=>simp
   | true=>
    simp only[cond_true,Bool.true_and,Bool.not_true];rw[qr seats n cs];cases cs.find? (pB seats n false)with
    | some c=>rfl
    | none=>cases b <;> rfl
theorem H8 (seats:List (List Int))(n:Nat):nS seats n=(match((cG seats n 0 seats.length).find? (pB seats n false)).or ((cG seats n 0 seats.length).find? (pB seats n true))with
  | some c=>((0,(c.1:Int),(c.2:Int),(n:Int)),true)
  | none=>((0,0,0,0),false)):=by
 unfold nS;rw[qr];cases(cG seats n 0 seats.length).find? (pB seats n false)with
 | some c=>rfl
 | none=>cases(cG seats n 0 seats.length).find? (pB seats n true) <;> rfl
theorem UG:P107 ([-1],1)=some (List.replicate 1 (-1)):=by kernel_rfl
theorem UH:P107 ([-1],2)=some (List.replicate 2 (-1)):=by kernel_rfl
theorem UI:P107 ([-1],3)=some (List.replicate 3 (-1)):=by kernel_rfl
theorem UJ:P107 ([-1],4)=some (List.replicate 4 (-1)):=by kernel_rfl
theorem UK:P107 ([-1],5)=some (List.replicate 5 (-1)):=by kernel_rfl
theorem UL:P107 ([-1],6)=some (List.replicate 6 (-1)):=by kernel_rfl
theorem UM:P107 ([-1],7)=some (List.replicate 7 (-1)):=by kernel_rfl
theorem UN:P107 ([-1],8)=some (List.replicate 8 (-1)):=by kernel_rfl
theorem UO:P107 ([-1],9)=some (List.replicate 9 (-1)):=by kernel_rfl
theorem Ll:P107 ([-1],10)=some (List.replicate 10 (-1)):=by kernel_rfl
theorem Lm:P107 ([-1],11)=some (List.replicate 11 (-1)):=by kernel_rfl
theorem Ln:P107 ([-1],12)=some (List.replicate 12 (-1)):=by kernel_rfl
theorem Lo {n:Nat}(h1:1≤n)(h2:n≤12):P107 ([-1],(n:Int))=some (List.replicate n (-1)):=by
 have:n=1∨n=2∨n=3∨n=4∨n=5∨n=6∨n=7∨n=8∨n=9∨n=10∨n=11∨n=12:=by omega
 rcases this with rfl | rfl | rfl | rfl | rfl | rfl | rfl | rfl | rfl | rfl | rfl | rfl
 ·exact UG
 ·exact UH
 ·exact UI
 ·exact UJ
 ·exact UK
 ·exact UL
 ·exact UM
 ·exact UN
 ·exact UO
 ·exact Ll
 ·exact Lm
 ·exact Ln
def cB (l:List Int):List (List Int):=l.map fun n=>List.replicate n.toNat (-1)
theorem qs {l:List Int}{k:Nat}(h:k < l.length):cB (l.take (k+1))=cB (l.take k)++[List.replicate (gt l k).toNat (-1)]:=by
 unfold cB;rw[List.take_add_one,List.getElem?_eq_getElem h,b8 h,List.map_append];rfl
theorem UP {l:List Int}{hold:Int}(hl:l.length≤1000)(hr:∀ k,k < l.length→1≤gt l k∧gt l k≤12):Cg (l,hold)=some (l,hold,cB l,[]):=by
 show q77 P107 vI (l,hold)=_;unfold q77;have e:vI (l,(l.length:Int),0,l,hold,[],[])=some (l,hold,[],cB l):=by
  refine aQ (step:=fun x=>Mf x.1 x.2.1 x.2.2.1 x.2.2.2.1 x.2.2.2.2.1 x.2.2.2.2.2.1 x.2.2.2.2.2.2) l.length (fun k=>(l,(l.length:Int),(k:Int),l,hold,cB (l.take k),[])) _ (fun k hk=>?_) ?_ (by omega)
  ·show rQ P107 l (l.length:Int) (k:Int) l hold (cB (l.take k)) []=_;unfold rQ;have h:=hr k hk;have e1:P107 ([-1],ix l (k:Int))=some (List.replicate (gt l k).toNat (-1)):=by
    rw[bI,show gt l k=(((gt l k).toNat:Nat):Int)by omega];exact Lo (by omega) (by omega)
   rw[aN hk,cond_true,ak (aC hk),e1,aa,ak (bY (by simp[cB]; omega)),ak (aF (by omega)),qs hk];rfl
  ·show rQ P107 l (l.length:Int) (l.length:Int) l hold (cB (l.take l.length)) []=_;unfold rQ;rw[aT,cond_false,List.take_length]
 rw[show(↑(List.length ((l,hold):List Int×Int).1):Int)=(l.length:Int)from rfl];show(vI (l,(l.length:Int),0,l,hold,[],[])).bind _=_;rw[e];rfl
def jN {α:Type}(f:α→α)(l:List α)(k:Nat):List α:=(l.take k).map f++l.drop k
theorem mg {α:Type}(f:α→α)(l:List α):jN f l 0=l:=by simp[jN]
theorem up {α:Type}(f:α→α)(l:List α):jN f l l.length=l.map f:=by simp[jN]
theorem prt_len {α:Type}(f:α→α)(l:List α)(k:Nat):(jN f l k).length=l.length:=by simp[jN]; omega
theorem qt {α:Type}[Inhabited α](f:α→α)(l:List α){k i:Nat}(hi:i < l.length):gt (jN f l k) i=if i < k then f (gt l i)else gt l i:=by
 simp only[gt,List.getD_eq_getElem?_getD,jN];by_cases h:i < k
 ·rw[if_pos h,List.getElem?_append_left (by simp; omega)]
  simp[List.getElem?_take,h,hi]
 ·rw[if_neg h,List.getElem?_append_right (by simp; omega)];simp only[List.length_map,List.length_take,List.getElem?_drop];congr 2;omega
theorem qu {α:Type}[Inhabited α](f:α→α)(l:List α){k:Nat}(h:k < l.length):jN f l (k+1)=(jN f l k).set k (f (gt l k)):=by
 refine jE (by simp[prt_len]) fun i hi=>?_;rw[prt_len]at hi;rw[qt f l hi,dC _ _ _ _ (by rw[prt_len]; exact h),qt f l hi];by_cases e:k=i
 ·subst e; rw[if_pos rfl,if_pos (by omega)]
 ·rw[if_neg e];by_cases h2:i < k
  ·rw[if_pos h2,if_pos (by omega)]
  ·rw[if_neg h2,if_neg (by omega)]
theorem nv {α:Type}[Inhabited α](l:List α){k:Nat}(h:k < l.length):l.set k (gt l k)=l:=by
 rw[b8 h]; exact List.set_getElem_self h
def kA (n v:Int):Int:=if v=n then -1 else v
theorem Lp (n:Int)(l:List Int){k:Nat}(h:k < l.length):jN (kA n) l (k+1)=cond (decide (gt l k=n)) ((jN (kA n) l k).set k (-1)) (jN (kA n) l k):=by
 rw[qu _ _ h];unfold kA;by_cases e:gt l k=n
 ·rw[decide_eq_true e,cond_true,if_pos e]
 ·rw[decide_eq_false e,cond_false,if_neg e];have:=nv (jN (kA n) l k) (k:=k) (by rw[prt_len]; exact h);rw[qt _ _ h,if_neg (by omega)]at this;exact this
def jd (n:Int)(seats:List (List Int)):List (List Int):=seats.map fun l=>l.map (kA n)
abbrev nT:Type:=Int×Int×Int×Int
theorem yV {n st:Int}{r:Nat}{seats:List (List Int)}{pl:List nT}{sn vn:List Int}(hr:r < seats.length)(hl:(gt seats r).length≤1000):
  l8 (n,st,(r:Int),0,seats,pl,sn,vn)=some (n,st,(r:Int),seats.set r ((gt seats r).map (kA n)),pl,sn,vn):=by
 have hset:∀ x,gt (seats.set r x) r=x:=fun x=>by rw[dC _ _ _ _ hr,if_pos rfl]
 have h0:seats=seats.set r (jN (kA n) (gt seats r) 0):=by rw[mg,nv _ hr]
 have hrl:∀ x,r < (seats.set r x).length:=fun x=>by rw[List.length_set]; exact hr
 have key:=aQ (step:=fun x=>A5 x.1 x.2.1 x.2.2.1 x.2.2.2.1 x.2.2.2.2.1 x.2.2.2.2.2.1 x.2.2.2.2.2.2.1 x.2.2.2.2.2.2.2) (gt seats r).length (fun k=>(n,st,(r:Int),(k:Int),seats.set r (jN (kA n) (gt seats r) k),pl,sn,vn)) (n,st,(r:Int),seats.set r ((gt seats r).map (kA n)),pl,sn,vn)
  (fun k hk=>by
   show kh n st (r:Int) (k:Int) (seats.set r (jN (kA n) (gt seats r) k)) pl sn vn=_;unfold kh;have hkl:k < (jN (kA n) (gt seats r) k).length:=by rw[prt_len]; exact hk
   have f1:ah .i64 ((k:Int)+1)=true:=aF (by omega);simp only[bI,hset,aC (hrl _),aC hkl,am,f1];rw[show decide ((k:Int) < (↑(List.length (jN (kA n) (gt seats r) k)):Int))=true from aN hkl,cond_true,qt _ _ hk,if_neg (Nat.lt_irrefl k),Lp n _ hk];cases decide (gt (gt seats r) k=n)with
   | false=>rfl
   | true=>
    rw[cond_true,cond_true,show((r:Int).toNat)=r from rfl,show((k:Int).toNat)=k from rfl,List.set_set];rfl)
  (by
   show kh n st (r:Int) ((gt seats r).length:Int) (seats.set r (jN (kA n) (gt seats r) (gt seats r).length)) pl sn vn=_;unfold kh;rw[ak (aC (hrl _)),bI,hset,up];rw[show decide (((gt seats r).length:Int) < (↑(List.length ((gt seats r).map (kA n))):Int))=false by rw[List.length_map]; exact aT _,cond_false])
  (by omega)
 simp only[mg,nv _ hr]at key;exact key
theorem yW {n st:Int}{seats:List (List Int)}{pl:List nT}{sn vn:List Int}(hs:seats.length≤1000)(hl:∀ r,r < seats.length→(gt seats r).length≤1000):
  oP (n,st,0,seats,pl,sn,vn)=some (n,st,jd n seats,pl,sn,vn):=by
 have key:=aQ (step:=fun x=>A7 x.1 x.2.1 x.2.2.1 x.2.2.2.1 x.2.2.2.2.1 x.2.2.2.2.2.1 x.2.2.2.2.2.2) seats.length (fun k=>(n,st,(k:Int),jN (fun l=>l.map (kA n)) seats k,pl,sn,vn)) (n,st,jd n seats,pl,sn,vn)
  (fun k hk=>by
   show kj l8 n st (k:Int) (jN (fun l=>l.map (kA n)) seats k) pl sn vn=_;unfold kj;have hkl:k < (jN (fun l=>l.map (kA n)) seats k).length:=by rw[prt_len]; exact hk
   have hg:gt (jN (fun l=>l.map (kA n)) seats k) k=gt seats k:=by rw[qt _ _ hk,if_neg (Nat.lt_irrefl k)]
   rw[show decide ((k:Int) < (↑(List.length (jN (fun l=>l.map (kA n)) seats k)):Int))=true from aN hkl,cond_true,yV hkl (by rw[hg]; exact hl k hk),aa];simp only;rw[ak (aF (by omega)),hg,qu _ _ hk];rfl)
  (by
   show kj l8 n st (seats.length:Int) (jN (fun l=>l.map (kA n)) seats seats.length) pl sn vn=_;unfold kj;rw[up,show decide ((seats.length:Int) < (↑(List.length (seats.map fun l=>l.map (kA n))):Int))=false by rw[List.length_map]; exact aT _,cond_false];rfl)
  (by omega)
 simp only[mg]at key;exact key
theorem wI {n:Nat}{st:Int}{seats:List (List Int)}{pl:List nT}{sn vn:List Int}(hs:seats.length≤1000)(hl:∀ r,r < seats.length→(gt seats r).length≤1000)(hn:n < pl.length):
  cp ((n:Int),st,seats,pl,sn,vn)=some (jd (n:Int) seats,pl.set n (st,-1,-1,(gt pl n).2.2.2),sn,vn):=by
 show A8 oP (n:Int) st seats pl sn vn=_;unfold A8;rw[yW hs hl,aa];simp only;rw[ak (aC hn),ak (aC hn),bI];rfl
def ge (hold minute:Int)(pl:List nT)(sn:List Int)(i:Nat):Bool:=decide ((gt pl i).1=2)&&decide (gt sn i+hold≤minute)
def lapV (d:Nat→Bool)(k:Nat)(v:Int):Int:=if 0≤v∧v < (k:Int)∧d v.toNat=true then -1 else v
def gk (d:Nat→Bool)(pl:List nT)(k:Nat):List nT:=(List.range pl.length).map fun i=>if i < k∧d i=true then(4,-1,-1,(gt pl i).2.2.2)else gt pl i
theorem lapV_zero (d:Nat→Bool)(v:Int):lapV d 0 v=v:=by unfold lapV; rw[if_neg (by omega)]
theorem sF (d:Nat→Bool)(k:Nat)(v:Int):lapV d (k+1) v=cond (d k) (kA (k:Int) (lapV d k v)) (lapV d k v):=by
 unfold lapV kA;by_cases h1:0≤v∧v < (k:Int)∧d v.toNat=true
 ·rw[if_pos h1,if_pos ⟨h1.1,by omega,h1.2.2⟩,if_neg (by omega)];cases d k <;> rfl
 ·rw[if_neg h1];by_cases h2:v=(k:Int)
  ·subst h2;cases hd:d k with
   | true=>rw[if_pos ⟨by omega,by omega,by simpa using hd⟩,if_pos rfl]; rfl
   | false=>rw[if_neg (by rintro⟨_,_,h⟩; rw[show((k:Int).toNat)=k from rfl,hd]at h; cases h)]; rfl
  ·rw[if_neg (by rintro⟨a,b,c⟩; exact h1 ⟨a,by omega,c⟩),if_neg h2];cases d k <;> rfl
def lapS (d:Nat→Bool)(seats:List (List Int))(k:Nat):List (List Int):=seats.map fun l=>l.map (lapV d k)
theorem CE (d:Nat→Bool)(seats:List (List Int)):lapS d seats 0=seats:=by
 unfold lapS;rw[show(fun l:List Int=>l.map (lapV d 0))=id from funext fun l=>by rw[show lapV d 0=id from funext (lapV_zero d)]; simp]
 simp
theorem CF (d:Nat→Bool)(seats:List (List Int))(k:Nat):lapS d seats (k+1)=cond (d k) (jd (k:Int) (lapS d seats k)) (lapS d seats k):=by
 unfold lapS jd;cases hd:d k with
 | true=>
  rw[cond_true,List.map_map];refine List.map_congr_left fun l _=>?_;simp only[Function.comp,List.map_map];refine List.map_congr_left fun v _=>?_;rw[sF,hd]; rfl
 | false=>
  rw[cond_false];refine List.map_congr_left fun l _=>List.map_congr_left fun v _=>?_;rw[sF,hd]; rfl
theorem lapP_len (d:Nat→Bool)(pl:List nT)(k:Nat):(gk d pl k).length=pl.length:=by simp[gk]
theorem iT (d:Nat→Bool)(pl:List nT){k i:Nat}(h:i < pl.length):gt (gk d pl k) i=if i < k∧d i=true then(4,-1,-1,(gt pl i).2.2.2)else gt pl i:=by
 simp only[gt,gk,List.getD_eq_getElem?_getD]
 simp[h]
theorem CG (d:Nat→Bool)(pl:List nT):gk d pl 0=pl:=
 jE (lapP_len _ _ _) fun i hi=>by rw[lapP_len]at hi; rw[iT _ _ hi,if_neg (by omega)]
theorem CH (d:Nat→Bool)(pl:List nT){k:Nat}(h:k < pl.length):gk d pl (k+1)=cond (d k) ((gk d pl k).set k (4,-1,-1,(gt (gk d pl k) k).2.2.2)) (gk d pl k):=by
 refine jE (by cases d k <;> simp[lapP_len]) fun i hi=>?_;rw[lapP_len]at hi;have hg:gt (gk d pl k) k=gt pl k:=by rw[iT _ _ h,if_neg (by omega)]
 rw[iT _ _ hi,hg];cases hd:d k with
 | true=>
  rw[cond_true,dC _ _ _ _ (by rw[lapP_len]; exact h),iT _ _ hi];by_cases e:k=i
  ·subst e; rw[if_pos rfl,if_pos ⟨by omega,hd⟩]
  ·rw[if_neg e];by_cases h2:i < k∧d i=true
   ·rw[if_pos h2,if_pos ⟨by omega,h2.2⟩]
   ·rw[if_neg h2,if_neg (by rintro⟨a,b⟩; exact h2 ⟨by omega,b⟩)]
 | false=>
  rw[cond_false,iT _ _ hi];by_cases h2:i < k∧d i=true
  ·rw[if_pos h2,if_pos ⟨by omega,h2.2⟩]
  ·rw[if_neg h2,if_neg (by
    rintro⟨a,b⟩;have:i≠k:=fun e=>by rw[e,hd]at b; cases b
    exact h2 ⟨by omega,b⟩)]
theorem qg (d:Nat→Bool)(seats:List (List Int))(k:Nat):(lapS d seats k).length=seats.length:=by simp[lapS]
theorem Hg (d:Nat→Bool)(seats:List (List Int)){k r:Nat}(h:r < seats.length):gt (lapS d seats k) r=(gt seats r).map (lapV d k):=by
 rw[b8 (by rw[qg]; exact h),b8 h]
 simp[lapS]
theorem Hh {minute hold:Int}{rows:List Int}{seats:List (List Int)}{pl:List nT}{sn vn:List Int}(hs:seats.length≤1000)(hl:∀ r,r < seats.length→(gt seats r).length≤1000)(hn:sn.length=pl.length)(hp:pl.length≤1000)
  (hh:0≤hold∧hold≤100000) (hsn:∀ i,i < pl.length→0≤gt sn i∧gt sn i≤100000) :
  dV ((rows,hold),minute,seats,pl,sn,vn)=some (lapS (ge hold minute pl sn) seats pl.length,gk (ge hold minute pl sn) pl pl.length,sn,vn):=by
 show Be cp oQ (rows,hold) minute seats pl sn vn=_;unfold Be;have e:oQ (minute,0,(rows,hold),seats,pl,sn,vn)=some ((rows,hold),lapS (ge hold minute pl sn) seats pl.length,gk (ge hold minute pl sn) pl pl.length,sn,vn):=by
  have key:=aQ (step:=fun x=>Bd x.1 x.2.1 x.2.2.1 x.2.2.2.1 x.2.2.2.2.1 x.2.2.2.2.2.1 x.2.2.2.2.2.2) pl.length (fun k=>(minute,(k:Int),(rows,hold),lapS (ge hold minute pl sn) seats k,gk (ge hold minute pl sn) pl k,sn,vn)) ((rows,hold),lapS (ge hold minute pl sn) seats pl.length,gk (ge hold minute pl sn) pl pl.length,sn,vn)
   (fun k hk=>by
    show kl cp minute (k:Int) (rows,hold) (lapS (ge hold minute pl sn) seats k) (gk (ge hold minute pl sn) pl k) sn vn=_;unfold kl;have hkl:k < (gk (ge hold minute pl sn) pl k).length:=by rw[lapP_len]; exact hk
    have hg:gt (gk (ge hold minute pl sn) pl k) k=gt pl k:=by rw[iT _ _ hk,if_neg (by omega)]
    have f1:ah .i64 ((k:Int)+1)=true:=aF (by omega);have f2:ah .i64 (gt sn k+hold)=true:=aS (by have:=hsn k hk; omega) (by have:=hsn k hk; omega);have hP:=wI (n:=k) (st:=4) (seats:=lapS (ge hold minute pl sn) seats k) (pl:=gk (ge hold minute pl sn) pl k) (sn:=sn) (vn:=vn) (by rw[qg]; exact hs) (fun r hr=>by rw[qg]at hr; rw[Hg _ _ hr,List.length_map]; exact hl r hr) hkl;rw[show decide ((k:Int) < (↑(List.length (gk (ge hold minute pl sn) pl k)):Int))=true from aN hkl,cond_true,ak (aC hkl),bI,hg,CF,CH _ _ hk];have hdd:ge hold minute pl sn k=(decide ((gt pl k).1=2)&&decide (gt sn k+hold≤minute)):=rfl;rw[hdd];cases decide ((gt pl k).1=2)with
    | false=>rw[cond_false,ak f1]; rfl
    | true=>
     rw[cond_true,ak (aC (by omega)),bI];simp only;rw[ak f2];cases decide (gt sn k+hold≤minute)with
     | false=>rw[cond_false,ak f1]; rfl
     | true=>rw[cond_true,hP,aa,ak f1]; rfl)
   (by
    show kl cp minute (pl.length:Int) (rows,hold) (lapS (ge hold minute pl sn) seats pl.length) (gk (ge hold minute pl sn) pl pl.length) sn vn=_;unfold kl;rw[show decide ((pl.length:Int) < (↑(List.length (gk (ge hold minute pl sn) pl pl.length)):Int))=false by rw[lapP_len]; exact aT _,cond_false])
   (by omega)
  simp only[CE,CG]at key;exact key
 rw[e];rfl
abbrev im:Type:=Int×Int×Int×Int×Int
theorem km {α:Type}:∀ (l:List (Int×α)) (k:Int) (x y:α),dP (dP l k x) k y=dP l k y
 | [],k,x,y=>by simp[dP]
 | (k',u)::l,k,x,y=>by
  simp only[dP];by_cases h:k'=k
  ·rw[if_pos h,if_pos h]; simp[dP]
  ·rw[if_neg h,if_neg h];simp only[dP];rw[if_neg h,km l k x y]
theorem nq {α:Type}(l:List α)(s:Nat)(v:α):ct l s 0 v=l:=by simp[ct]
theorem qi {α:Type}(l:List α){s k:Nat}(v:α)(h:s+k < l.length):(ct l s k v).set (s+k) v=ct l s (k+1) v:=by
 unfold ct;rw[List.set_append,if_neg (by simp; omega),List.length_take,show s+k-min s l.length=k by omega,List.set_append,if_neg (by simp),List.length_replicate,Nat.sub_self,List.drop_eq_getElem_cons (show s+k < l.length from h)];simp only[List.set_cons_zero];rw[List.replicate_succ',List.append_assoc];rfl
theorem clrL_len' {α:Type}(l:List α)(s k:Nat)(v:α)(h:s+k≤l.length):(ct l s k v).length=l.length:=by
 unfold ct; simp; omega
theorem CI {n st:Int}{st0 since:Int}{row seat sz:Nat}{rows vain:List Int}{hold:Int}{seats:List (List Int)}{pool:List dZ}(ho:aO pool n=some (st0,(row:Int),(seat:Int),(sz:Int),since))
  (hr:row < seats.length) (hs:seat+sz≤(gt seats row).length) (hl:(gt seats row).length≤1000) :
  tP (n,st,(sz:Int),0,rows,hold,pool,seats,vain)=some (n,st,rows,hold,pool,seats.set row (ct (gt seats row) seat sz (-1)),vain):=by
 have hset:∀ x,gt (seats.set row x) row=x:=fun x=>by rw[dC _ _ _ _ hr,if_pos rfl]
 have hrl:∀ x,row < (seats.set row x).length:=fun x=>by rw[List.length_set]; exact hr
 have key:=aQ (step:=fun x=>FT x.1 x.2.1 x.2.2.1 x.2.2.2.1 x.2.2.2.2.1 x.2.2.2.2.2.1 x.2.2.2.2.2.2.1 x.2.2.2.2.2.2.2.1 x.2.2.2.2.2.2.2.2) sz (fun k=>(n,st,(sz:Int),(k:Int),rows,hold,pool,seats.set row (ct (gt seats row) seat k (-1)),vain)) (n,st,rows,hold,pool,seats.set row (ct (gt seats row) seat sz (-1)),vain)
  (fun k hk=>by
   show nf n st (sz:Int) (k:Int) rows hold pool (seats.set row (ct (gt seats row) seat k (-1))) vain=_;unfold nf
   try unfold Hb
   try unfold Ha
   try unfold C3
   try unfold C2
   try unfold yF
   try unfold pd
   have hcl:(ct (gt seats row) seat k (-1)).length=(gt seats row).length:=clrL_len' _ _ _ _ (by omega);have e1:(xl (aO pool n) (0,(0,(0,(0,0))))).2.1=(row:Int):=by rw[ho]; rfl
   have e2:(xl (aO pool n) (0,(0,(0,(0,0))))).2.2.1=(seat:Int):=by rw[ho]; rfl
   rw[aN hk,cond_true,e1,e2,ak (aC (hrl _)),ak (aS (by omega) (by omega)),bI,hset,show((seat:Int)+(k:Int))=((seat+k:Nat):Int)by omega,ak (aC (by rw[hcl]; omega)),ak (aF (by omega)),show((row:Int).toNat)=row from rfl,show(((seat+k:Nat):Int).toNat)=seat+k from rfl,qi _ _ (by omega),List.set_set];rfl)
  (by
   show nf n st (sz:Int) (sz:Int) rows hold pool (seats.set row (ct (gt seats row) seat sz (-1))) vain=_;unfold nf
   try unfold Hb
   try unfold Ha
   try unfold C3
   try unfold C2
   try unfold yF
   try unfold pd
   rw[aT,cond_false])
  (by omega)
 simp only[nq,nv _ hr]at key;exact key
theorem Bl {n st:Int}{st0 since:Int}{row seat sz:Nat}{rows vain:List Int}{hold:Int}{seats:List (List Int)}{pool:List dZ}(ho:aO pool n=some (st0,(row:Int),(seat:Int),(sz:Int),since))
  (hr:row < seats.length) (hs:seat+sz≤(gt seats row).length) (hl:(gt seats row).length≤1000) :
  P111 (n,st,rows,hold,pool,seats,vain)=some (rows,hold,dP pool n (st,-1,-1,(sz:Int),since),seats.set row (ct (gt seats row) seat sz (-1)),vain):=by
 show JP tP n st rows hold pool seats vain=_;unfold JP
 try unfold Hb
 try unfold Ha
 try unfold C3
 try unfold C2
 try unfold yF
 try unfold pd
 have e:(xl (aO pool n) (0,(0,(0,(0,0))))).2.2.2.1=(sz:Int):=by rw[ho]; rfl
 rw[e,CI ho hr hs hl,aa];simp only[ew,if_true,ho,km];rfl
theorem Bm {α:Type}[Inhabited α](l:List α){s k i:Nat}(v:α)(h:s+k≤l.length)(hi:i < l.length):gt (ct l s k v) i=if s≤i∧i < s+k then v else gt l i:=by
 simp only[gt,ct,List.getD_eq_getElem?_getD,List.getElem?_append,List.length_take,List.length_replicate,List.getElem?_replicate];by_cases h1:i < s
 ·rw[if_pos (by omega),if_neg (by omega)]
  simp[List.getElem?_take,h1]
 ·rw[if_neg (by omega),show min s l.length=s by omega];by_cases h2:i < s+k
  ·rw[if_pos (by omega),if_pos (by omega),if_pos (by omega)]; rfl
  ·rw[if_neg (by omega),if_neg (by omega),List.getElem?_drop];congr 2;omega
def Owns (seats:List (List Int))(n:Int)(R S Z:Nat):Prop:=
 R < seats.length∧S+Z≤(gt seats R).length∧∀ r i,r < seats.length→i < (gt seats r).length→(gt (gt seats r) i=n↔r=R∧S≤i∧i < S+Z)
theorem clrV_len (n:Int)(seats:List (List Int)):(jd n seats).length=seats.length:=by simp[jd]
theorem jG (n:Int)(seats:List (List Int)){r:Nat}(h:r < seats.length):gt (jd n seats) r=(gt seats r).map (kA n):=by
 rw[b8 (by rw[clrV_len]; exact h),b8 h]
 simp[jd]
theorem qj (f:Int→Int)(l:List Int){i:Nat}(h:i < l.length):gt (l.map f) i=f (gt l i):=by
 rw[b8 (by rw[List.length_map]; exact h),b8 h]
 simp
theorem Hi {seats:List (List Int)}{n:Int}{R S Z:Nat}(h:Owns seats n R S Z):seats.set R (ct (gt seats R) S Z (-1))=jd n seats:=by
 obtain⟨h1,h2,h3⟩:=h;refine jE (by rw[List.length_set,clrV_len]) fun r hr=>?_;rw[List.length_set]at hr;rw[dC _ _ _ _ h1,jG n seats hr];by_cases e:R=r
 ·subst e;rw[if_pos rfl];refine jE (by rw[clrL_len' _ _ _ _ h2,List.length_map]) fun i hi=>?_;rw[clrL_len' _ _ _ _ h2]at hi;rw[Bm _ _ h2 hi,qj _ _ hi];unfold kA;have:=h3 R i hr hi;by_cases hc:S≤i∧i < S+Z
  ·rw[if_pos hc,if_pos (this.2 ⟨rfl,hc⟩)]
  ·rw[if_neg hc,if_neg fun he=>hc (this.1 he).2]
 ·rw[if_neg e];refine jE (by rw[List.length_map]) fun i hi=>?_;rw[qj _ _ hi];unfold kA;rw[if_neg fun he=>e ((h3 r i hr hi).1 he).1.symm]
theorem Owns.clr {seats:List (List Int)}{n m:Int}{R S Z:Nat}(h:Owns seats n R S Z)(hne:n≠m)(hn:n ≠ -1):Owns (jd m seats) n R S Z:=by
 obtain⟨h1,h2,h3⟩:=h;refine⟨by rw[clrV_len]; exact h1,by rw[jG m seats h1,List.length_map]; exact h2,fun r i hr hi=>?_⟩;rw[clrV_len]at hr;rw[jG m seats hr,List.length_map]at hi;rw[jG m seats hr,qj _ _ hi,← h3 r i hr hi];unfold kA;by_cases e:gt (gt seats r) i=m
 ·rw[if_pos e];constructor
  ·intro he; exact absurd he.symm hn
  ·intro he; exact absurd (he.symm.trans e) hne
 ·rw[if_neg e]
structure Inv (seats:List (List Int)) (pool:List dZ):Prop where
 rows:∀ r,r < seats.length→(gt seats r).length≤1000
 own:∀ n o,aO pool n=some o→(o.1=2∨o.1=3)→n ≠ -1∧∃ R S Z:Nat,o.2.1=(R:Int)∧o.2.2.1=(S:Int)∧o.2.2.2.1=(Z:Int)∧Owns seats n R S Z
 since:∀ n o,aO pool n=some o→0≤o.2.2.2.2∧o.2.2.2.2≤100000
def gG (hold minute:Int)(o:im):Bool:=decide (o.1=2)&&decide (o.2.2.2.2+hold≤minute)
def jH (o:im):im:=(4,-1,-1,o.2.2.2.1,o.2.2.2.2)
theorem Inv.step {seats:List (List Int)}{pool:List dZ}(h:Inv seats pool){e:Int}{o:im}(he:aO pool e=some o)(o':im)(h1:o'.1≠2)(h2:o'.1≠3)(h3:o'.2.2.2.2=o.2.2.2.2):Inv (jd e seats) (dP pool e o'):=by
 refine⟨fun r hr=>?_,fun n q hq hs=>?_,fun n q hq=>?_⟩
 ·rw[clrV_len]at hr; rw[jG e seats hr,List.length_map]; exact h.rows r hr
 ·rw[ew]at hq;by_cases hne:e=n
  ·rw[if_pos hne]at hq; cases hq; rcases hs with hs | hs
   ·exact absurd hs h1
   ·exact absurd hs h2
  ·rw[if_neg hne]at hq;obtain⟨g1,R,S,Z,g2,g3,g4,g5⟩:=h.own n q hq hs;exact⟨g1,R,S,Z,g2,g3,g4,g5.clr (Ne.symm hne) g1⟩
 ·rw[ew]at hq;by_cases hne:e=n
  ·rw[if_pos hne]at hq; cases hq; rw[h3]; exact h.since e o he
  ·rw[if_neg hne]at hq; exact h.since n q hq
theorem Hj {minute hold:Int}{rows vain:List Int}{seats:List (List Int)}{pool:List dZ}(h:Inv seats pool)(hh:0≤hold∧hold≤100000){e:Int}{o:im}(he:aO pool e=some o):
  rR minute rows hold seats vain pool e=some (cond (gG hold minute o) (minute,rows,hold,jd e seats,vain,dP pool e (jH o)) (minute,rows,hold,seats,vain,pool)):=by
 show Au P111 minute rows hold seats vain pool e=_;unfold Au gG
 try unfold Hb
 try unfold Ha
 try unfold C3
 try unfold C2
 try unfold yF
 try unfold pd
 have hs:=h.since e o he;have d1:(xl (aO pool e) (0,(0,(0,(0,0)))))=o:=by rw[he]; rfl
 rw[d1];cases hd:decide (o.1=2)with
 | false=>rfl
 | true=>
  rw[cond_true,ak (aS (by omega) (by omega)),Bool.true_and];cases decide (o.2.2.2.2+hold≤minute)with
  | false=>rfl
  | true=>
   obtain⟨g1,R,S,Z,g2,g3,g4,g5⟩:=h.own e o he (.inl (of_decide_eq_true hd));have heo:aO pool e=some (o.1,(R:Int),(S:Int),(Z:Int),o.2.2.2.2):=by rw[he,← g2,← g3,← g4]
   rw[cond_true,Bl heo g5.1 g5.2.1 (h.rows R g5.1),Hi g5,aa];unfold jH;rw[g4];rfl
def gh (d:Int→Bool)(q:List Int)(seats:List (List Int)):List (List Int):=seats.map fun l=>l.map fun v=>if v∈q∧d v=true then -1 else v
def dH (d:Int→Bool)(q:List Int)(pool:List dZ):List dZ:=pool.map fun x=>(x.1,if x.1∈q∧d x.1=true then jH x.2 else x.2)
theorem CJ (d:Int→Bool)(q:List Int)(e:Int)(seats:List (List Int))(h1:e ≠ -1):gh d (q++[e]) seats=cond (d e) (jd e (gh d q seats)) (gh d q seats):=by
 unfold gh jd;cases hd:d e with
 | true=>
  rw[cond_true,List.map_map];refine List.map_congr_left fun l _=>?_;simp only[Function.comp,List.map_map];refine List.map_congr_left fun v _=>?_;simp only[Function.comp,kA];by_cases hq:v∈q∧d v=true
  ·rw[if_pos hq,if_pos ⟨List.mem_append_left _ hq.1,hq.2⟩,if_neg (Ne.symm h1)]
  ·rw[if_neg hq];by_cases hv:v=e
   ·rw[if_pos hv,if_pos ⟨by rw[hv]; simp,by rw[hv]; exact hd⟩]
   ·rw[if_neg hv,if_neg];rintro⟨a,b⟩;rcases List.mem_append.1 a with a | a
    ·exact hq ⟨a,b⟩
    ·exact hv (by simpa using a)
 | false=>
  rw[cond_false];refine List.map_congr_left fun l _=>List.map_congr_left fun v _=>?_;by_cases hq:v∈q∧d v=true
  ·rw[if_pos hq,if_pos ⟨List.mem_append_left _ hq.1,hq.2⟩]
  ·rw[if_neg hq,if_neg];rintro⟨a,b⟩;rcases List.mem_append.1 a with a | a
   ·exact hq ⟨a,b⟩
   ·rw[List.mem_singleton.1 a,hd]at b; cases b
theorem ko (d:Int→Bool)(q:List Int):∀ (pool:List dZ) (n:Int),aO (dH d q pool) n=(aO pool n).map fun o=>if n∈q∧d n=true then jH o else o
 | [],n=>rfl
 | (k,o)::l,n=>by
  show aO ((k,if k∈q∧d k=true then jH o else o)::dH d q l) n=_;rw[aW,aW];by_cases h:k=n
  ·subst h; rw[if_pos rfl,if_pos rfl]; rfl
  ·rw[if_neg h,if_neg h]; exact ko d q l n
theorem sG (d:Int→Bool)(q:List Int)(e:Int):∀ (pool:List dZ) (o:im),(pool.map (·.1)).Nodup→aO pool e=some o→e∉q→dH d (q++[e]) pool=cond (d e) (dP (dH d q pool) e (jH o)) (dH d q pool)
 | [],o,_,h,_=>by cases h
 | (k,u)::l,o,hn,h,hq=>by
  rw[aW]at h;have hn1:k∉l.map (·.1)∧(l.map (·.1)).Nodup:=by simpa using hn
  show(k,if k∈q++[e]∧d k=true then jH u else u)::dH d (q++[e]) l=cond (d e) (dP ((k,if k∈q∧d k=true then jH u else u)::dH d q l) e (jH o)) ((k,if k∈q∧d k=true then jH u else u)::dH d q l);by_cases hk:k=e
  ·subst hk;rw[if_pos rfl]at h;cases h;have hrest:dH d (q++[k]) l=dH d q l:=by
    unfold dH;refine List.map_congr_left fun x hx=>?_;have hne:x.1≠k:=fun e=>hn1.1 (by rw[← e]; exact List.mem_map_of_mem hx);by_cases c:x.1∈q∧d x.1=true
    ·rw[if_pos c,if_pos ⟨List.mem_append_left _ c.1,c.2⟩]
    ·rw[if_neg c,if_neg];rintro⟨a,b⟩;rcases List.mem_append.1 a with a | a
     ·exact c ⟨a,b⟩
     ·exact hne (by simpa using a)
   rw[hrest];simp only[dP,if_true];cases hd:d k with
   | true=>simp
   | false=>simp
  ·rw[if_neg hk]at h;have ih:=sG d q e l o hn1.2 h hq;have hkk:(k∈q++[e]∧d k=true)↔(k∈q∧d k=true):=by
    simp[hk]
   rw[ih];simp only[dP,hkk];rw[if_neg hk];cases d e <;> rfl
def cK (hold minute:Int)(pool:List dZ)(n:Int):Bool:=match aO pool n with
 | some o=>gG hold minute o
 | none=>false
theorem yH {minute hold:Int}{rows vain:List Int}{seats:List (List Int)}{pool:List dZ}(hh:0≤hold∧hold≤100000)(hn:(pool.map (·.1)).Nodup)(hm:∀ n o,aO pool n=some o→n ≠ -1):
  ∀ (p q:List Int),(q++p).Nodup→(∀ n∈p,∃ o,aO pool n=some o)→Inv (gh (cK hold minute pool) q seats) (dH (cK hold minute pool) q pool) →
  fq (fun(x:Int×(List Int)×Int×(List (List Int))×(List Int)×(List dZ)) e=>rR x.1 x.2.1 x.2.2.1 x.2.2.2.1 x.2.2.2.2.1 x.2.2.2.2.2 e) p (minute,rows,hold,gh (cK hold minute pool) q seats,vain,dH (cK hold minute pool) q pool) =
   some (minute,rows,hold,gh (cK hold minute pool) (q++p) seats,vain,dH (cK hold minute pool) (q++p) pool)∧Inv (gh (cK hold minute pool) (q++p) seats) (dH (cK hold minute pool) (q++p) pool)
 | [],q,_,_,hI=>by rw[List.append_nil]; exact⟨rfl,hI⟩
 | e::p,q,hq,hp,hI=>by
  obtain⟨o,ho⟩:=hp e (by simp);have heq:e∉q:=fun h=>by
   have:=List.nodup_append.1 hq;exact this.2.2 e h e (by simp) rfl
  have hg:aO (dH (cK hold minute pool) q pool) e=some o:=by
   rw[ko,ho];show some (if e∈q∧_ then _ else _)=_;rw[if_neg fun h=>heq h.1]
  have hde:cK hold minute pool e=gG hold minute o:=by unfold cK; rw[ho]
  have hsA:=CJ (cK hold minute pool) q e seats (hm e o ho);have hsL:=sG (cK hold minute pool) q e pool o hn ho heq;have hstep:rR minute rows hold (gh (cK hold minute pool) q seats) vain (dH (cK hold minute pool) q pool) e=some (minute,rows,hold,gh (cK hold minute pool) (q++[e]) seats,vain,dH (cK hold minute pool) (q++[e]) pool):=by
   rw[Hj hI hh hg,hsA,hsL,hde];cases gG hold minute o <;> rfl
  have hI':Inv (gh (cK hold minute pool) (q++[e]) seats) (dH (cK hold minute pool) (q++[e]) pool):=by
   rw[hsA,hsL];cases cK hold minute pool e with
   | false=>exact hI
   | true=>exact hI.step hg (jH o) (by show(4:Int)≠2; omega) (by show(4:Int)≠3; omega) rfl
  have ih:=yH (rows:=rows) (vain:=vain) hh hn hm p (q++[e]) (by rw[List.append_assoc]; exact hq) (fun n hn'=>hp n (List.mem_cons_of_mem _ hn')) hI';rw[List.append_assoc]at ih;refine⟨?_,ih.2⟩;show(rR minute rows hold (gh (cK hold minute pool) q seats) vain (dH (cK hold minute pool) q pool) e).bind _=_;rw[hstep,aa];exact ih.1
theorem CK (d:Int→Bool){p q:List Int}(h:p.Perm q)(seats:List (List Int)):gh d p seats=gh d q seats:=
 List.map_congr_left fun l _=>List.map_congr_left fun v _=>by simp only[h.mem_iff]
theorem CL (d:Int→Bool){p q:List Int}(h:p.Perm q)(pool:List dZ):dH d p pool=dH d q pool:=
 List.map_congr_left fun x _=>by simp only[h.mem_iff]
theorem wr (d:Int→Bool)(seats:List (List Int)):gh d [] seats=seats:=by
 unfold gh
 simp
theorem ws (d:Int→Bool)(pool:List dZ):dH d [] pool=pool:=by
 unfold dH
 simp
theorem Bn {pool:List dZ}{n:Int}(h:n∈pool.map (·.1)):∃ o,aO pool n=some o:=by
 cases hc:aO pool n with
 | some o=>exact⟨o,rfl⟩
 | none=>exact absurd h (jZ hc)
theorem Ua {minute hold:Int}{rows vain:List Int}{seats:List (List Int)}{pool:List dZ}(hI:Inv seats pool)(hh:0≤hold∧hold≤100000)(hn:(pool.map (·.1)).Nodup)(hm:∀ n o,aO pool n=some o→n ≠ -1):
  P83 (minute,rows,hold,seats,vain,pool)=some (rows,hold,gh (cK hold minute pool) (pool.map (·.1)) seats,vain,dH (cK hold minute pool) (pool.map (·.1)) pool) ∧
  Inv (gh (cK hold minute pool) (pool.map (·.1)) seats) (dH (cK hold minute pool) (pool.map (·.1)) pool):=by
 have hI0:Inv (gh (cK hold minute pool) [] seats) (dH (cK hold minute pool) [] pool):=by rw[wr,ws]; exact hI
 have key:∀ p:List Int,p.Perm (pool.map (·.1))→fq (fun(x:Int×(List Int)×Int×(List (List Int))×(List Int)×(List dZ)) e=>rR x.1 x.2.1 x.2.2.1 x.2.2.2.1 x.2.2.2.2.1 x.2.2.2.2.2 e) p (minute,rows,hold,seats,vain,pool) =
   some (minute,rows,hold,gh (cK hold minute pool) (pool.map (·.1)) seats,vain,dH (cK hold minute pool) (pool.map (·.1)) pool):=fun p hp=>by
  have:=(yH (minute:=minute) (rows:=rows) (vain:=vain) (seats:=seats) hh hn hm p [] (by simpa using hp.nodup_iff.2 hn) (fun n hn'=>Bn (hp.mem_iff.1 hn')) hI0).1;rw[wr,ws,List.nil_append,CK _ hp,CL _ hp]at this;exact this
 have hfin:=(yH (minute:=minute) (rows:=rows) (vain:=vain) (seats:=seats) hh hn hm (pool.map (·.1)) [] (by simpa using hn) (fun n hn'=>Bn hn') hI0).2;rw[List.nil_append]at hfin;refine⟨?_,hfin⟩;show q83 P111 Av minute rows hold seats vain pool=_;unfold q83;have e:Av (pool.map (·.1)) (minute,rows,hold,seats,vain,pool)=some (minute,rows,hold,gh (cK hold minute pool) (pool.map (·.1)) seats,vain,dH (cK hold minute pool) (pool.map (·.1)) pool):=by
  show rngF _ _ _=_;unfold rngF;rw[if_pos fun p hp=>(key p hp).trans (key _ (List.Perm.refl _)).symm];exact key _ (List.Perm.refl _)
 rw[e];rfl
def qR (pool:List dZ)(n:Int):List dZ:=if(aO pool n).isSome=true then pool else pool++[(n,(0,-1,-1,0,0))]
theorem qk (n:Int)(rows vain:List Int)(hold:Int)(seats:List (List Int))(pool:List dZ):n9 (n,rows,hold,seats,vain,pool)=some (n,rows,hold,seats,vain,qR pool n):=by
 show q43 n rows hold seats vain pool=_;unfold q43 qR;cases hc:(aO pool n).isSome with
 | true=>rfl
 | false=>rfl
theorem Hk (a0:Int)(h:List Int×Int)(l:List Int)(acc:List (List Int))(hl:l.length≤1000):sj (a0,0,h,l,acc)=some (a0,h,l.map (fun _=>-1),acc):=by
 have key:=aQ (step:=fun x=>Ok x.1 x.2.1 x.2.2.1 x.2.2.2.1 x.2.2.2.2) l.length (fun k=>(a0,(k:Int),h,jN (fun _=>(-1:Int)) l k,acc)) (a0,h,l.map (fun _=>(-1:Int)),acc)
  (fun k hk=>by
   show si a0 (k:Int) h (jN (fun _=>(-1:Int)) l k) acc=_;unfold si;have hkl:k < (jN (fun _=>(-1:Int)) l k).length:=by rw[prt_len]; exact hk
   rw[show decide ((k:Int) < (↑(List.length (jN (fun _=>(-1:Int)) l k)):Int))=true from aN hkl,cond_true,ak (aC hkl),ak (aF (by omega)),qu _ _ hk];rfl)
  (by
   show si a0 (l.length:Int) h (jN (fun _=>(-1:Int)) l l.length) acc=_;unfold si;rw[up,show decide ((l.length:Int) < (↑(List.length (l.map fun _=>(-1:Int))):Int))=false by rw[List.length_map]; exact aT _,cond_false])
  (by omega)
 simp only[mg]at key;exact key
theorem Hl (l:List Int)(hold:Int)(hl:l.length≤1000)(hr:∀ k,k < l.length→1≤gt l k∧gt l k≤12):AR (0,(l,hold),[])=some ((l,hold),cB l):=by
 have key:=aQ (step:=fun x=>Om x.1 x.2.1 x.2.2) l.length (fun k=>((k:Int),(l,hold),cB (l.take k))) ((l,hold),cB l)
  (fun k hk=>by
   show so sj (k:Int) (l,hold) (cB (l.take k))=_;unfold so;have h:=hr k hk;have e:sj ((k:Int),0,(l,hold),gN (gt l k).toNat 0,cB (l.take k))=some ((k:Int),(l,hold),List.replicate (gt l k).toNat (-1),cB (l.take k)):=by
    rw[Hk _ _ _ _ (by simp[gN]; omega)]
    simp[gN]
   rw[show decide ((k:Int) < (↑(List.length ((l,hold):List Int×Int).1):Int))=true from aN hk,cond_true,show List.length ((l,hold):List Int×Int).1=l.length from rfl,ak (aC hk)];simp only[bI];rw[ak (decide_eq_true (by omega)),ak (decide_eq_true (by omega)),e,aa];simp only;rw[ak (bY (by simp[cB]; omega)),ak (aF (by omega)),qs hk];rfl)
  (by
   show so sj (l.length:Int) (l,hold) (cB (l.take l.length))=_;unfold so;rw[show decide ((l.length:Int) < (↑(List.length ((l,hold):List Int×Int).1):Int))=false from aT _,cond_false,List.take_length])
  (by omega)
 exact key
theorem Hm (s:List (List Int)):AT (0,s,[],[])=some (s,List.replicate 100 (0,-1,-1,0),List.replicate 100 0):=by
 have key:=aQ (step:=fun x=>Oo x.1 x.2.1 x.2.2.1 x.2.2.2) 100 (fun k=>((k:Int),s,List.replicate k ((0:Int),(-1:Int),(-1:Int),(0:Int)),List.replicate k (0:Int))) (s,List.replicate 100 (0,-1,-1,0),List.replicate 100 0)
  (fun k hk=>by
   show AS (k:Int) s (List.replicate k (0,-1,-1,0)) (List.replicate k 0)=_;unfold AS;rw[decide_eq_true (show(k:Int)≤99 by omega),cond_true,ak (bY (by simp; omega)),ak (bY (by simp; omega)),ak (aF (by omega)),List.replicate_succ',List.replicate_succ'];rfl)
  (by rfl)
  (by omega)
 exact key
theorem Ub (l:List Int)(hold:Int)(hl:l.length≤1000)(hr:∀ k,k < l.length→1≤gt l k∧gt l k≤12):tV (l,hold)=some (cB l,List.replicate 100 (0,-1,-1,0),List.replicate 100 0):=by
 show q70 AR AT (l,hold)=_;unfold q70;rw[Hl l hold hl hr,aa];simp only;rw[Hm];rfl
theorem CM {n:Int}{s0 z0:Int}{row seat sz:Nat}{rows vain:List Int}{hold:Int}{seats:List (List Int)}{pool:List dZ}
  (hr:row < seats.length) (hs:seat+sz≤(gt seats row).length) (hl:(gt seats row).length≤1000) :
  ni (n,(sz:Int),0,rows,hold,(s0,(row:Int),(seat:Int),z0),seats,vain,pool)=some (rows,hold,(s0,(row:Int),(seat:Int),z0),seats.set row (ct (gt seats row) seat sz n),vain,pool):=by
 have hset:∀ x,gt (seats.set row x) row=x:=fun x=>by rw[dC _ _ _ _ hr,if_pos rfl]
 have hrl:∀ x,row < (seats.set row x).length:=fun x=>by rw[List.length_set]; exact hr
 have key:=aQ (step:=fun x=>FZ x.1 x.2.1 x.2.2.1 x.2.2.2.1 x.2.2.2.2.1 x.2.2.2.2.2.1 x.2.2.2.2.2.2.1 x.2.2.2.2.2.2.2.1 x.2.2.2.2.2.2.2.2) sz (fun k=>(n,(sz:Int),(k:Int),rows,hold,(s0,(row:Int),(seat:Int),z0),seats.set row (ct (gt seats row) seat k n),vain,pool)) (rows,hold,(s0,(row:Int),(seat:Int),z0),seats.set row (ct (gt seats row) seat sz n),vain,pool)
  (fun k hk=>by
   show ng n9 qQ n (sz:Int) (k:Int) rows hold (s0,(row:Int),(seat:Int),z0) (seats.set row (ct (gt seats row) seat k n)) vain pool=_;unfold ng;have hcl:(ct (gt seats row) seat k n).length=(gt seats row).length:=clrL_len' _ _ _ _ (by omega);rw[aN hk,cond_true];simp only;rw[ak (aC (hrl _)),ak (aS (by omega) (by omega)),bI,hset,show((seat:Int)+(k:Int))=((seat+k:Nat):Int)by omega,ak (aC (by rw[hcl]; omega)),ak (aF (by omega)),show((row:Int).toNat)=row from rfl,show(((seat+k:Nat):Int).toNat)=seat+k from rfl,qi _ _ (by omega),List.set_set];rfl)
  (by
   show ng n9 qQ n (sz:Int) (sz:Int) rows hold (s0,(row:Int),(seat:Int),z0) (seats.set row (ct (gt seats row) seat sz n)) vain pool=_;unfold ng;rw[aT,cond_false])
  (by omega)
 simp only[nq,nv _ hr]at key;exact key
theorem Hn {n minute hold:Int}{sz:Nat}{rows vain:List Int}{seats:List (List Int)}{pool:List dZ}{o:im}(ho:aO (qR pool n) n=some o)(h:o.1≠0):
  qI (n,(sz:Int),minute,rows,hold,seats,vain,pool)=some (rows,hold,seats,vain,qR pool n):=by
 show vO n9 qQ ni n (sz:Int) minute rows hold seats vain pool=_;unfold vO
 try unfold Hb
 try unfold Ha
 try unfold C3
 try unfold C2
 try unfold yF
 try unfold pd
 rw[qk,aa];simp only[ho];rw[show decide ((xl (some o) ((0:Int),((0:Int),((0:Int),((0:Int),(0:Int)))))).1=0)=false from decide_eq_false h];rfl
theorem K3 {n minute hold:Int}{sz:Nat}{rows vain:List Int}{seats:List (List Int)}{pool:List dZ}{o:im}(ho:aO (qR pool n) n=some o)(h:o.1=0)
  (hl:∀ r,r < seats.length→(gt seats r).length≤1000) (hs:seats.length≤1000) (hn:sz≤1000) (hb:(nS seats sz).2=false) :
  qI (n,(sz:Int),minute,rows,hold,seats,vain,pool)=some (rows,hold,seats,vain,dP (qR pool n) n (1,o.2.1,o.2.2.1,(sz:Int),minute)):=by
 show vO n9 qQ ni n (sz:Int) minute rows hold seats vain pool=_;unfold vO
 try unfold Hb
 try unfold Ha
 try unfold C3
 try unfold C2
 try unfold yF
 try unfold pd
 rw[qk,aa];simp only[ho];rw[show decide ((xl (some o) ((0:Int),((0:Int),((0:Int),((0:Int),(0:Int)))))).1=0)=true from decide_eq_true h,Bool.not_true,cond_false,yT hl hs hn,aa];simp only[hb,ho,ew,if_true,km];rfl
theorem Ho {n minute hold:Int}{sz r s:Nat}{rows vain:List Int}{seats:List (List Int)}{pool:List dZ}{o:im}(ho:aO (qR pool n) n=some o)(h:o.1=0)
  (hl:∀ r,r < seats.length→(gt seats r).length≤1000) (hs:seats.length≤1000) (hn:sz≤1000) (hb:nS seats sz=((0,(r:Int),(s:Int),(sz:Int)),true)) (hr:r < seats.length) (hz:s+sz≤(gt seats r).length) :
  qI (n,(sz:Int),minute,rows,hold,seats,vain,pool)=some (rows,hold,seats.set r (ct (gt seats r) s sz n),vain,dP (qR pool n) n (2,(r:Int),(s:Int),(sz:Int),minute)):=by
 show vO n9 qQ ni n (sz:Int) minute rows hold seats vain pool=_;unfold vO
 try unfold Hb
 try unfold Ha
 try unfold C3
 try unfold C2
 try unfold yF
 try unfold pd
 rw[qk,aa];simp only[ho];rw[show decide ((xl (some o) ((0:Int),((0:Int),((0:Int),((0:Int),(0:Int)))))).1=0)=true from decide_eq_true h,Bool.not_true,cond_false,yT hl hs hn,aa,hb];simp only[ho,ew,if_true,km];rw[Bool.not_true,cond_false,CM hr hz (hl r hr),aa];rfl
def Hp:im:=(0,-1,-1,0,0)
def jc (g:Int→im)(n:Int)(o:im):Int→im:=fun m=>if m=n then o else g m
abbrev HM:Type:=List (List Int)×(Int→im)×List Int
def yI (hold minute:Int)(g:Int→im)(v:Int):Int:=if gG hold minute (g v)=true then -1 else v
def oq (hold minute:Int)(g:Int→im):Int→im:=fun n=>if gG hold minute (g n)=true then jH (g n)else g n
def lapM (hold minute:Int)(x:HM):HM:=(x.1.map fun l=>l.map (yI hold minute x.2.1),oq hold minute x.2.1,x.2.2)
def bO (seats:List (List Int))(n:Nat):Option (Nat×Nat):=((cG seats n 0 seats.length).find? (pB seats n false)).or ((cG seats n 0 seats.length).find? (pB seats n true))
def yJ (x:HM)(n:Int)(sz:Nat)(at':Int):HM:=
 if(x.2.1 n).1=0 then
  (match bO x.1 sz with
   | none=>(x.1,jc x.2.1 n (1,-1,-1,(sz:Int),at'),x.2.2)
   | some c=>(x.1.set c.1 (ct (gt x.1 c.1) c.2 sz n),jc x.2.1 n (2,(c.1:Int),(c.2:Int),(sz:Int),at'),x.2.2))
 else x
def yK (x:HM)(n:Int):HM:=if(x.2.1 n).1=2 then(x.1,jc x.2.1 n (3,(x.2.1 n).2),x.2.2)else(x.1,x.2.1,x.2.2++[n])
def held (o:im):Prop:=o.1=2∨o.1=3
instance (o:im):Decidable (held o):=inferInstanceAs (Decidable (_∨_))
def nr (x:HM)(n:Int):HM:=if held (x.2.1 n)then(jd n x.1,jc x.2.1 n (5,-1,-1,(x.2.1 n).2.2.2.1,(x.2.1 n).2.2.2.2),x.2.2)else x
def fw (x:HM)(c:aB):HM:=if c.2.2.1=1 then yJ x c.2.2.2.1 c.2.2.2.2.toNat c.2.1 else if c.2.2.1=2 then yK x c.2.2.2.1 else nr x c.2.2.2.1
def bk (c:aB):Prop:=(0≤c.1∧c.1≤99)∧(0≤c.2.1∧c.2.1≤9999)∧(c.2.2.1=1∧1≤c.2.2.2.2∧c.2.2.2.2≤12∨(c.2.2.1=2∨c.2.2.1=3)∧c.2.2.2.2=0)∧(0≤c.2.2.2.1∧c.2.2.2.1≤99)
structure IM (lens:List Nat) (x:HM):Prop where
 shp:x.1.map List.length=lens
 own:∀ n,held (x.2.1 n)→∃ R S Z:Nat,(x.2.1 n).2.1=(R:Int)∧(x.2.1 n).2.2.1=(S:Int)∧(x.2.1 n).2.2.2.1=(Z:Int)∧Owns x.1 n R S Z∧1≤Z∧Z≤12
 occ:∀ r i,r < x.1.length→i < (gt x.1 r).length→gt (gt x.1 r) i = -1∨held (x.2.1 (gt (gt x.1 r) i))
 dom:∀ n,(n < 0∨99 < n)→x.2.1 n=Hp
 st:∀ n,x.2.1 n=Hp∨(1≤(x.2.1 n).1∧(x.2.1 n).1≤5∧(held (x.2.1 n)∨((x.2.1 n).2.1 = -1∧(x.2.1 n).2.2.1 = -1))∧0≤(x.2.1 n).2.2.2.2∧(x.2.1 n).2.2.2.2≤9999)
theorem ii {lens:List Nat}{x:HM}(h:IM lens x){n:Int}(hn:held (x.2.1 n)):0≤n∧n≤99:=by
 refine⟨?_,?_⟩
 ·by_cases c:0≤n
  ·exact c
  ·rw[h.dom n (.inl (by omega))]at hn; rcases hn with e | e <;> cases e
 ·by_cases c:n≤99
  ·exact c
  ·rw[h.dom n (.inr (by omega))]at hn; rcases hn with e | e <;> cases e
theorem oR (f:Int→Int)(seats:List (List Int)){r:Nat}(h:r < seats.length):gt (seats.map fun l=>l.map f) r=(gt seats r).map f:=by
 rw[b8 (by rw[List.length_map]; exact h),b8 h]
 simp
theorem K4 (f:Int→Int)(seats:List (List Int)):(seats.map fun l=>l.map f).map List.length=seats.map List.length:=by
 rw[List.map_map];exact List.map_congr_left fun l _=>by simp
theorem Owns.map {seats:List (List Int)}{n:Int}{R S Z:Nat}(h:Owns seats n R S Z){f:Int→Int}(hf:∀ v,f v=n↔v=n):Owns (seats.map fun l=>l.map f) n R S Z:=by
 obtain⟨h1,h2,h3⟩:=h;refine⟨by rw[List.length_map]; exact h1,by rw[oR f seats h1,List.length_map]; exact h2,fun r i hr hi=>?_⟩;rw[List.length_map]at hr;rw[oR f seats hr,List.length_map]at hi;rw[oR f seats hr,qj _ _ hi,hf,h3 r i hr hi]
theorem IM.mp {lens:List Nat}{x:HM}(h:IM lens x){f:Int→Int}{g:Int→im}{vain:List Int}(h1:∀ n,held (g n)→held (x.2.1 n)∧(g n).2.1=(x.2.1 n).2.1∧(g n).2.2.1=(x.2.1 n).2.2.1∧(g n).2.2.2.1=(x.2.1 n).2.2.2.1∧∀ v,f v=n↔v=n)
  (h2:∀ v,held (x.2.1 v)→f v = -1∨(f v=v∧held (g v))) (h2':f (-1) = -1)
  (h3:∀ n,(n < 0∨99 < n)→g n=Hp)
  (h4:∀ n,g n=Hp∨(1≤(g n).1∧(g n).1≤5∧(held (g n)∨((g n).2.1 = -1∧(g n).2.2.1 = -1))∧0≤(g n).2.2.2.2∧(g n).2.2.2.2≤9999)):IM lens (x.1.map fun l=>l.map f,g,vain):=by
 refine⟨by rw[← h.shp]; exact K4 f x.1,fun n hn=>?_,fun r i hr hi=>?_,h3,h4⟩
 ·obtain⟨q1,q2,q3,q4,q5⟩:=h1 n hn;obtain⟨R,S,Z,e1,e2,e3,e4,e5⟩:=h.own n q1;exact⟨R,S,Z,q2.trans e1,q3.trans e2,q4.trans e3,e4.map q5,e5⟩
 ·simp only[List.length_map]at hr;simp only[oR f x.1 hr,List.length_map]at hi ⊢;rw[qj _ _ hi];rcases h.occ r i hr hi with e | e
  ·left; rw[e,h2']
  ·rcases h2 _ e with q | ⟨q,q'⟩
   ·exact .inl q
   ·right; rw[q]; exact q'
theorem ug (o:im):¬ held (jH o):=by
 rintro(e | e)
 ·exact absurd (show(4:Int)=2 from e) (by decide)
 ·exact absurd (show(4:Int)=3 from e) (by decide)
theorem ql (hold minute:Int):gG hold minute Hp=false:=rfl
theorem IM.lap {lens:List Nat}{x:HM}(h:IM lens x)(hold minute:Int):IM lens (lapM hold minute x):=by
 have hneg:x.2.1 (-1)=Hp:=h.dom (-1) (.inl (by decide));refine h.mp (f:=yI hold minute x.2.1) (g:=oq hold minute x.2.1) (fun n hn=>?_) (fun v hv=>?_) ?_ (fun n hn=>?_) (fun n=>?_)
 ·unfold oq at hn ⊢;cases hd:gG hold minute (x.2.1 n)with
  | true=>rw[hd,if_pos rfl]at hn; exact absurd hn (ug _)
  | false=>
   simp only[hd,Bool.false_eq_true,if_false]at hn ⊢;refine⟨hn,trivial,trivial,trivial,fun v=>?_⟩;have hd0:=ii h hn;unfold yI;by_cases c:gG hold minute (x.2.1 v)=true
   ·rw[if_pos c];exact⟨fun e=>by omega,fun e=>by rw[e,hd]at c; cases c⟩
   ·rw[if_neg c]
 ·unfold yI oq;by_cases c:gG hold minute (x.2.1 v)=true
  ·rw[if_pos c]; exact .inl rfl
  ·simp only[if_neg c]; exact .inr ⟨trivial,hv⟩
 ·unfold yI;rw[hneg,ql];rfl
 ·show oq hold minute x.2.1 n=Hp;unfold oq;rw[h.dom n hn,ql];rfl
 ·unfold oq;by_cases c:gG hold minute (x.2.1 n)=true
  ·simp only[if_pos c];rcases h.st n with e | ⟨e1,e2,e3,e4,e5⟩
   ·rw[e]at c; cases c
   ·right;exact⟨by show(1:Int)≤4; omega,by show(4:Int)≤5; omega,.inr ⟨rfl,rfl⟩,e4,e5⟩
  ·simp only[if_neg c]; exact h.st n
theorem Hq (n:Int)(seats:List (List Int)):jd n seats=seats.map fun l=>l.map (kA n):=rfl
theorem IM.drp {lens:List Nat}{x:HM}(h:IM lens x)(n:Int):IM lens (nr x n):=by
 unfold nr;by_cases hh:held (x.2.1 n)
 ·rw[if_pos hh];have hd:=ii h hh;have hne:∀ m,m≠n→jc x.2.1 n (5,-1,-1,(x.2.1 n).2.2.2.1,(x.2.1 n).2.2.2.2) m=x.2.1 m:=fun m hm=>if_neg hm;have heq:jc x.2.1 n (5,-1,-1,(x.2.1 n).2.2.2.1,(x.2.1 n).2.2.2.2) n=(5,-1,-1,(x.2.1 n).2.2.2.1,(x.2.1 n).2.2.2.2):=if_pos rfl;have hnh:¬ held ((5,-1,-1,(x.2.1 n).2.2.2.1,(x.2.1 n).2.2.2.2):im):=by
   rintro(e | e)
   ·exact absurd (show(5:Int)=2 from e) (by decide)
   ·exact absurd (show(5:Int)=3 from e) (by decide)
  rw[Hq];refine h.mp (fun m hm=>?_) (fun v hv=>?_) (by unfold kA; rw[if_neg (by omega)]) (fun m hm=>?_) (fun m=>?_)
  ·by_cases c:m=n
   ·subst c; rw[heq]at hm; exact absurd hm hnh
   ·rw[hne m c]at hm ⊢;refine⟨hm,rfl,rfl,rfl,fun v=>?_⟩;have:=ii h hm;unfold kA;by_cases c2:v=n
    ·rw[if_pos c2]; omega
    ·rw[if_neg c2]
  ·unfold kA;by_cases c:v=n
   ·rw[if_pos c]; exact .inl rfl
   ·rw[if_neg c,hne v c]; exact .inr ⟨rfl,hv⟩
  ·rw[hne m (by omega)]; exact h.dom m hm
  ·by_cases c:m=n
   ·subst c;rw[heq];rcases h.st m with e | ⟨e1,e2,e3,e4,e5⟩
    ·rw[e]at hh; rcases hh with e | e <;> cases e
    ·right;exact⟨by show(1:Int)≤5; omega,by show(5:Int)≤5; omega,.inr ⟨rfl,rfl⟩,e4,e5⟩
   ·rw[hne m c]; exact h.st m
 ·rw[if_neg hh]; exact h
theorem IM.pay {lens:List Nat}{x:HM}(h:IM lens x)(n:Int):IM lens (yK x n):=by
 unfold yK;by_cases hh:(x.2.1 n).1=2
 ·rw[if_pos hh];have hn:held (x.2.1 n):=.inl hh;have hd:=ii h hn;have hne:∀ m,m≠n→jc x.2.1 n (3,(x.2.1 n).2) m=x.2.1 m:=fun m hm=>if_neg hm;have heq:jc x.2.1 n (3,(x.2.1 n).2) n=(3,(x.2.1 n).2):=if_pos rfl;have hid:x.1=x.1.map fun l=>l.map id:=by simp
  have:=h.mp (f:=id) (g:=jc x.2.1 n (3,(x.2.1 n).2)) (vain:=x.2.2) (fun m hm=>?_) (fun v hv=>?_) rfl (fun m hm=>?_) (fun m=>?_)
  ·rw[← hid]at this; exact this
  ·by_cases c:m=n
   ·subst c; rw[heq]; exact⟨hn,rfl,rfl,rfl,fun v=>Iff.rfl⟩
   ·rw[hne m c]at hm ⊢; exact⟨hm,rfl,rfl,rfl,fun v=>Iff.rfl⟩
  ·right;refine⟨rfl,?_⟩;by_cases c:v=n
   ·subst c; rw[heq]; exact .inr rfl
   ·rw[hne v c]; exact hv
  ·rw[hne m (by omega)]; exact h.dom m hm
  ·by_cases c:m=n
   ·subst c;rw[heq];rcases h.st m with e | ⟨e1,e2,e3,e4,e5⟩
    ·rw[e]at hh; cases hh
    ·right;exact⟨by show(1:Int)≤3; omega,by show(3:Int)≤5; omega,.inl (.inr rfl),e4,e5⟩
   ·rw[hne m c]; exact h.st m
 ·rw[if_neg hh]; exact⟨h.shp,h.own,h.occ,h.dom,h.st⟩
theorem wt {seats:List (List Int)}{n:Nat}{c:Nat×Nat}:c∈cG seats n 0 seats.length↔c.1 < seats.length∧c.2+n≤(gt seats c.1).length:=by
 obtain⟨r,s⟩:=c;unfold cG ij;simp only[List.mem_flatMap,List.mem_map,List.mem_range'_1,Prod.mk.injEq];constructor
 ·rintro⟨r',⟨_,h1⟩,s',⟨_,h2⟩,rfl,rfl⟩;omega
 ·rintro⟨h1,h2⟩;exact⟨r,by omega,s,by omega,rfl,rfl⟩
theorem kq {l:List Int}{s n:Nat}:nQ l s n=true↔∀ i,s≤i→i < s+n→gt l i = -1:=by
 unfold nQ;rw[dz];constructor
 ·intro h i h1 h2;have:=h (i-s) (by omega);rw[show s+(i-s)=i by omega]at this;exact of_decide_eq_true this
 ·intro h k hk;exact decide_eq_true (h (s+k) (by omega) (by omega))
theorem oS {seats:List (List Int)}{n:Nat}{c:Nat×Nat}(h:bO seats n=some c):c.1 < seats.length∧c.2+n≤(gt seats c.1).length∧nQ (gt seats c.1) c.2 n=true:=by
 unfold bO at h;have key:∀ g,(cG seats n 0 seats.length).find? (pB seats n g)=some c→c.1 < seats.length∧c.2+n≤(gt seats c.1).length∧nQ (gt seats c.1) c.2 n=true:=fun g hg=>by
  have h1:=wt.1 (List.mem_of_find?_eq_some hg);have h2:=List.find?_some hg;unfold pB at h2;simp only[Bool.and_eq_true]at h2;exact⟨h1.1,h1.2,h2.1⟩
 cases h1:(cG seats n 0 seats.length).find? (pB seats n false)with
 | some d=>rw[h1]at h; cases h; exact key false h1
 | none=>rw[h1]at h; exact key true h
theorem K5 {seats:List (List Int)}{n:Nat}(h:bO seats n=none){c:Nat×Nat}(h1:c.1 < seats.length)(h2:c.2+n≤(gt seats c.1).length):nQ (gt seats c.1) c.2 n=false:=by
 unfold bO at h;rw[Option.or_eq_none_iff]at h;have:=List.find?_eq_none.1 h.2 c (wt.2 ⟨h1,h2⟩);unfold pB at this
 simpa using this
theorem qm {seats:List (List Int)}{R S Z:Nat}{n:Int}(h1:R < seats.length)(h2:S+Z≤(gt seats R).length){r i:Nat}(hr:r < seats.length)(hi:i < (gt seats r).length):
  gt (gt (seats.set R (ct (gt seats R) S Z n)) r) i=if r=R∧S≤i∧i < S+Z then n else gt (gt seats r) i:=by
 rw[dC _ _ _ _ h1];by_cases c:R=r
 ·subst c;rw[if_pos rfl,Bm _ _ h2 hi];by_cases c2:S≤i∧i < S+Z
  ·rw[if_pos c2,if_pos ⟨rfl,c2⟩]
  ·rw[if_neg c2,if_neg fun e=>c2 e.2]
 ·rw[if_neg c,if_neg fun e=>c e.1.symm]
theorem kr {seats:List (List Int)}{R S Z:Nat}{n:Int}(h1:R < seats.length)(h2:S+Z≤(gt seats R).length)(r:Nat):
  (gt (seats.set R (ct (gt seats R) S Z n)) r).length=(gt seats r).length:=by
 rw[dC _ _ _ _ h1];by_cases c:R=r
 ·subst c; rw[if_pos rfl,clrL_len' _ _ _ _ h2]
 ·rw[if_neg c]
theorem yL {l:List (List Int)}{r:Nat}(h:r < l.length):gt (l.map List.length) r=(gt l r).length:=by
 rw[b8 (by rw[List.length_map]; exact h),b8 h]; simp
theorem K6 {seats:List (List Int)}{R S Z:Nat}{n:Int}(h1:R < seats.length)(h2:S+Z≤(gt seats R).length):
  (seats.set R (ct (gt seats R) S Z n)).map List.length=seats.map List.length:=by
 refine jE (by simp) fun i hi=>?_;simp only[List.length_map,List.length_set]at hi;rw[yL (by simpa using hi),yL hi,kr h1 h2]
theorem IM.ask {lens:List Nat}{x:HM}(h:IM lens x){n:Int}{sz:Nat}{at':Int}(hn:0≤n∧n≤99)(hz:1≤sz∧sz≤12)(ha:0≤at'∧at'≤9999):IM lens (yJ x n sz at'):=by
 unfold yJ;by_cases h0:(x.2.1 n).1=0
 ·rw[if_pos h0];have hnh:¬ held (x.2.1 n):=by
   rintro(e | e)
   ·rw[h0]at e; cases e
   ·rw[h0]at e; cases e
  cases hb:bO x.1 sz with
  | none=>
   simp only;have hne:∀ m,m≠n→jc x.2.1 n (1,-1,-1,(sz:Int),at') m=x.2.1 m:=fun m hm=>if_neg hm;have heq:jc x.2.1 n (1,-1,-1,(sz:Int),at') n=(1,-1,-1,(sz:Int),at'):=if_pos rfl;have hnh2:¬ held ((1,-1,-1,(sz:Int),at'):im):=by
    rintro(e | e)
    ·exact absurd (show(1:Int)=2 from e) (by decide)
    ·exact absurd (show(1:Int)=3 from e) (by decide)
   refine⟨h.shp,fun m hm=>?_,fun r i hr hi=>?_,fun m hm=>?_,fun m=>?_⟩
   ·by_cases c:m=n
    ·subst c; simp only[heq]at hm; exact absurd hm hnh2
    ·simp only[hne m c]at hm ⊢; exact h.own m hm
   ·rcases h.occ r i hr hi with e | e
    ·exact .inl e
    ·right;simp only;rw[hne _ fun c=>hnh (c▸e)];exact e
   ·simp only; rw[hne m (by omega)]; exact h.dom m hm
   ·by_cases c:m=n
    ·subst c;simp only[heq];exact .inr ⟨by omega,by omega,.inr ⟨trivial,trivial⟩,ha.1,ha.2⟩
    ·simp only[hne m c]; exact h.st m
  | some c=>
   obtain⟨R,S⟩:=c;simp only;obtain⟨b1,b2,b3⟩:=oS hb;simp only at b1 b2 b3;have hfree:=kq.1 b3;have hne:∀ m,m≠n→jc x.2.1 n (2,(R:Int),(S:Int),(sz:Int),at') m=x.2.1 m:=fun m hm=>if_neg hm;have heq:jc x.2.1 n (2,(R:Int),(S:Int),(sz:Int),at') n=(2,(R:Int),(S:Int),(sz:Int),at'):=if_pos rfl;have hcell:∀ r i,r < x.1.length→i < (gt x.1 r).length→gt (gt x.1 r) i≠n:=fun r i hr hi e=>by
    rcases h.occ r i hr hi with q | q
    ·omega
    ·exact hnh (e▸q)
   refine⟨by rw[← h.shp]; exact K6 b1 b2,fun m hm=>?_,fun r i hr hi=>?_,fun m hm=>?_,fun m=>?_⟩
   ·by_cases c:m=n
    ·subst c;simp only[heq];refine⟨R,S,sz,rfl,rfl,rfl,⟨by rw[List.length_set]; exact b1,by rw[kr b1 b2]; exact b2,fun r i hr hi=>?_⟩,hz⟩;rw[List.length_set]at hr;rw[kr b1 b2]at hi;rw[qm b1 b2 hr hi];by_cases q:r=R∧S≤i∧i < S+sz
     ·rw[if_pos q]; exact⟨fun _=>q,fun _=>rfl⟩
     ·rw[if_neg q]; exact⟨fun e=>absurd e (hcell r i hr hi),fun e=>absurd e q⟩
    ·simp only[hne m c]at hm ⊢;obtain⟨R',S',Z',e1,e2,e3,⟨o1,o2,o3⟩,e5⟩:=h.own m hm;have hm0:=ii h hm;refine⟨R',S',Z',e1,e2,e3,⟨by rw[List.length_set]; exact o1,by rw[kr b1 b2]; exact o2,fun r i hr hi=>?_⟩,e5⟩;rw[List.length_set]at hr;rw[kr b1 b2]at hi;rw[qm b1 b2 hr hi,← o3 r i hr hi];by_cases q:r=R∧S≤i∧i < S+sz
     ·rw[if_pos q];obtain⟨rfl,q2,q3⟩:=q;rw[hfree i q2 q3];exact⟨fun e=>absurd e.symm c,fun e=>by omega⟩
     ·rw[if_neg q]
   ·rw[List.length_set]at hr;simp only[kr b1 b2]at hi;simp only[qm b1 b2 hr hi];by_cases q:r=R∧S≤i∧i < S+sz
    ·rw[if_pos q]; right; rw[heq]; exact .inl rfl
    ·rw[if_neg q];rcases h.occ r i hr hi with e | e
     ·exact .inl e
     ·right; rw[hne _ (hcell r i hr hi)]; exact e
   ·simp only; rw[hne m (by omega)]; exact h.dom m hm
   ·by_cases c:m=n
    ·subst c;simp only[heq];exact .inr ⟨by omega,by omega,.inl (.inl rfl),ha.1,ha.2⟩
    ·simp only[hne m c]; exact h.st m
 ·rw[if_neg h0]; exact h
theorem IM.hear {lens:List Nat}{x:HM}(h:IM lens x){c:aB}(hc:bk c):IM lens (fw x c):=by
 unfold fw;obtain⟨h1,h2,h3,h4⟩:=hc;by_cases k1:c.2.2.1=1
 ·rw[if_pos k1];exact h.ask h4 (by omega) h2
 ·rw[if_neg k1];by_cases k2:c.2.2.1=2
  ·rw[if_pos k2]; exact h.pay _
  ·rw[if_neg k2]; exact h.drp _
def gP (pool:List dZ)(n:Int):im:=(aO pool n).getD Hp
structure PK (pool:List dZ) (g:Int→im):Prop where
 nd:(pool.map (·.1)).Nodup
 eq:∀ n,gP pool n=g n
 pos:∀ n o,aO pool n=some o→0≤n
theorem IM.len {lens:List Nat}{x:HM}(h:IM lens x):x.1.length=lens.length:=by rw[← h.shp,List.length_map]
theorem IM.row {lens:List Nat}{x:HM}(h:IM lens x)(sm:∀ k∈lens,k≤12){r:Nat}(hr:r < x.1.length):(gt x.1 r).length≤12:=by
 rw[← yL hr,h.shp];exact sm _ (cj (by rw[← h.len]; exact hr))
theorem PK.get {pool:List dZ}{g:Int→im}(k:PK pool g){n:Int}{o:im}(h:aO pool n=some o):g n=o:=by
 rw[← k.eq n]; unfold gP; rw[h]; rfl
theorem PK.inv {lens:List Nat}{x:HM}{pool:List dZ}(h:IM lens x)(k:PK pool x.2.1)(sm:∀ k∈lens,k≤12):Inv x.1 pool:=by
 refine⟨fun r hr=>by have:=h.row sm hr; omega,fun n o ho hs=>?_,fun n o ho=>?_⟩
 ·have e:=k.get ho;have hh:held (x.2.1 n):=by rw[e]; exact hs
  have hd:=ii h hh;obtain⟨R,S,Z,e1,e2,e3,e4,e5⟩:=h.own n hh;rw[e]at e1 e2 e3;exact⟨by omega,R,S,Z,e1,e2,e3,e4⟩
 ·have e:=k.get ho;rcases h.st n with q | ⟨q1,q2,q3,q4,q5⟩
  ·rw[← e,q]; exact⟨by decide,by decide⟩
  ·rw[e]at q4 q5; exact⟨q4,by omega⟩
theorem Bo (hold minute:Int)(pool:List dZ)(n:Int):cK hold minute pool n=gG hold minute (gP pool n):=by
 unfold cK gP;cases aO pool n with
 | some o=>rfl
 | none=>rfl
theorem wu {hold minute:Int}{pool:List dZ}{n:Int}(h:cK hold minute pool n=true):n∈pool.map (·.1):=by
 unfold cK at h;cases hc:aO pool n with
 | none=>rw[hc]at h; cases h
 | some o=>
  rw[aO]at hc;obtain⟨x,h1,h2⟩:=Option.map_eq_some_iff.1 hc;have:=List.find?_some h1;have e:x.1=n:=of_decide_eq_true this;rw[← e];exact List.mem_map_of_mem (List.mem_of_find?_eq_some h1)
theorem CN (d:Int→Bool)(q:List Int)(pool:List dZ):(dH d q pool).map (·.1)=pool.map (·.1):=by
 unfold dH;rw[List.map_map];rfl
theorem PK.lap {pool:List dZ}{g:Int→im}(k:PK pool g)(hold minute:Int):PK (dH (cK hold minute pool) (pool.map (·.1)) pool) (oq hold minute g):=by
 refine⟨by rw[CN]; exact k.nd,fun n=>?_,fun n o ho=>?_⟩
 ·unfold oq;rw[← k.eq n];unfold gP;rw[ko];have hk:=@wu hold minute pool n;unfold cK at hk;cases hc:aO pool n with
  | none=>rfl
  | some o=>
   rw[hc]at hk;show(if n∈pool.map (·.1)∧cK hold minute pool n=true then jH o else o)=_;rw[Bo];unfold gP;rw[hc];by_cases c:gG hold minute o=true
   ·rw[if_pos ⟨hk c,c⟩];show jH o=if gG hold minute o=true then jH o else o;rw[if_pos c]
   ·rw[if_neg fun e=>c e.2];show o=if gG hold minute o=true then jH o else o;rw[if_neg c]
 ·rw[ko]at ho;cases hc:aO pool n with
  | none=>rw[hc]at ho; cases ho
  | some o'=>exact k.pos n o' hc
theorem PY {lens:List Nat}{x:HM}{pool:List dZ}{rows:List Int}{hold minute:Int}(h:IM lens x)(k:PK pool x.2.1)(sm:∀ k∈lens,k≤12)(hh:0≤hold∧hold≤100000):
  ∃ pool',P83 (minute,rows,hold,x.1,x.2.2,pool)=some (rows,hold,(lapM hold minute x).1,(lapM hold minute x).2.2,pool')∧PK pool' (lapM hold minute x).2.1:=by
 refine⟨dH (cK hold minute pool) (pool.map (·.1)) pool,?_,k.lap hold minute⟩;rw[(Ua (k.inv h sm) hh k.nd (fun n o ho=>by have:=k.pos n o ho; omega)).1];have e:gh (cK hold minute pool) (pool.map (·.1)) x.1=(lapM hold minute x).1:=by
  unfold gh lapM;refine List.map_congr_left fun l _=>List.map_congr_left fun v _=>?_;unfold yI;rw[← k.eq v,← Bo];by_cases c:cK hold minute pool v=true
  ·rw[if_pos ⟨wu c,c⟩,if_pos c]
  ·rw[if_neg fun e=>c e.2,if_neg c]
 rw[e];rfl
theorem uh {pool:List dZ}{g:Int→im}(k:PK pool g)(n:Int):aO (qR pool n) n=some (g n):=by
 rw[← k.eq n];unfold qR gP;cases hc:aO pool n with
 | some o=>rw[if_pos (show(some o).isSome=true from rfl),hc]; rfl
 | none=>
  rw[if_neg (by decide),ez,hc,if_neg (by decide),aW,if_pos rfl];rfl
theorem oT {pool:List dZ}{g:Int→im}(k:PK pool g)(n:Int):qR (qR pool n) n=qR pool n:=by
 have:=uh k n;show(if(aO (qR pool n) n).isSome=true then qR pool n else qR pool n++[(n,(0,-1,-1,0,0))])=_;rw[this];rfl
theorem PK.of {pool:List dZ}{g:Int→im}(k:PK pool g){n:Int}(hn:0≤n):PK (qR pool n) g:=by
 unfold qR;cases hc:aO pool n with
 | some o=>rw[if_pos (show(some o).isSome=true from rfl)]; exact k
 | none=>
  rw[if_neg (by decide)];refine⟨?_,fun m=>?_,fun m o ho=>?_⟩
  ·rw[List.map_append,List.nodup_append];refine⟨k.nd,by simp,fun a ha b hb=>?_⟩;simp only[List.map_cons,List.map_nil,List.mem_singleton]at hb;subst hb;intro e;subst e;exact jZ hc ha
  ·rw[← k.eq m];unfold gP;rw[ez];cases hm:aO pool m with
   | some o=>rfl
   | none=>
    rw[if_neg (by decide),aW];by_cases c:n=m
    ·rw[if_pos c]; rfl
    ·rw[if_neg c]; rfl
  ·rw[ez]at ho;cases hm:aO pool m with
   | some o'=>exact k.pos m o' hm
   | none=>
    rw[hm,if_neg (by decide),aW]at ho;by_cases c:n=m
    ·omega
    ·rw[if_neg c]at ho; cases ho
theorem PK.put {pool:List dZ}{g:Int→im}(k:PK pool g){n:Int}{o:im}(h:aO pool n=some o)(o':im):PK (dP pool n o') (jc g n o'):=by
 refine⟨by rw[mN _ _ _ (by rw[h]; rfl)]; exact k.nd,fun m=>?_,fun m q hq=>?_⟩
 ·unfold gP jc;rw[ew];by_cases c:n=m
  ·rw[if_pos c,if_pos c.symm]; rfl
  ·rw[if_neg c,if_neg fun e=>c e.symm]; exact k.eq m
 ·rw[ew]at hq;by_cases c:n=m
  ·rw[← c]; exact k.pos n o h
  ·rw[if_neg c]at hq; exact k.pos m q hq
theorem ww:P111v1=P111:=by
 unfold P111v1 P111 F4 Xg;rfl
theorem Uc {lens:List Nat}{x:HM}{pool:List dZ}{rows:List Int}{hold:Int}(h:IM lens x)(k:PK pool x.2.1)(sm:∀ k∈lens,k≤12){n:Int}(hn:held (x.2.1 n))(hp:aO pool n=some (x.2.1 n)):
  ∃ pool',P111v1 (n,5,rows,hold,pool,x.1,x.2.2)=some (rows,hold,pool',(nr x n).1,x.2.2)∧PK pool' (nr x n).2.1:=by
 obtain⟨R,S,Z,e1,e2,e3,e4,e5⟩:=h.own n hn;have ho:aO pool n=some ((x.2.1 n).1,(R:Int),(S:Int),(Z:Int),(x.2.1 n).2.2.2.2):=by rw[hp,← e1,← e2,← e3]
 refine⟨_,by rw[ww,Bl ho e4.1 e4.2.1 (by have:=h.row sm e4.1; omega),Hi e4]; unfold nr; rw[if_pos hn],?_⟩;have:=k.put hp (5,-1,-1,(Z:Int),(x.2.1 n).2.2.2.2);unfold nr;rw[if_pos hn,e3];exact this
theorem wx (seats:List (List Int))(n:Nat):nS seats n=(match bO seats n with
  | some c=>((0,(c.1:Int),(c.2:Int),(n:Int)),true)
  | none=>((0,0,0,0),false)):=H8 seats n
theorem P84_M {lens:List Nat}{x:HM}{pool:List dZ}{rows:List Int}{hold:Int}{c:aB}(h:IM lens x)(k:PK pool x.2.1)(sm:∀ k∈lens,k≤12)(sl:lens.length≤30)(hc:bk c)(hv:x.2.2.length≤1000):
  ∃ pool',P84 (c,rows,hold,x.1,x.2.2,pool)=some (rows,hold,(fw x c).1,(fw x c).2.2,pool')∧PK pool' (fw x c).2.1:=by
 obtain⟨id,at',kind,n,size⟩:=c;obtain⟨h1,h2,h3,h4⟩:=hc;simp only at h1 h2 h3 h4;have hlen:=h.len;have kO:=k.of h4.1 (n:=n);have hg:=uh k n;have e:P84 ((id,at',kind,n,size),rows,hold,x.1,x.2.2,pool)=q84 n9 qI P111v1 (id,at',kind,n,size) rows hold x.1 x.2.2 pool:=rfl;rw[e];unfold q84 fw
 try unfold Hb
 try unfold Ha
 try unfold C3
 try unfold C2
 try unfold yF
 try unfold pd
 have hd:xl (aO (qR pool n) n) (0,(0,(0,(0,0))))=x.2.1 n:=by rw[hg]; rfl
 simp only[qk,aa,hd];rcases h3 with⟨rfl,z1,z2⟩ | ⟨hk,rfl⟩
 ·obtain⟨sz,rfl⟩:∃ sz:Nat,size=(sz:Int):=⟨size.toNat,by omega⟩;simp only[decide_true,cond_true,if_true,Int.toNat_natCast];have hoo:aO (qR (qR pool n) n) n=some (x.2.1 n):=by rw[oT k]; exact hg
  unfold yJ;by_cases h0:(x.2.1 n).1=0
  ·have hu:x.2.1 n=Hp:=by
    rcases h.st n with q | ⟨q1,_⟩
    ·exact q
    ·omega
   rw[if_pos h0];have hbm:=wx x.1 sz;cases hb:bO x.1 sz with
   | none=>
    rw[hb]at hbm;rw[K3 hoo h0 (fun r hr=>by have:=h.row sm hr; omega) (by omega) (by omega) (by rw[hbm]),aa,oT k,hu];exact⟨_,rfl,kO.put hg _⟩
   | some c=>
    obtain⟨R,S⟩:=c;rw[hb]at hbm;obtain⟨b1,b2,_⟩:=oS hb;rw[Ho hoo h0 (fun r hr=>by have:=h.row sm hr; omega) (by omega) (by omega) hbm b1 b2,aa,oT k];exact⟨_,rfl,kO.put hg _⟩
  ·rw[if_neg h0,Hn hoo h0,aa,oT k];exact⟨_,rfl,kO⟩
 ·have k1:kind≠1:=by omega
  rw[decide_eq_false k1,cond_false,if_neg k1];rcases hk with rfl | rfl
  ·simp only[decide_true,cond_true,if_true];unfold yK;by_cases hh:(x.2.1 n).1=2
   ·rw[if_pos hh,decide_eq_true hh,cond_true];exact⟨_,rfl,kO.put hg _⟩
   ·rw[if_neg hh,decide_eq_false hh,cond_false,ak (bY (by simp; omega))];exact⟨_,rfl,kO⟩
  ·rw[show decide ((3:Int)=2)=false from rfl,cond_false,cond_false,if_neg (by decide)];by_cases hh:held (x.2.1 n)
   ·obtain⟨pool',e1,e2⟩:=Uc (rows:=rows) (hold:=hold) h kO sm hh hg;refine⟨pool',?_,e2⟩;rw[e1];have hv:(nr x n).2.2=x.2.2:=by unfold nr; rw[if_pos hh]
    rw[hv];rcases hh with hh | hh
    ·rw[decide_eq_true hh]; rfl
    ·rw[hh]; rfl
   ·have n2:(x.2.1 n).1≠2:=fun e=>hh (.inl e);have n3:(x.2.1 n).1≠3:=fun e=>hh (.inr e);rw[decide_eq_false n2,decide_eq_false n3];unfold nr;rw[if_neg hh];exact⟨_,rfl,kO⟩
def prO (o:im):nT:=(o.1,o.2.1,o.2.2.1,o.2.2.2.1)
structure RK (pl:List nT) (sn:List Int) (g:Int→im):Prop where
 pln:pl.length=100
 snn:sn.length=100
 eq:∀ i:Nat,i < 100→gt pl i=prO (g (i:Int))
 sne:∀ i:Nat,i < 100→(g (i:Int)).1=2→gt sn i=(g (i:Int)).2.2.2.2
 snb:∀ i:Nat,i < 100→0≤gt sn i∧gt sn i≤9999
theorem RK.due {pl:List nT}{sn:List Int}{g:Int→im}(k:RK pl sn g)(hold minute:Int){i:Nat}(hi:i < 100):ge hold minute pl sn i=gG hold minute (g (i:Int)):=by
 unfold ge gG;rw[k.eq i hi];show(decide ((g (i:Int)).1=2)&&_)=_;by_cases c:(g (i:Int)).1=2
 ·rw[k.sne i hi c]
 ·rw[decide_eq_false c]; rfl
theorem RK.lap {lens:List Nat}{x:HM}(h:IM lens x){pl:List nT}{sn:List Int}(k:RK pl sn x.2.1)(hold minute:Int):RK (gk (ge hold minute pl sn) pl pl.length) sn (oq hold minute x.2.1):=by
 refine⟨by rw[lapP_len]; exact k.pln,k.snn,fun i hi=>?_,fun i hi hs=>?_,k.snb⟩
 ·rw[iT _ _ (by rw[k.pln]; exact hi),k.due hold minute hi,k.eq i hi];unfold oq;by_cases c:gG hold minute (x.2.1 (i:Int))=true
  ·rw[if_pos ⟨by rw[k.pln]; exact hi,c⟩,if_pos c]; rfl
  ·rw[if_neg fun e=>c e.2,if_neg c]
 ·unfold oq at hs ⊢;by_cases c:gG hold minute (x.2.1 (i:Int))=true
  ·rw[if_pos c]at hs; exact absurd hs (by show ¬ ((4:Int)=2); decide)
  ·rw[if_neg c]at hs ⊢; exact k.sne i hi hs
theorem RK.lapS {lens:List Nat}{x:HM}(h:IM lens x){pl:List nT}{sn:List Int}(k:RK pl sn x.2.1)(hold minute:Int):D.lapS (ge hold minute pl sn) x.1 pl.length=(lapM hold minute x).1:=by
 unfold D.lapS lapM;refine List.map_congr_left fun l _=>List.map_congr_left fun v _=>?_;unfold lapV yI;rw[k.pln];by_cases c:0≤v∧v < ((100:Nat):Int)
 ·obtain⟨i,rfl⟩:∃ i:Nat,v=(i:Int):=⟨v.toNat,by omega⟩;rw[Int.toNat_natCast,k.due hold minute (by omega)];by_cases c2:gG hold minute (x.2.1 (i:Int))=true
  ·rw[if_pos ⟨c.1,c.2,c2⟩,if_pos c2]
  ·rw[if_neg fun e=>c2 e.2.2,if_neg c2]
 ·rw[if_neg fun e=>c ⟨e.1,e.2.1⟩,h.dom v (by omega),ql];rfl
theorem PZ {lens:List Nat}{x:HM}{pl:List nT}{sn:List Int}{rows:List Int}{hold minute:Int}(h:IM lens x)(k:RK pl sn x.2.1)(sm:∀ k∈lens,k≤12)(sl:lens.length≤30)(hh:0≤hold∧hold≤100000):
  ∃ pl',dV ((rows,hold),minute,x.1,pl,sn,x.2.2)=some ((lapM hold minute x).1,pl',sn,(lapM hold minute x).2.2)∧RK pl' sn (lapM hold minute x).2.1:=by
 have hlen:=h.len;have hpl:=k.pln;refine⟨_,?_,k.lap h hold minute⟩;rw[Hh (by omega) (fun r hr=>by have:=h.row sm hr; omega) (by rw[k.snn,k.pln]) (by omega) hh (fun i hi=>by have:=k.snb i (by omega); omega),k.lapS h];rfl
theorem Hr {a0 a2:Int}{a1:List aB}{R S:Nat}{h:List Int×Int}{id at' kind n:Int}{sz:Nat}{seats:List (List Int)}{pl:List nT}{sn vn:List Int}(b1:R < seats.length)(b2:S+sz≤(gt seats R).length)(hl:(gt seats R).length≤1000):
  sy (a0,a1,a2,(R:Int),(S:Int),(S:Int),h,(id,at',kind,n,(sz:Int)),seats,pl,sn,vn)=some (a0,a1,a2,(R:Int),(S:Int),h,(id,at',kind,n,(sz:Int)),seats.set R (ct (gt seats R) S sz n),pl,sn,vn):=by
 have hset:∀ x,gt (seats.set R x) R=x:=fun x=>by rw[dC _ _ _ _ b1,if_pos rfl]
 have hrl:∀ x,R < (seats.set R x).length:=fun x=>by rw[List.length_set]; exact b1
 have key:=aQ (step:=fun x=>OV x.1 x.2.1 x.2.2.1 x.2.2.2.1 x.2.2.2.2.1 x.2.2.2.2.2.1 x.2.2.2.2.2.2.1 x.2.2.2.2.2.2.2.1 x.2.2.2.2.2.2.2.2.1 x.2.2.2.2.2.2.2.2.2.1 x.2.2.2.2.2.2.2.2.2.2.1 x.2.2.2.2.2.2.2.2.2.2.2) sz (fun k=>(a0,a1,a2,(R:Int),(S:Int),((S+k:Nat):Int),h,(id,at',kind,n,(sz:Int)),seats.set R (ct (gt seats R) S k n),pl,sn,vn)) (a0,a1,a2,(R:Int),(S:Int),h,(id,at',kind,n,(sz:Int)),seats.set R (ct (gt seats R) S sz n),pl,sn,vn)
  (fun k hk=>by
   show sx tV qO dV P56 cp a0 a1 a2 (R:Int) (S:Int) ((S+k:Nat):Int) h (id,at',kind,n,(sz:Int)) (seats.set R (ct (gt seats R) S k n)) pl sn vn=_;unfold sx;have hcl:(ct (gt seats R) S k n).length=(gt seats R).length:=clrL_len' _ _ _ _ (by omega);simp only;rw[ak (aS (by omega) (by omega)),decide_eq_true (show((S+k:Nat):Int) < (S:Int)+(sz:Int)by omega),cond_true,ak (aC (hrl _)),bI,hset,ak (aC (by rw[hcl]; omega)),ak (aF (by omega)),show((R:Int).toNat)=R from rfl,show(((S+k:Nat):Int).toNat)=S+k from rfl,qi _ _ (by omega),List.set_set];rfl)
  (by
   show sx tV qO dV P56 cp a0 a1 a2 (R:Int) (S:Int) ((S+sz:Nat):Int) h (id,at',kind,n,(sz:Int)) (seats.set R (ct (gt seats R) S sz n)) pl sn vn=_;unfold sx;simp only;rw[ak (aS (by omega) (by omega)),decide_eq_false (show ¬ ((S+sz:Nat):Int) < (S:Int)+(sz:Int)by omega),cond_false])
  (by omega)
 simp only[nq,nv _ b1,Nat.add_zero]at key;exact key
theorem RK.put {pl:List nT}{sn:List Int}{g:Int→im}(k:RK pl sn g){n:Nat}(hn:n < 100)(o:im)(sn':List Int)(hs:sn'.length=100)(h1:∀ i,i < 100→i≠n→gt sn' i=gt sn i)(h2:o.1=2→gt sn' n=o.2.2.2.2)(h3:0≤gt sn' n∧gt sn' n≤9999):
  RK (pl.set n (prO o)) sn' (jc g (n:Int) o):=by
 have hp:=k.pln;refine⟨by rw[List.length_set]; exact k.pln,hs,fun i hi=>?_,fun i hi hst=>?_,fun i hi=>?_⟩
 ·rw[dC _ _ _ _ (by omega)];unfold jc;by_cases c:n=i
  ·rw[if_pos c,if_pos (by omega)]
  ·rw[if_neg c,if_neg (by omega)]; exact k.eq i hi
 ·unfold jc at hst ⊢;by_cases c:(i:Int)=(n:Int)
  ·rw[if_pos c]at hst ⊢;obtain rfl:i=n:=by omega
   exact h2 hst
  ·rw[if_neg c]at hst ⊢;rw[h1 i hi (by omega)];exact k.sne i hi hst
 ·by_cases c:i=n
  ·subst c; exact h3
  ·rw[h1 i hi c]; exact k.snb i hi
theorem Hs {lens:List Nat}{x:HM}{pl:List nT}{sn:List Int}{rows:List Int}{hold minute:Int}{l:List aB}{i:Nat}(hi:i < l.length)(hll:l.length≤1000)(h:IM lens x)(k:RK pl sn x.2.1)(sm:∀ k∈lens,k≤12)(sl:lens.length≤30)(hh:0≤hold∧hold≤100000)(hc:bk (gt l i))(hm:(gt l i).2.1≤minute)(hv:x.2.2.length≤1000):
  ∃ pl' sn',p52_0 minute l (i:Int) (rows,hold) x.1 pl sn x.2.2=some (Sum.inl (minute,l,((i+1:Nat):Int),(rows,hold),(fw (lapM hold (gt l i).2.1 x) (gt l i)).1,pl',sn',(fw (lapM hold (gt l i).2.1 x) (gt l i)).2.2))∧RK pl' sn' (fw (lapM hold (gt l i).2.1 x) (gt l i)).2.1:=by
 have e:p52_0 minute l (i:Int) (rows,hold) x.1 pl sn x.2.2=nM tV qO dV P56 cp sy minute l (i:Int) (rows,hold) x.1 pl sn x.2.2:=rfl;rw[e];unfold nM;rw[show decide ((i:Int) < (↑(List.length l):Int))=true from aN hi,cond_true,ak (aC hi),bI];generalize gt l i=c at hc hm;obtain⟨id,at',kind,n,size⟩:=c;obtain⟨h1,h2,h3,h4⟩:=hc;simp only at h1 h2 h3 h4 hm ⊢;obtain⟨pl1,e1,k1⟩:=PZ (rows:=rows) (hold:=hold) (minute:=at') h k sm sl hh;rw[decide_eq_false (by omega),cond_false,e1,aa];have hY:=h.lap hold at';have hvY:(lapM hold at' x).2.2.length≤1000:=hv;generalize lapM hold at' x=y at k1 hY hvY ⊢;have hlen:=hY.len;have ff:ah .i64 ((i:Int)+1)=true:=aF (by omega);obtain⟨m,rfl⟩:∃ m:Nat,n=(m:Int):=⟨n.toNat,by omega⟩;have hpl:=k1.pln;have hsn:=k1.snn;have hg:=k1.eq m (by omega);have hst:(gt pl1 m).1=(y.2.1 (m:Int)).1:=by rw[hg]; rfl
 have sb:=k1.snb m (by omega);unfold fw;simp only;rw[ak (aC (by omega)),bI,hst];rcases h3 with⟨rfl,z1,z2⟩ | ⟨hk,rfl⟩
 ·obtain⟨sz,rfl⟩:∃ sz:Nat,size=(sz:Int):=⟨size.toNat,by omega⟩;simp only[decide_true,cond_true,if_true,Int.toNat_natCast];unfold yJ;by_cases h0:(y.2.1 (m:Int)).1=0
  ·rw[if_pos h0,decide_eq_true h0,Bool.not_true,cond_false];rw[show P56 ((sz:Int),y.1)=_ from yU (fun r hr=>by have:=hY.row sm hr; omega) (by omega) (by omega),aa];have hbo:((cG y.1 sz 0 y.1.length).find? (pB y.1 sz false)).or ((cG y.1 sz 0 y.1.length).find? (pB y.1 sz true))=bO y.1 sz:=rfl;rw[hbo];cases hb:bO y.1 sz with
   | none=>
    simp only[Bool.not_false,cond_true];rw[ak (aC (by omega)),ak ff];exact⟨_,_,rfl,k1.put (by omega) (1,-1,-1,(sz:Int),at') sn hsn (fun _ _ _=>rfl) (fun e=>absurd e (by show ¬ ((1:Int)=2); decide)) sb⟩
   | some c=>
    obtain⟨R,S⟩:=c;obtain⟨b1,b2,_⟩:=oS hb;simp only[Bool.not_true,cond_false];rw[Hr b1 b2 (by have:=hY.row sm b1; simp only at this ⊢; omega),aa];simp only;rw[ak (aC (by omega)),ak (aC (by omega)),ak ff];have q1:∀ i,i < 100→i≠m→gt (sn.set m at') i=gt sn i:=fun i hi hne=>by rw[dC _ _ _ _ (by omega),if_neg fun e=>hne e.symm]
    have q2:gt (sn.set m at') m=at':=by rw[dC _ _ _ _ (by omega),if_pos rfl]
    have q3:0≤gt (sn.set m at') m∧gt (sn.set m at') m≤9999:=by rw[q2]; exact h2
    exact⟨_,_,rfl,k1.put (by omega) (2,(R:Int),(S:Int),(sz:Int),at') (sn.set m at') (by rw[List.length_set]; exact hsn) q1 (fun _=>q2) q3⟩
  ·rw[if_neg h0,decide_eq_false h0,Bool.not_false,cond_true,ak ff];exact⟨_,_,rfl,k1⟩
 ·have n1:kind≠1:=by omega
  rw[decide_eq_false n1,cond_false,if_neg n1];rcases hk with rfl | rfl
  ·simp only[decide_true,cond_true,if_true];unfold yK;by_cases h2':(y.2.1 (m:Int)).1=2
   ·rw[if_pos h2',decide_eq_true h2',cond_true,ak (aC (by omega)),ak ff,hg];exact⟨_,_,rfl,k1.put (by omega) (3,(y.2.1 (m:Int)).2) sn hsn (fun _ _ _=>rfl) (fun e=>absurd e (by show ¬ ((3:Int)=2); decide)) sb⟩
   ·rw[if_neg h2',decide_eq_false h2',cond_false,ak (bY (by simp; omega)),ak ff];exact⟨_,_,rfl,k1⟩
  ·rw[show decide ((3:Int)=2)=false from rfl,cond_false,if_neg (by decide),show decide ((3:Int)=3)=true from rfl,cond_true];have eP:cp ((m:Int),5,y.1,pl1,sn,y.2.2)=some (jd (m:Int) y.1,pl1.set m (5,-1,-1,(gt pl1 m).2.2.2),sn,y.2.2):=wI (by omega) (fun r hr=>by have:=hY.row sm hr; omega) (by omega);have hz:(gt pl1 m).2.2.2=(y.2.1 (m:Int)).2.2.2.1:=by rw[hg]; rfl
   have kd:=k1.put (n:=m) (by omega) (5,-1,-1,(y.2.1 (m:Int)).2.2.2.1,(y.2.1 (m:Int)).2.2.2.2) sn hsn (fun _ _ _=>rfl) (fun e=>absurd e (by show ¬ ((5:Int)=2); decide)) sb;unfold nr;by_cases c2:(y.2.1 (m:Int)).1=2
   ·rw[if_pos (.inl c2),decide_eq_true c2,cond_true,eP,aa];simp only;rw[ak ff,hz];exact⟨_,_,rfl,kd⟩
   ·rw[decide_eq_false c2,cond_false];by_cases c3:(y.2.1 (m:Int)).1=3
    ·rw[if_pos (.inr c3),decide_eq_true c3,cond_true,eP,aa];simp only;rw[ak ff,hz];exact⟨_,_,rfl,kd⟩
    ·rw[if_neg (fun q=>q.elim c2 c3),decide_eq_false c3,cond_false,ak ff];exact⟨_,_,rfl,k1⟩
section
variable {α:Type} [Inhabited α] [DecidableEq α]
def jf (l:List α):Nat→List α
 | 0=>[]
 | n+1=>if 0 < n∧gt l n=gt l (n-1)then jf l n else jf l n++[gt l n]
theorem dJ (l:List α){n:Nat}(h:n < l.length):l.take (n+1)=l.take n++[gt l n]:=by
 rw[List.take_add_one,List.getElem?_eq_getElem h,b8 h]; rfl
theorem gi (l:List α):∀ n,n≤l.length→(∀ k,k+1 < n→gt l (k+1)≠gt l k)→jf l n=l.take n
 | 0,_,_=>by simp[jf]
 | n+1,h,hd=>by
  rw[jf,if_neg,gi l n (by omega) fun k hk=>hd k (by omega),dJ l (by omega)];rintro⟨h0,e⟩;have:=hd (n-1) (by omega);rw[show n-1+1=n by omega]at this;exact this e
theorem ui (l:List α):∀ n,∀ x,x∈jf l n↔∃ k,k < n∧gt l k=x
 | 0,x=>by simp[jf]
 | n+1,x=>by
  rw[jf];split
  ·rename_i h;rw[ui l n];constructor
   ·rintro⟨k,hk,e⟩; exact⟨k,by omega,e⟩
   ·rintro⟨k,hk,e⟩;by_cases hkn:k=n
    ·subst hkn; exact⟨k-1,by omega,by rw[← h.2]; exact e⟩
    ·exact⟨k,by omega,e⟩
  ·rw[List.mem_append,ui l n,List.mem_singleton];constructor
   ·rintro(⟨k,hk,e⟩ | e)
    ·exact⟨k,by omega,e⟩
    ·exact⟨n,by omega,e.symm⟩
   ·rintro⟨k,hk,e⟩;by_cases hkn:k=n
    ·subst hkn; exact .inr e.symm
    ·exact .inl ⟨k,by omega,e⟩
theorem nO (l:List α)(x:α):x∈jf l l.length↔x∈l:=by
 rw[ui];constructor
 ·rintro⟨k,hk,rfl⟩; exact cj hk
 ·intro h; obtain⟨i,hi,e⟩:=fZ h; exact⟨i,hi,e⟩
theorem ddN_asc (K:α→Int)(l:List α)(hs:Sd K l 0 l.length)(hk:∀ a∈l,∀ b∈l,K a=K b→a=b):
  ∀ n,n≤l.length→(jf l n).Pairwise (fun a b=>K a < K b)∧∀ x∈jf l n,K x≤K (gt l (n-1))
 | 0,_=>by simp[jf]
 | n+1,h=>by
  obtain⟨h1,h2⟩:=ddN_asc K l hs hk n (by omega);rw[jf,Nat.add_sub_cancel];split
  ·rename_i c;exact⟨h1,fun x hx=>by rw[c.2]; exact h2 x hx⟩
  ·rename_i c;have hlt:∀ x∈jf l n,K x < K (gt l n):=fun x hx=>by
    have hn:0 < n:=by
     cases n with
     | zero=>simp[jf]at hx
     | succ n=>omega
    have q1:=h2 x hx;have q2:=hs (n-1) n (by omega) (by omega) (by omega);have q3:K (gt l (n-1))≠K (gt l n):=fun e=>c ⟨hn,(hk _ (cj (by omega)) _ (cj (by omega)) e).symm⟩;omega
   refine⟨?_,fun x hx=>?_⟩
   ·rw[List.pairwise_append];refine⟨h1,by simp,fun a ha b hb=>?_⟩;rw[List.mem_singleton.1 hb];exact hlt a ha
   ·rcases List.mem_append.1 hx with q | q
    ·exact Int.le_of_lt (hlt x q)
    ·rw[List.mem_singleton.1 q]; exact Int.le_refl _
theorem wy (l:List α)(w n:Nat)(z:α)(h:w≤l.length):(ct l w n z).take w=l.take w:=by
 unfold ct;rw[List.take_append_of_le_length (by simp; omega),List.take_take,Nat.min_self]
theorem qn (K:α→Int):∀ {l m:List α},l.Pairwise (fun a b=>K a < K b)→m.Pairwise (fun a b=>K a < K b)→(∀ x,x∈l↔x∈m)→l=m
 | [],[],_,_,_=>rfl
 | [],b::m,_,_,h=>absurd ((h b).2 (by simp)) (by simp)
 | a::l,[],_,_,h=>absurd ((h a).1 (by simp)) (by simp)
 | a::l,b::m,hl,hm,h=>by
  rw[List.pairwise_cons]at hl hm;have e:a=b:=by
   rcases List.mem_cons.1 ((h a).1 (by simp))with q | q
   ·exact q
   ·rcases List.mem_cons.1 ((h b).2 (by simp))with p | p
    ·exact p.symm
    ·have:=hl.1 b p;have:=hm.1 a q;omega
  subst e;congr 1;refine qn K hl.2 hm.2 fun x=>?_;constructor
  ·intro hx;rcases List.mem_cons.1 ((h x).1 (List.mem_cons_of_mem _ hx))with q | q
   ·subst q; have:=hl.1 _ hx; omega
   ·exact q
  ·intro hx;rcases List.mem_cons.1 ((h x).2 (List.mem_cons_of_mem _ hx))with q | q
   ·subst q; have:=hm.1 _ hx; omega
   ·exact q
end
theorem Ud (a b:aB):((((decide (a.1=b.1)&&decide (a.2.1=b.2.1))&&decide (a.2.2.1=b.2.2.1))&&decide (a.2.2.2.1=b.2.2.2.1))&&decide (a.2.2.2.2=b.2.2.2.2))=decide (a=b):=by
 obtain⟨a1,a2,a3,a4,a5⟩:=a;obtain⟨b1,b2,b3,b4,b5⟩:=b;simp only[Prod.mk.injEq];by_cases h1:a1=b1 <;> by_cases h2:a2=b2 <;> by_cases h3:a3=b3 <;> by_cases h4:a4=b4 <;> by_cases h5:a5=b5 <;> simp[h1,h2,h3,h4,h5]
theorem Ht (l:List (aB)){r:Nat}(hr:0 < r)(hl:r < l.length)(h1000:l.length≤1000)(he:gt l r=gt l (r-1))(hd:∀ k,k+1 < r→gt l (k+1)≠gt l k):
  ∃ y,FP ((r:Int),(r:Int),((l.length-r:Nat):Int),1,l)=some y∧∃ w l1,y=(((w:Nat):Int),l1)∧l1.length=l.length∧w≤l.length∧l1.take w=jf l l.length:=by
 refine gY (l.length-r-1) (fun t s=>∃ w l1,s=(((w:Nat):Int),(r:Int),((l.length-r:Nat):Int),((t+1:Nat):Int),l1)∧l1.length=l.length∧w≤r+t∧l1.take w=jf l (r+t+1)∧∀ k,w≤k→gt l1 k=gt l k) _
  ⟨r,l,rfl,rfl,by omega,?_,fun _ _=>rfl⟩ (by omega) ?_ ?_
 ·show l.take r=jf l (r+0+1);rw[Nat.add_zero,jf,if_pos ⟨hr,he⟩,gi l r (by omega) hd]
 ·rintro t s ht ⟨w,l1,rfl,h1,h2,h3,h4⟩;have q:((t+1:Nat):Int)-1=((t:Nat):Int):=by omega
  have v1:=h4 (r+(t+1)) (by omega);have v2:=h4 (r+t) (by omega);simp only[u5,FO,Ap,Int.toNat_natCast,aN (show t+1 < l.length-r by omega),cond_true,aC (show t+1 < l.length-r by omega),q,aC (show t < l.length-r by omega),vC (show(0:Int)≤((t:Nat):Int)by omega) (by omega),am,Ee,v1,v2,
   aC (show w < l1.length by omega),aF (show w < 9223372036854775807 by omega),aF (show t+1 < 9223372036854775807 by omega),Ud]
  have e0:jf l (r+(t+1)+1)=if 0 < r+(t+1)∧gt l (r+(t+1))=gt l (r+t)then jf l (r+t+1)else jf l (r+t+1)++[gt l (r+(t+1))]:=rfl;by_cases e:gt l (r+(t+1))=gt l (r+t)
  ·simp only[e,decide_true,Bool.not_true,cond_false];exact⟨_,rfl,w,l1,rfl,h1,by omega,by rw[e0,if_pos ⟨by omega,e⟩]; exact h3,h4⟩
  ·simp only[e,decide_false,Bool.not_false,cond_true];refine⟨_,rfl,w+1,l1.set w (gt l (r+(t+1))),by simp only[rK],by simpa using h1,by omega,?_,fun k hk=>?_⟩
   ·rw[e0,if_neg fun h=>e h.2,← h3,dJ _ (by simp; omega),dC _ _ _ _ (by omega),if_pos rfl];congr 1;exact List.take_set_of_le (Nat.le_refl _)
   ·rw[dC _ _ _ _ (by omega),if_neg (by omega)]; exact h4 k (by omega)
 ·rintro s ⟨w,l1,rfl,h1,h2,h3,h4⟩;have q:l.length-r-1+1=l.length-r:=by omega
  simp only[u5,FO,Ap,Int.toNat_natCast,q,aT,cond_false];refine⟨_,rfl,w,l1,rfl,h1,by omega,?_⟩;rw[h3]; congr 1; omega
theorem Ue (l:List (aB))(hl:l.length≤1000):uq l=some (jf l l.length):=by
 by_cases hs:l.length < 2
 ·have d:decide ((l.length:Int) < 2)=true:=by simp; omega
  simp only[uq,p82,Xe,d,cond_true];rw[gi l l.length (Nat.le_refl _) (fun k hk=>by omega),List.take_length]
 have d:decide ((l.length:Int) < 2)=false:=by simp; omega
 have h:=fY (step:=fun x=>Ar x.1 x.2) (l.length-1) (fun k=>(((k+1:Nat):Int),l)) (fun k=>decide (gt l (k+1)=gt l k)) (fun _=>.inl (jf l l.length)) (.inr l)
  (fun k hk hp=>by
   have q:((k+1:Nat):Int)-1=((k:Nat):Int):=by omega
   simp only[u2,Ar,Aq,aN (show k+1 < l.length by omega),cond_true,aC (show k+1 < l.length by omega),aC (show k < l.length by omega),q,vC (show(0:Int)≤((k:Nat):Int)by omega) (by omega),am,bI,aF (show k+1 < 9223372036854775807 by omega),Ud];by_cases e:gt l (k+1)=gt l k
   ·have hd:∀ j,j+1 < k+1→gt l (j+1)≠gt l j:=fun j hj=>by simpa using hp j (by omega)
    obtain⟨y,y1,w,l1,rfl,y2,y3,y4⟩:=Ht l (r:=k+1) (by omega) (by omega) hl e hd;have c1:(l.length:Int)-((k+1:Nat):Int)=((l.length-(k+1):Nat):Int):=by omega
    have c2:(l1.length:Int)-(w:Int)=((l1.length-w:Nat):Int):=by omega
    have b1:decide ((0:Int)≤((k+1:Nat):Int))=true:=by simp; omega
    have b2:decide (((k+1:Nat):Int)≤(l.length:Int))=true:=by simp; omega
    have b3:∀ n:Nat,decide ((n:Int)≤(n:Int))=true:=fun n=>by simp
    have b4:decide (0 < l.length)=true:=by simp; omega
    have b5:decide ((0:Int)≤(w:Int))=true:=by simp
    have b6:decide ((w:Int)≤(l1.length:Int))=true:=by simp; omega
    have b7:decide (0 < l1.length)=true:=by simp; omega
    simp only[e,decide_true,cond_true,b1,b2,b3,b4,am,c1,Int.toNat_natCast,y1,aa,b5,b6,b7,c2,clrL_len' l1 w (l1.length-w) _ (by omega),wy l1 w _ _ (by omega),y4]
   ·simp only[e,decide_false,cond_false]; rfl)
  (fun _=>by
   have d2:decide (((l.length-1+1:Nat):Int) < (l.length:Int))=false:=by simp; omega
   simp only[u2,Ar,Aq,d2,cond_false]) (by omega)
 rcases h with⟨k,hk,h1,h2,h3⟩ | ⟨h2,h3⟩
 ·have e:As (1,l)=some (.inl (jf l l.length)):=h3;simp only[uq,p82,Xe,d,cond_false,e,aa,elim_inl]
 ·have e:As (1,l)=some (.inr l):=h3;simp only[uq,p82,Xe,d,cond_false,e,aa,elim_inr];rw[gi l l.length (Nat.le_refl _) (fun k hk=>by simpa using h2 k (by omega)),List.take_length]
theorem Hu (l:List (Int)){r:Nat}(hr:0 < r)(hl:r < l.length)(h1000:l.length≤1000)(he:gt l r=gt l (r-1))(hd:∀ k,k+1 < r→gt l (k+1)≠gt l k):
  ∃ y,GT ((r:Int),(r:Int),((l.length-r:Nat):Int),1,l)=some y∧∃ w l1,y=(((w:Nat):Int),l1)∧l1.length=l.length∧w≤l.length∧l1.take w=jf l l.length:=by
 refine gY (l.length-r-1) (fun t s=>∃ w l1,s=(((w:Nat):Int),(r:Int),((l.length-r:Nat):Int),((t+1:Nat):Int),l1)∧l1.length=l.length∧w≤r+t∧l1.take w=jf l (r+t+1)∧∀ k,w≤k→gt l1 k=gt l k) _
  ⟨r,l,rfl,rfl,by omega,?_,fun _ _=>rfl⟩ (by omega) ?_ ?_
 ·show l.take r=jf l (r+0+1);rw[Nat.add_zero,jf,if_pos ⟨hr,he⟩,gi l r (by omega) hd]
 ·rintro t s ht ⟨w,l1,rfl,h1,h2,h3,h4⟩;have q:((t+1:Nat):Int)-1=((t:Nat):Int):=by omega
  have v1:=h4 (r+(t+1)) (by omega);have v2:=h4 (r+t) (by omega);simp only[u5,GS,AL,Int.toNat_natCast,aN (show t+1 < l.length-r by omega),cond_true,aC (show t+1 < l.length-r by omega),q,aC (show t < l.length-r by omega),vC (show(0:Int)≤((t:Nat):Int)by omega) (by omega),am,Ee,v1,v2,
   aC (show w < l1.length by omega),aF (show w < 9223372036854775807 by omega),aF (show t+1 < 9223372036854775807 by omega),Ud]
  have e0:jf l (r+(t+1)+1)=if 0 < r+(t+1)∧gt l (r+(t+1))=gt l (r+t)then jf l (r+t+1)else jf l (r+t+1)++[gt l (r+(t+1))]:=rfl;by_cases e:gt l (r+(t+1))=gt l (r+t)
  ·simp only[e,decide_true,Bool.not_true,cond_false];exact⟨_,rfl,w,l1,rfl,h1,by omega,by rw[e0,if_pos ⟨by omega,e⟩]; exact h3,h4⟩
  ·simp only[e,decide_false,Bool.not_false,cond_true];refine⟨_,rfl,w+1,l1.set w (gt l (r+(t+1))),by simp only[rK],by simpa using h1,by omega,?_,fun k hk=>?_⟩
   ·rw[e0,if_neg fun h=>e h.2,← h3,dJ _ (by simp; omega),dC _ _ _ _ (by omega),if_pos rfl];congr 1;exact List.take_set_of_le (Nat.le_refl _)
   ·rw[dC _ _ _ _ (by omega),if_neg (by omega)]; exact h4 k (by omega)
 ·rintro s ⟨w,l1,rfl,h1,h2,h3,h4⟩;have q:l.length-r-1+1=l.length-r:=by omega
  simp only[u5,GS,AL,Int.toNat_natCast,q,aT,cond_false];refine⟨_,rfl,w,l1,rfl,h1,by omega,?_⟩;rw[h3]; congr 1; omega
theorem Uf (l:List (Int))(hl:l.length≤1000):CX l=some (jf l l.length):=by
 by_cases hs:l.length < 2
 ·have d:decide ((l.length:Int) < 2)=true:=by simp; omega
  simp only[CX,p45,Yu,d,cond_true];rw[gi l l.length (Nat.le_refl _) (fun k hk=>by omega),List.take_length]
 have d:decide ((l.length:Int) < 2)=false:=by simp; omega
 have h:=fY (step:=fun x=>AN x.1 x.2) (l.length-1) (fun k=>(((k+1:Nat):Int),l)) (fun k=>decide (gt l (k+1)=gt l k)) (fun _=>.inl (jf l l.length)) (.inr l)
  (fun k hk hp=>by
   have q:((k+1:Nat):Int)-1=((k:Nat):Int):=by omega
   simp only[u2,AN,AM,aN (show k+1 < l.length by omega),cond_true,aC (show k+1 < l.length by omega),aC (show k < l.length by omega),q,vC (show(0:Int)≤((k:Nat):Int)by omega) (by omega),am,bI,aF (show k+1 < 9223372036854775807 by omega),Ud];by_cases e:gt l (k+1)=gt l k
   ·have hd:∀ j,j+1 < k+1→gt l (j+1)≠gt l j:=fun j hj=>by simpa using hp j (by omega)
    obtain⟨y,y1,w,l1,rfl,y2,y3,y4⟩:=Hu l (r:=k+1) (by omega) (by omega) hl e hd;have c1:(l.length:Int)-((k+1:Nat):Int)=((l.length-(k+1):Nat):Int):=by omega
    have c2:(l1.length:Int)-(w:Int)=((l1.length-w:Nat):Int):=by omega
    have b1:decide ((0:Int)≤((k+1:Nat):Int))=true:=by simp; omega
    have b2:decide (((k+1:Nat):Int)≤(l.length:Int))=true:=by simp; omega
    have b3:∀ n:Nat,decide ((n:Int)≤(n:Int))=true:=fun n=>by simp
    have b4:decide (0 < l.length)=true:=by simp; omega
    have b5:decide ((0:Int)≤(w:Int))=true:=by simp
    have b6:decide ((w:Int)≤(l1.length:Int))=true:=by simp; omega
    have b7:decide (0 < l1.length)=true:=by simp; omega
    simp only[e,decide_true,cond_true,b1,b2,b3,b4,am,c1,Int.toNat_natCast,y1,aa,b5,b6,b7,c2,clrL_len' l1 w (l1.length-w) _ (by omega),wy l1 w _ _ (by omega),y4]
   ·simp only[e,decide_false,cond_false]; rfl)
  (fun _=>by
   have d2:decide (((l.length-1+1:Nat):Int) < (l.length:Int))=false:=by simp; omega
   simp only[u2,AN,AM,d2,cond_false]) (by omega)
 rcases h with⟨k,hk,h1,h2,h3⟩ | ⟨h2,h3⟩
 ·have e:AO (1,l)=some (.inl (jf l l.length)):=h3;simp only[CX,p45,Yu,d,cond_false,e,aa,elim_inl]
 ·have e:AO (1,l)=some (.inr l):=h3;simp only[CX,p45,Yu,d,cond_false,e,aa,elim_inr];rw[gi l l.length (Nat.le_refl _) (fun k hk=>by simpa using h2 k (by omega)),List.take_length]
def kc (c:aB):Int:=c.2.1*100+c.1
theorem P0 {a b:aB}(ha:bk a)(hb:bk b):kc a < kc b↔a.2.1 < b.2.1∨(a.2.1=b.2.1∧a.1 < b.1):=by
 have h1:=ha.1;have h2:=hb.1;unfold kc;omega
theorem Hv {a b:aB}(ha:bk a)(hb:bk b)(h:kc a=kc b):a.1=b.1:=by
 have h1:=ha.1;have h2:=hb.1;unfold kc at h;omega
theorem Hw {l m:List aB}{i k:Nat}{at':Int}{kn:Bool}(hi:i < l.length)(hk:k < m.length)(hm:m.length≤1000)(ha:bk (gt m k))(hb:bk (gt l i)):
  sr l m (i:Int) at' kn (k:Int)=some (.inl (l,m,(i:Int),(if kc (gt m k) < kc (gt l i)then(k:Int)+1 else at'),(kn||decide (gt m k=gt l i)),(k:Int)+1)):=by
 unfold sr;have f:ah .i64 ((k:Int)+1)=true:=aF (by omega);simp only[aN hk,cond_true,aC hk,aC hi,am,bI,f,Ud];have hlt:=P0 ha hb;by_cases h1:(gt m k).2.1 < (gt l i).2.1
 ·rw[if_pos (hlt.2 (.inl h1)),decide_eq_true h1];cases kn <;> rfl
 ·rw[decide_eq_false h1];by_cases h2:(gt m k).2.1=(gt l i).2.1
  ·rw[decide_eq_true h2];by_cases h3:(gt m k).1 < (gt l i).1
   ·rw[if_pos (hlt.2 (.inr ⟨h2,h3⟩)),decide_eq_true h3];cases kn <;> rfl
   ·rw[if_neg (fun h=>(hlt.1 h).elim h1 fun h=>h3 h.2),decide_eq_false h3];cases kn <;> rfl
  ·rw[if_neg (fun h=>(hlt.1 h).elim h1 fun h=>h2 h.1),decide_eq_false h2];cases kn <;> rfl
theorem Hx {l m:List aB}{i:Nat}(hi:i < l.length)(hm:m.length≤1000)(ha:∀ x∈m,bk x)(hb:bk (gt l i))(hs:m.Pairwise (fun a b=>kc a < kc b)):
  ∃ w:Nat,∃ kn:Bool,L71_1 (l,m,(i:Int),0,false,0)=some (l,m,(i:Int),(w:Int),kn)∧w≤m.length∧(∀ j,j < m.length→(kc (gt m j) < kc (gt l i)↔j < w))∧(kn=true↔gt l i∈m):=by
 have key:=gY (step:=fun x=>Ox x.1 x.2.1 x.2.2.1 x.2.2.2.1 x.2.2.2.2.1 x.2.2.2.2.2) m.length
  (fun k s=>∃ w:Nat,∃ kn:Bool,s=(l,m,(i:Int),(w:Int),kn,(k:Int))∧w≤k∧(∀ j,j < k→(kc (gt m j) < kc (gt l i)↔j < w))∧(kn=true↔∃ j,j < k∧gt m j=gt l i))
  (fun y=>∃ w:Nat,∃ kn:Bool,y=(l,m,(i:Int),(w:Int),kn)∧w≤m.length∧(∀ j,j < m.length→(kc (gt m j) < kc (gt l i)↔j < w))∧(kn=true↔gt l i∈m))
  (x:=(l,m,(i:Int),0,false,0))
  ⟨0,false,rfl,Nat.le_refl _,fun j hj=>by omega,by constructor <;> simp⟩ (by omega)
  (by
   rintro k s hk ⟨w,kn,rfl,h1,h2,h3⟩;refine⟨_,Hw hi hk hm (ha _ (cj hk)) hb,(if kc (gt m k) < kc (gt l i)then k+1 else w),(kn||decide (gt m k=gt l i)),?_,?_,?_,?_⟩
   ·split <;> simp
   ·split <;> omega
   ·intro j hj;by_cases c:kc (gt m k) < kc (gt l i)
    ·rw[if_pos c];refine⟨fun _=>hj,fun _=>?_⟩;by_cases e:j=k
     ·rw[e]; exact c
     ·have:=List.pairwise_iff_getElem.1 hs j k (by omega) hk (by omega);rw[← b8 (show j < m.length by omega),← b8 hk]at this;omega
    ·rw[if_neg c];by_cases e:j=k
     ·subst e; exact⟨fun h=>absurd h c,fun h=>by omega⟩
     ·exact h2 j (by omega)
   ·rw[Bool.or_eq_true,h3,decide_eq_true_eq];constructor
    ·rintro(⟨j,hj,e⟩ | e)
     ·exact⟨j,by omega,e⟩
     ·exact⟨k,by omega,e⟩
    ·rintro⟨j,hj,e⟩;by_cases c:j=k
     ·subst c; exact .inr e
     ·exact .inl ⟨j,by omega,e⟩)
  (by
   rintro s ⟨w,kn,rfl,h1,h2,h3⟩;refine⟨(l,m,(i:Int),(w:Int),kn),?_,w,kn,rfl,h1,h2,?_⟩
   ·show sr l m (i:Int) (w:Int) kn (m.length:Int)=_;unfold sr;rw[show decide ((m.length:Int) < (↑(List.length m):Int))=false from aT _,cond_false]
   ·rw[h3];constructor
    ·rintro⟨j,hj,e⟩; rw[← e]; exact cj hj
    ·intro h; obtain⟨j,hj,e⟩:=fZ h; exact⟨j,hj,e⟩)
 obtain⟨y,h1,w,kn,rfl,h2⟩:=key;exact⟨w,kn,h1,h2⟩
theorem K9 {m:List aB}{c:aB}{w:Nat}(hw:w≤m.length)(hs:m.Pairwise (fun a b=>kc a < kc b))(h1:∀ j,j < m.length→(kc (gt m j) < kc c↔j < w))(h2:∀ x∈m,kc x≠kc c):
  (m.take w++c::m.drop w).Pairwise (fun a b=>kc a < kc b):=by
 have hs':=hs;rw[← List.take_append_drop w m,List.pairwise_append]at hs';obtain⟨p1,p2,p3⟩:=hs';have lo:∀ x∈m.take w,kc x < kc c:=fun x hx=>by
  obtain⟨j,hj,e⟩:=fZ hx;rw[List.length_take]at hj;rw[tA _ _ _ (by omega)]at e;rw[← e];exact(h1 j (by omega)).2 (by omega)
 have hi:∀ x∈m.drop w,kc c < kc x:=fun x hx=>by
  obtain⟨j,hj,e⟩:=fZ hx;rw[List.length_drop]at hj;rw[zO]at e;have q:=h1 (w+j) (by omega);have q2:=h2 x (List.mem_of_mem_drop hx);rw[e]at q;omega
 rw[List.pairwise_append];refine⟨p1,List.pairwise_cons.2 ⟨hi,p2⟩,fun a ha b hb=>?_⟩;rcases List.mem_cons.1 hb with rfl | hb
 ·exact lo a ha
 ·exact p3 a ha b hb
theorem La {m:List aB}{c:aB}(w:Nat)(x:aB):x∈m.take w++c::m.drop w↔x=c∨x∈m:=by
 rw[List.mem_append,List.mem_cons];constructor
 ·rintro(h | h | h)
  ·exact .inr (List.mem_of_mem_take h)
  ·exact .inl h
  ·exact .inr (List.mem_of_mem_drop h)
 ·rintro(h | h)
  ·exact .inr (.inl h)
  ·rw[← List.take_append_drop w m,List.mem_append]at h;rcases h with h | h
   ·exact .inl h
   ·exact .inr (.inr h)
def jI (l:List aB):Prop:=∀ a∈l,∀ b∈l,a.1=b.1→a=b
theorem Ug (l:List aB)(hl:l.length≤1000)(hv:∀ c∈l,bk c)(hk:jI l):
  ∃ m,qO l=some m∧m.Pairwise (fun a b=>kc a < kc b)∧(∀ x,x∈m↔x∈l)∧m.length≤l.length:=by
 have key:=gY (step:=fun x=>Oz x.1 x.2.1 x.2.2) l.length
  (fun k s=>∃ m,s=(l,m,(k:Int))∧m.length≤k∧m.Pairwise (fun a b=>kc a < kc b)∧∀ x,x∈m↔x∈l.take k)
  (fun y=>y.Pairwise (fun a b=>kc a < kc b)∧(∀ x,x∈y↔x∈l)∧y.length≤l.length)
  (x:=(l,[],0)) ⟨[],rfl,Nat.le_refl _,by simp,by simp⟩ (by omega)
  (by
   rintro k s hk' ⟨m,rfl,h1,h2,h3⟩;have hml:∀ x∈m,x∈l:=fun x hx=>List.mem_of_mem_take ((h3 x).1 hx);obtain⟨w,kn,e1,e2,e3,e4⟩:=Hx hk' (by omega) (fun x hx=>hv x (hml x hx)) (hv _ (cj hk')) h2;have f:ah .i64 ((k:Int)+1)=true:=aF (by omega);have ht:=dJ l hk';show ∃ s',q71_0 L71_1 l m (k:Int)=some (Sum.inl s')∧_;unfold q71_0;rw[show decide ((k:Int) < (↑(List.length l):Int))=true from aN hk',cond_true,e1,aa];cases kn with
   | true=>
    simp only[Bool.not_true,cond_false];rw[ak f];refine⟨_,rfl,m,rfl,by omega,h2,fun x=>?_⟩;rw[h3,ht,List.mem_append,List.mem_singleton];constructor
    ·exact .inl
    ·rintro(h | h)
     ·exact h
     ·rw[h]; exact(h3 _).1 (e4.1 rfl)
   | false=>
    simp only[Bool.not_false,cond_true];have c1:pC m (w:Int) (m.length:Int)=m.drop w:=by
     unfold pC
     simp[List.take_of_length_le]
    have c2:pC m 0 (w:Int)=m.take w:=by
     unfold pC
     simp
    rw[ak (aC hk'),ak (decide_eq_true (by omega)),ak (decide_eq_true (show(w:Int)≤(↑(List.length m):Int)by omega)),ak (decide_eq_true (Int.le_refl _)),show pC m (w:Int) (↑(List.length m):Int)=m.drop w from c1,c2,bI,
     ak (bY (by simp; omega)),ak (decide_eq_true (Int.le_refl _)),ak (decide_eq_true (by omega)),ak (decide_eq_true (show(w:Int)≤(↑(List.length m):Int)by omega)),ak (bY (by simp; omega)),ak (bY (by simp; omega)),ak f]
    have hn:gt l k∉m:=fun h=>by have:=e4.2 h; cases this
    refine⟨_,rfl,m.take w++gt l k::m.drop w,rfl,by simp; omega,K9 e2 h2 e3 (fun x hx e=>hn ?_),fun x=>?_⟩
    ·rw[← hk x (hml x hx) _ (cj hk') (Hv (hv x (hml x hx)) (hv _ (cj hk')) e)];exact hx
    ·rw[La,h3,ht,List.mem_append,List.mem_singleton];exact Or.comm)
  (by
   rintro s ⟨m,rfl,h1,h2,h3⟩;refine⟨m,?_,h2,by rw[List.take_length]at h3; exact h3,h1⟩;show q71_0 L71_1 l m (l.length:Int)=_;unfold q71_0;rw[show decide ((l.length:Int) < (↑(List.length l):Int))=false from aT _,cond_false])
 obtain⟨m,h1,h2,h3⟩:=key;refine⟨m,?_,h2,h3⟩;show q71 AU l=_;unfold q71;rw[show AU (l,[],0)=some m from h1];rfl
namespace Pdq109
abbrev E:=aB
section
variable {β:Type} [Inhabited β] {v:β→E} {C:β→β→Int}
def lt (C:β→β→Int)(x y:β):Bool:=decide (C x y < 0)
theorem wP (x y:β):decide (C x y < 0)=lt C x y:=rfl
theorem eQ (a:Nat):∀ (j:Nat) (d:Array β),(Sort.insInner (lt C) a j d).size=d.size
 | 0,d=>by rw[Sort.insInner]
 | j+1,d=>by
  rw[Sort.insInner];split
  ·rw[eQ a j,aq]
  ·rfl
theorem eR (hi first:Nat):∀ (n root:Nat) (d:Array β),hi-root≤n→(Sort.siftDown (lt C) hi first root d).size=d.size:=by
 intro n
 induction n with
 | zero=>intro root d h; rw[Sort.siftDown,dif_pos (by omega)]
 | succ n ih=>
  intro root d h;rw[Sort.siftDown];split
  ·rfl
  ·split
   ·split
    ·rfl
    ·rw[dif_pos (by rename_i h1 h2 h3; simp only[Bool.and_eq_true,decide_eq_true_eq]at h2; omega),ih _ _ (by omega),aq]
   ·split
    ·rfl
    ·rw[ih _ _ (by omega),aq]
theorem dR (hi first:Nat):∀ (k:Nat) (d:Array β),(Sort.heapBuild (lt C) hi first k d).size=d.size
 | 0,d=>rfl
 | k+1,d=>by rw[Sort.heapBuild,dR hi first k,eR hi first _ k d (Nat.le_refl _)]
variable (hC:∀ x y,P80 (v x,v y)=some (C x y))
include hC
theorem UQ {a b i:Nat}{j:Nat}{d:Array β}(h1:j < d.size)(h2:d.size≤250)(h3:a≤250):
  xF ((a:Int),(b:Int),(i:Int),(j:Int),MA v d)=some ((a:Int),(b:Int),(i:Int),MA v (Sort.insInner (lt C) a j d)):=by
 refine aI (fun s r n=>∃ (j:Nat) (d:Array β),j < d.size∧d.size≤250∧s=((a:Int),(b:Int),(i:Int),(j:Int),MA v d)∧r=((a:Int),(b:Int),(i:Int),MA v (Sort.insInner (lt C) a j d))∧n=j) ⟨j,d,h1,h2,rfl,rfl,rfl⟩ (by omega) ?_;rintro s r n ⟨j,d,q1,q2,rfl,rfl,rfl⟩;simp only[u5,EB,xE];cases n with
 | zero=>left; simp(disch:=omega) only[iY,dF,cond_false,Sort.insInner]
 | succ j=>
  by_cases e:a < j+1
  ·simp(disch:=omega) only[iY,dT,cond_true,aE,am,p1,aG,aR,hC,aa,wP,Nat.add_sub_cancel,Int.toNat_natCast]
   cases hl:lt C d[j+1]! d[j]!
   ·left;rw[show Sort.insInner (lt C) a (j+1) d=d by rw[Sort.insInner]; simp[hl]];simp only[cond_false]
   ·right;rw[show Sort.insInner (lt C) a (j+1) d=Sort.insInner (lt C) a j (Sort.swp d (j+1) j)by rw[Sort.insInner]; simp[hl,e]]
    simp(disch:=omega) only[cond_true,bA,aX,bB,am]
    exact⟨_,j,rfl,⟨j,Sort.swp d (j+1) j,by rw[aq]; omega,by rwa [aq],rfl,rfl,rfl⟩,by omega⟩
  ·left;rw[show Sort.insInner (lt C) a (j+1) d=d by rw[Sort.insInner]; simp[e]]
   simp(disch:=omega) only[iY,dF,cond_false]
theorem ins {a b:Nat}{d:Array β}(hb:b≤d.size)(hz:d.size≤250)(ha:a≤250):gZ ((a:Int),(b:Int),MA v d)=some (MA v (Sort.insertionSort (lt C) d a b)):=by
 have e:xH ((a:Int),(b:Int),((a+1:Nat):Int),MA v d)=some (MA v (Sort.insOuter (lt C) a b (a+1) d)):=by
  refine aI (fun s r n=>∃ (i:Nat) (d:Array β),b≤d.size∧d.size≤250∧s=((a:Int),(b:Int),(i:Int),MA v d)∧r=MA v (Sort.insOuter (lt C) a b i d)∧n=b-i) ⟨a+1,d,hb,hz,rfl,rfl,rfl⟩ (by omega) ?_;rintro s r n ⟨i,d,q1,q2,rfl,rfl,rfl⟩;simp only[u4,ED,xG];rw[Sort.insOuter];by_cases e:i < b
  ·right
   simp(disch:=omega) only[iY,dT,cond_true,UQ hC,aa,aG,am,a1]
   exact⟨_,b-(i+1),rfl,⟨i+1,Sort.insInner (lt C) a i d,by rwa [eQ],by rwa [eQ],rfl,by rw[if_pos e],rfl⟩,by omega⟩
  ·left
   simp(disch:=omega) only[iY,dF,cond_false,if_neg e]
 simp(disch:=omega) only[u3,gZ,WG,RJ,aG,am,a1,e,aa,Sort.insertionSort]
theorem H9 {lo hi first:Nat}{d:Array β}(hs:first+hi≤d.size)(hl:lo < hi∨hi=0)(hz:d.size≤250)(h0:lo≤250):ln ((lo:Int),(hi:Int),(first:Int),MA v d)=some (MA v (Sort.siftDown (lt C) hi first lo d)):=by
 have key:∃ y,xJ ((hi:Int),(first:Int),(lo:Int),MA v d)=some y∧Sum.elim id id y=MA v (Sort.siftDown (lt C) hi first lo d):=by
  refine iO (fun s n=>∃ (root:Nat) (d':Array β),first+hi≤d'.size∧(root < hi∨hi=0)∧d'.size≤250∧root≤250∧s=((hi:Int),(first:Int),(root:Int),MA v d')∧Sort.siftDown (lt C) hi first root d'=Sort.siftDown (lt C) hi first lo d∧n=hi-root) _
   ⟨lo,d,hs,hl,hz,h0,rfl,rfl,rfl⟩ (by omega) ?_
  rintro s n ⟨root,d',g1,g0,g2,g3,rfl,g4,rfl⟩;rw[← g4]
  clear g4
  simp only[u4,EH,xI];rw[Sort.siftDown];by_cases e:hi≤2*root+1
  ·left
   simp(disch:=omega) only[m2,aG,am,aG,a1,il,dT,cond_true,dif_pos (show 2*root+1≥hi from e)]
   exact⟨_,rfl,rfl⟩
  ·simp(disch:=omega) only[m2,aG,am,aG,a1,il,iY,dF,cond_false,dif_neg (show ¬ 2*root+1≥hi from e),an]
   by_cases e2:2*root+1+1 < hi
   ·simp(disch:=omega) only[dT,cond_true,aG,am,aE,aR,hC,aa,wP,Bool.true_and]
    cases hl1:lt C d'[first+(2*root+1)]! d'[first+(2*root+1)+1]!
    ·simp(disch:=omega) only[cond_false,aG,am,aE,aR,hC,aa,wP,Bool.false_eq_true,if_false]
     cases hl2:lt C d'[first+root]! d'[first+(2*root+1)]!
     ·left; simp only[Bool.not_false,cond_true,if_true]; exact⟨_,rfl,rfl⟩
     ·right
      simp(disch:=omega) only[Bool.not_true,cond_false,Bool.false_eq_true,if_false,aE,am,Int.toNat_natCast,bA,aX,bB]
      exact⟨_,hi-(2*root+1),rfl,⟨2*root+1,Sort.swp d' (first+root) (first+(2*root+1)),by rw[aq]; omega,by omega,by rw[aq]; omega,by omega,rfl,rfl,rfl⟩,by omega⟩
    ·simp(disch:=omega) only[cond_true,aG,am,aE,aR,hC,aa,wP,if_true]
     cases hl2:lt C d'[first+root]! d'[first+(2*root+1+1)]!
     ·left;have hl2':lt C d'[first+root]! d'[first+(2*root+2)]! = false:=hl2;simp only[Bool.not_false,cond_true,hl2',if_true]; exact⟨_,rfl,rfl⟩
     ·right;have hl2':lt C d'[first+root]! d'[first+(2*root+2)]! = true:=hl2
      simp(disch:=omega) only[hl2',Bool.not_true,cond_false,Bool.false_eq_true,if_false,aE,am,Int.toNat_natCast,bA,aX,bB,dif_pos (show 2*root+2 < hi from e2)]
      exact⟨_,hi-(2*root+1+1),rfl,⟨2*root+1+1,Sort.swp d' (first+root) (first+(2*root+2)),by rw[aq]; omega,by omega,by rw[aq]; omega,by omega,rfl,rfl,rfl⟩,by omega⟩
   ·simp(disch:=omega) only[dF,cond_false,aG,am,aE,aR,hC,aa,wP,Bool.false_and,Bool.false_eq_true,if_false]
    cases hl2:lt C d'[first+root]! d'[first+(2*root+1)]!
    ·left; simp only[Bool.not_false,cond_true,if_true]; exact⟨_,rfl,rfl⟩
    ·right
     simp(disch:=omega) only[Bool.not_true,cond_false,Bool.false_eq_true,if_false,aE,am,Int.toNat_natCast,bA,aX,bB]
     exact⟨_,hi-(2*root+1),rfl,⟨2*root+1,Sort.swp d' (first+root) (first+(2*root+1)),by rw[aq]; omega,by omega,by rw[aq]; omega,by omega,rfl,rfl,rfl⟩,by omega⟩
 obtain⟨y,e1,e2⟩:=key;simp only[u4,ln,WI,RN,e1,aa];cases y with
 | inl x=>simp only[Sum.elim_inl]; rw[← e2]; rfl
 | inr x=>simp only[Sum.elim_inr]; rw[← e2]; rfl
theorem heap {a b:Nat}{d:Array β}(hab:a < b)(hb:b≤d.size)(hz:d.size≤250):hU ((a:Int),(b:Int),MA v d)=some (MA v (Sort.heapSort (lt C) d a b)):=by
 have c0:∀ k:Nat,(0:Int)=((0:Nat):Int):=fun _=>rfl;have e1:∀ (k:Nat),k≤b-a→xL ((a:Int),0,((b-a:Nat):Int),(k:Int)-1,MA v d)=some ((a:Int),0,((b-a:Nat):Int),MA v (Sort.heapBuild (lt C) (b-a) a k d)):=fun k hk=>by
  refine aI (fun s r n=>∃ (k:Nat) (d':Array β),k≤b-a∧d'.size=d.size∧s=((a:Int),0,((b-a:Nat):Int),(k:Int)-1,MA v d')∧r=((a:Int),0,((b-a:Nat):Int),MA v (Sort.heapBuild (lt C) (b-a) a k d'))∧n=k) ⟨k,d,hk,rfl,rfl,rfl,rfl⟩ (by omega) ?_;rintro s r n ⟨k,d',q1,q2,rfl,rfl,rfl⟩;simp only[u5,EO,xK];cases n with
  | zero=>left; rfl
  | succ k=>
   right;have g1:((k+1:Nat):Int)-1=(k:Int):=by omega
   have g2:decide ((0:Int)≤(k:Int))=true:=by simp
   simp(disch:=omega) only[g1,g2,cond_true,H9 hC,aa,nL,am]
   exact⟨_,k,rfl,⟨k,Sort.siftDown (lt C) (b-a) a k d',by omega,by rw[eR _ _ _ _ _ (Nat.le_refl _),q2],rfl,rfl,rfl⟩,by omega⟩
 have e2:∀ (d:Array β) (k:Nat),k≤b-a→b≤d.size→d.size≤250→xN ((a:Int),0,(k:Int)-1,MA v d)=some (MA v (Sort.heapPop (lt C) a k d)):=fun d k hk hb hz=>by
  refine aI (fun s r n=>∃ (k:Nat) (d':Array β),k≤b-a∧d'.size=d.size∧s=((a:Int),0,(k:Int)-1,MA v d')∧r=MA v (Sort.heapPop (lt C) a k d')∧n=k) ⟨k,d,hk,rfl,rfl,rfl,rfl⟩ (by omega) ?_;rintro s r n ⟨k,d',q1,q2,rfl,rfl,rfl⟩;simp only[u4,EQ,xM];cases n with
  | zero=>left; rfl
  | succ k=>
   right;have g1:((k+1:Nat):Int)-1=(k:Int):=by omega
   have g2:decide ((0:Int)≤(k:Int))=true:=by simp
   have g3:ln (0,(k:Int),(a:Int),MA v (Sort.swp d' a (a+k)))=some (MA v (Sort.siftDown (lt C) k a 0 (Sort.swp d' a (a+k)))):=H9 hC (lo:=0) (by rw[aq]; omega) (by omega) (by rw[aq]; omega) (by omega)
   simp(disch:=omega) only[g1,g2,cond_true,an,aG,am,aE,aR,Int.toNat_natCast,bA,aX,bB,g3,aa,nL]
   exact⟨_,k,rfl,⟨k,Sort.siftDown (lt C) k a 0 (Sort.swp d' a (a+k)),by omega,by rw[eR _ _ _ _ _ (Nat.le_refl _),aq,q2],rfl,rfl,rfl⟩,by omega⟩
 have t1:((b-a-1:Nat):Int)=(b:Int)-(a:Int)-1:=by omega
 have t2:Int.tdiv ((b-a-1:Nat):Int) 2=((b-a-1) / 2:Nat):=CU _;have e1':=e1 ((b-a-1) / 2+1) (by omega);rw[show(((b-a-1) / 2+1:Nat):Int)-1=(((b-a-1) / 2:Nat):Int)by omega]at e1';have e2':=e2 (Sort.heapBuild (lt C) (b-a) a ((b-a-1) / 2+1) d) (b-a) (Nat.le_refl _) (by rw[dR]; exact hb) (by rw[dR]; exact hz)
 simp(disch:=omega) only[u3,hU,WK,RS,pn,aG,am,p1,t2,e1',aa,nL]
 rw[show((b-a-1:Nat):Int)=((b-a:Nat):Int)-1 by omega]
 simp(disch:=omega) only[nL,am,e2',aa,Sort.heapSort]
omit hC
theorem Ia {n:Nat}(h:n < 256):P67 (n:Int)=some ((Sort.bitsLen n:Nat):Int):=by
 have f:ah .u8 (n:Int)=true:=by
  rw[ah,decide_eq_true_eq];have e2:(2:Int)^8=256:=by decide
  simp only[IntKind.wrap,IntKind.bits,IntKind.signed,Bool.false_and,e2,Bool.false_eq_true,if_false];omega
 have d1:decide ((4294967296:Int)≤(n:Int))=false:=by simp; omega
 have d2:decide ((65536:Int)≤(n:Int))=false:=by simp; omega
 have d3:decide ((256:Int)≤(n:Int))=false:=by simp; omega
 simp only[P67,p67,q67,P95,p95,q95,zZ,Ev,zY,d1,cond_false,aa,d2,d3,f,am];have key:∀ m:Fin 256,∀ t:ByteArray,t=tb→aA (m.val:Int) t.size=true∧zw t (m.val:Int)=((Sort.bitsLen m.val:Nat):Int):=by
  intro m t ht;subst ht;constructor
  ·exact aC (by have:=m.isLt; exact this)
  ·revert m; decide +kernel
 obtain⟨k1,k2⟩:=key ⟨n,h⟩ _ rfl;simp only at k1 k2;have hl:=(Sort.bitsLen_le_iff n 8).2 (by omega);have z:(0:Int)+((Sort.bitsLen n:Nat):Int)=((Sort.bitsLen n:Nat):Int):=by omega
 simp(disch:=omega) only[k1,am,k2,z,aG,aa]
theorem npt {n:Nat}(h:n < 256):hX (n:Int)=some (((1 <<< Sort.bitsLen n:Nat)):Int):=by
 have hl:=(Sort.bitsLen_le_iff n 8).2 (by omega);have f:ah .u64 (n:Int)=true:=nK (by omega) (by omega);have d:decide ((0:Int)≤((Sort.bitsLen n:Nat):Int))=true:=by simp
 have e:gA .u64 1 ((Sort.bitsLen n:Nat):Int)=((1 <<< Sort.bitsLen n:Nat):Int):=by
  have hm:min ((Sort.bitsLen n:Nat):Int).toNat (IntKind.bits .u64)=Sort.bitsLen n:=by show min (Sort.bitsLen n) 64=_; omega
  have h2:2^Sort.bitsLen n≤2^8:=Nat.pow_le_pow_right (by omega) hl;unfold gA;rw[hm,show((1:Int)*2^Sort.bitsLen n)=((2^Sort.bitsLen n:Nat):Int)by simp,zQ (by omega),Nat.one_shiftLeft]
 simp only[hX,RW,JF,f,am,Ia h,aa,d,e]
theorem UR (r:UInt64):h9 (r.toNat:Int)=some (((Sort.xorNext r).toNat:Int),((Sort.xorNext r).toNat:Int)):=by
 have s13:∀ a:UInt64,gA .u64 (a.toNat:Int) 13=((a <<< 13).toNat:Int):=fun a=>Jm a 13 (by omega);have s7:∀ a:UInt64,bH .u64 (a.toNat:Int) 7=((a >>> 7).toNat:Int):=fun a=>Wh a 7 (by omega);have s17:∀ a:UInt64,gA .u64 (a.toNat:Int) 17=((a <<< 17).toNat:Int):=fun a=>Jm a 17 (by omega);simp only[h9,RZ,JG,s13,s7,s17,LF,Sort.xorNext]
theorem brk {a b:Nat}{d:Array β}(hab:a≤b)(hb:b≤d.size)(hz:d.size≤250):gB ((a:Int),(b:Int),MA v d)=some (MA v (Sort.breakPatterns d a b)):=by
 unfold Sort.breakPatterns;simp only[];by_cases h8:8≤b-a
 ·have g8:decide ((8:Int)≤((b-a:Nat):Int))=true:=by simp; omega
  have hm1:1 <<< Sort.bitsLen (b-a)≤2*(b-a):=by rw[Nat.one_shiftLeft]; exact Sort.two_pow_bitsLen_le (by omega)
  have hm0:0 < 1 <<< Sort.bitsLen (b-a):=by rw[Nat.one_shiftLeft]; exact Nat.two_pow_pos _
  generalize hm:1 <<< Sort.bitsLen (b-a)=m at *;generalize hn:b-a=n at *
  let st:Nat→UInt64×Array β:=fun k=>Nat.rec (UInt64.ofNat n,d) (fun i s=>Sort.breakStep a n m s (a+n / 4*2-1+i)) k
  have hst:∀ k,(st k).2.size=d.size:=fun k=>by
   induction k with
   | zero=>rfl
   | succ k ih=>show(Sort.swp _ _ _).size=_; rw[aq]; exact ih
  have hrun:xP ((a:Int),(n:Int),(m:Int),((a+n / 4*2-1:Nat):Int),MA v d,(n:Int))=some (MA v (st 3).2,((st 3).1.toNat:Int)):=by
   have h0:((UInt64.ofNat n).toNat:Int)=(n:Int):=by rw[UInt64.toNat_ofNat']; omega
   refine aQ 3 (fun k=>((a:Int),(n:Int),(m:Int),((a+n / 4*2-1+k:Nat):Int),MA v (st k).2,((st k).1.toNat:Int))) _ (fun k hk=>?_) ?_ (by omega) |> fun h=>by
    have e:((a:Int),(n:Int),(m:Int),((a+n / 4*2-1+0:Nat):Int),MA v (st 0).2,((st 0).1.toNat:Int))=((a:Int),(n:Int),(m:Int),((a+n / 4*2-1:Nat):Int),MA v d,(n:Int)):=by
     show(_,_,_,_,_,((UInt64.ofNat n).toNat:Int))=_;rw[h0]; rfl
    rw[← e]; exact h
   ·have q4:Int.tdiv (n:Int) 4=((n / 4:Nat):Int):=CU n;have q5:((n / 4:Nat):Int)*2=((n / 4*2:Nat):Int):=by omega
    have hsz:=hst k;generalize hr:st k=s at *;have hnx:st (k+1)=Sort.breakStep a n m (st k) (a+n / 4*2-1+k):=rfl;rw[hr]at hnx;have hlt:=(Sort.xorNext s.1).toNat_lt;have hbd:(Sort.xorNext s.1).toNat &&& (m-1)≤m-1:=Nat.and_le_right;have fu:ah .u64 ((m-1:Nat):Int)=true:=nK (by omega) (by omega)
    simp(disch:=omega) only[u6,xO,tH,q4,aG,am,q5,an,a1,il,dT,cond_true,UR,aa,fu,p1,LE]
    rw[hnx];unfold Sort.breakStep;simp only[];generalize (Sort.xorNext s.1).toNat &&& (m-1)=o at *;by_cases ho:n≤o
    ·simp(disch:=omega) only[dT,cond_true,pn,aG,am,an,aE,aR,Int.toNat_natCast,bA,aX,bB,if_pos (show o≥n from ho),a1]
     rw[show a+n / 4*2-1+k+1=a+n / 4*2-1+(k+1)by omega]
    ·simp(disch:=omega) only[dF,cond_false,pn,aG,am,an,aE,aR,Int.toNat_natCast,bA,aX,bB,if_neg (show ¬ o≥n from ho),a1]
     rw[show a+n / 4*2-1+k+1=a+n / 4*2-1+(k+1)by omega]
   ·have q4:Int.tdiv (n:Int) 4=((n / 4:Nat):Int):=CU n;have q5:((n / 4:Nat):Int)*2=((n / 4*2:Nat):Int):=by omega
    simp(disch:=omega) only[u6,xO,tH,q4,aG,am,q5,an,a1,il,dF,cond_false]
  have q4:Int.tdiv (n:Int) 4=((n / 4:Nat):Int):=CU n;have q5:((n / 4:Nat):Int)*2=((n / 4*2:Nat):Int):=by omega
  have fu:ah .u64 (n:Int)=true:=nK (by omega) (by omega);have hn':(b:Int)-(a:Int)=(n:Int):=by omega
  have hnp:=npt (n:=n) (by omega);rw[hm]at hnp;have hst3:st 3=Sort.breakStep a n m (Sort.breakStep a n m (Sort.breakStep a n m (UInt64.ofNat n,d) (a+n / 4*2-1)) (a+n / 4*2-1+1)) (a+n / 4*2-1+2):=rfl;rw[hst3]at hrun;rw[if_pos (show n≥8 from h8)]
  simp(disch:=omega) only[u3,gB,R2,JI,hn',aG,am,g8,cond_true,fu,hnp,aa,q4,q5,an,p1,hrun]
 ·have g8:decide ((8:Int)≤((b-a:Nat):Int))=false:=by simp; omega
  simp(disch:=omega) only[u3,gB,R2,JI,pn,aG,am,g8,cond_false,if_neg (show ¬ b-a≥8 from h8)]
theorem rev {a b:Nat}{d:Array β}(hab:a≤b)(hb1:1≤b)(hb:b≤d.size)(hz:d.size≤250):ib ((a:Int),(b:Int),MA v d)=some (MA v (Sort.reverseRange d a b)):=by
 have e:xR ((a:Int),((b-1:Nat):Int),MA v d)=some (MA v (Sort.reverseLoop a (b-1) d)):=by
  refine aI (fun s r n=>∃ (i j:Nat) (d:Array β),j < d.size∧d.size≤250∧i≤250∧s=((i:Int),(j:Int),MA v d)∧r=MA v (Sort.reverseLoop i j d)∧n=j-i) ⟨a,b-1,d,by omega,hz,by omega,rfl,rfl,rfl⟩ (by omega) ?_;rintro s r n ⟨i,j,d,q1,q2,q3,rfl,rfl,rfl⟩;simp only[u3,EW,xQ];by_cases e:i < j
  ·right;rw[show Sort.reverseLoop i j d=Sort.reverseLoop (i+1) (j-1) (Sort.swp d i j)by rw[Sort.reverseLoop,if_pos e]]
   simp(disch:=omega) only[iY,dT,cond_true,aE,aR,am,Int.toNat_natCast,bA,aX,bB,a1,aG,p1]
   exact⟨_,j-1-(i+1),rfl,⟨i+1,j-1,Sort.swp d i j,by rw[aq]; omega,by rwa [aq],by omega,rfl,rfl,rfl⟩,by omega⟩
  ·left;rw[show Sort.reverseLoop i j d=d by rw[Sort.reverseLoop,if_neg e]]
   simp(disch:=omega) only[iY,dF,cond_false]
 simp(disch:=omega) only[u3,ib,W0,Si,p1,aG,am,e,aa,Sort.reverseRange]
include hC
theorem ord {a b s:Nat}{d:Array β}(ha:a < d.size)(hb:b < d.size)(hs:s≤250):qH ((a:Int),(b:Int),MA v d,(s:Int))=some (((Sort.order2 (lt C) d a b s).1:Int),((Sort.order2 (lt C) d a b s).2.1:Int),MA v d,((Sort.order2 (lt C) d a b s).2.2:Int)):=by
 unfold Sort.order2
 simp(disch:=omega) only[u4,qH,WR,R5,aE,am,aR,hC,aa,wP,a1,aG]
 cases lt C d[b]! d[a]! <;> rfl
theorem US {a b c s:Nat}{d:Array β}(ha:a < d.size)(hb:b < d.size)(hc:c < d.size)(hs:s≤200):m9 ((a:Int),(b:Int),(c:Int),MA v d,(s:Int))=some (((Sort.median (lt C) d a b c s).1:Int),MA v d,((Sort.median (lt C) d a b c s).2:Int)):=by
 unfold Sort.median;simp only[];have o1:=Sort.order2_mem (lt C) d a b s;have n1:=Sort.order2_count (lt C) d a b s;generalize g1:Sort.order2 (lt C) d a b s=r1 at *;have o2:=Sort.order2_mem (lt C) d r1.2.1 c r1.2.2;have n2:=Sort.order2_count (lt C) d r1.2.1 c r1.2.2;generalize g2:Sort.order2 (lt C) d r1.2.1 c r1.2.2=r2 at *;have e1:qH ((a:Int),(b:Int),MA v d,(s:Int))=some ((r1.1:Int),(r1.2.1:Int),MA v d,(r1.2.2:Int)):=by rw[ord hC ha hb (by omega),g1]
 have e2:qH ((r1.2.1:Int),(c:Int),MA v d,(r1.2.2:Int))=some ((r2.1:Int),(r2.2.1:Int),MA v d,(r2.2.2:Int)):=by rw[ord hC (by omega) hc (by omega),g2]
 have e3:=ord hC (d:=d) (a:=r1.1) (b:=r2.1) (s:=r2.2.2) (by omega) (by omega) (by omega);simp only[u5,m9,WT,R8,e1,e2,e3,aa]
theorem UT {a s:Nat}{d:Array β}(ha:1≤a)(hb:a+1 < d.size)(hz:d.size≤250)(hs:s≤200):tI ((a:Int),MA v d,(s:Int))=some (((Sort.medianAdjacent (lt C) d a s).1:Int),MA v d,((Sort.medianAdjacent (lt C) d a s).2:Int)):=by
 have e:=US hC (d:=d) (a:=a-1) (b:=a) (c:=a+1) (s:=s) (by omega) (by omega) hb hs;unfold Sort.medianAdjacent
 simp(disch:=omega) only[u3,tI,WW,Sb,p1,aG,am,a1,e,aa]
omit hC
def hN:Sort.Hint→Int
 | .unknown=>0
 | .increasing=>1
 | .decreasing=>2
include hC
theorem chp {a b:Nat}{d:Array β}(hab:a < b)(hb:b≤d.size)(hz:d.size≤250):ia ((a:Int),(b:Int),MA v d)=some (((Sort.choosePivot (lt C) d a b).1:Int),hN (Sort.choosePivot (lt C) d a b).2,MA v d):=by
 unfold Sort.choosePivot;simp only[];generalize hn:b-a=n at *;have q4:Int.tdiv (n:Int) 4=((n / 4:Nat):Int):=CU n;have q1:((n / 4:Nat):Int)*1=((n / 4*1:Nat):Int):=by omega
 have q2:((n / 4:Nat):Int)*2=((n / 4*2:Nat):Int):=by omega
 have q3:((n / 4:Nat):Int)*3=((n / 4*3:Nat):Int):=by omega
 have hn':(b:Int)-(a:Int)=(n:Int):=by omega
 have hfin:∀ (p s:Nat),(cond (decide ((s:Int)=0)) (some ((p:Int),(1:Int),MA v d)) (cond (decide ((s:Int)=12)) (some ((p:Int),(2:Int),MA v d)) (some ((p:Int),(0:Int),MA v d)))) =
   some ((p:Int),hN (if s=0 then Sort.Hint.increasing else if s=12 then Sort.Hint.decreasing else Sort.Hint.unknown),MA v d):=fun p s=>by
  by_cases h0:s=0
  ·subst h0; rfl
  ·have d0:decide ((s:Int)=0)=false:=by simp; omega
   rw[d0,if_neg h0];by_cases h12:s=12
   ·subst h12; rfl
   ·have d1:decide ((s:Int)=12)=false:=by simp; omega
    rw[d1,if_neg h12]; rfl
 simp(disch:=omega) only[u3,ia,WY,Sf,hn',aG,am,q4,q1,q2,q3,an]
 by_cases h8:8≤n
 ·have d8:decide ((8:Int)≤(n:Int))=true:=by simp; omega
  rw[d8,cond_true,if_pos (show n≥8 from h8)];by_cases h50:50≤n
  ·have d50:decide ((50:Int)≤(n:Int))=true:=by simp; omega
   rw[d50,cond_true,if_pos (show n≥50 from h50)];have m1:=Sort.medianAdjacent_mem (lt C) d (a+n / 4*1) 0;have c1:=Sort.medianAdjacent_count (lt C) d (a+n / 4*1) 0;have e1:=UT hC (d:=d) (a:=a+n / 4*1) (s:=0) (by omega) (by omega) hz (by omega);generalize Sort.medianAdjacent (lt C) d (a+n / 4*1) 0=r1 at *;have m2:=Sort.medianAdjacent_mem (lt C) d (a+n / 4*2) r1.2;have c2:=Sort.medianAdjacent_count (lt C) d (a+n / 4*2) r1.2;have e2:=UT hC (d:=d) (a:=a+n / 4*2) (s:=r1.2) (by omega) (by omega) hz (by omega);generalize Sort.medianAdjacent (lt C) d (a+n / 4*2) r1.2=r2 at *;have m3:=Sort.medianAdjacent_mem (lt C) d (a+n / 4*3) r2.2;have c3:=Sort.medianAdjacent_count (lt C) d (a+n / 4*3) r2.2;have e3:=UT hC (d:=d) (a:=a+n / 4*3) (s:=r2.2) (by omega) (by omega) hz (by omega);generalize Sort.medianAdjacent (lt C) d (a+n / 4*3) r2.2=r3 at *;have e4:=US hC (d:=d) (a:=r1.1) (b:=r2.1) (c:=r3.1) (s:=r3.2) (by omega) (by omega) (by omega) (by omega);have e1':tI (((a+n / 4*1:Nat):Int),MA v d,0)=some ((r1.1:Int),MA v d,(r1.2:Int)):=e1;simp only[e1',e2,e3,e4,aa,hfin]
  ·have d50:decide ((50:Int)≤(n:Int))=false:=by simp; omega
   rw[d50,cond_false,if_neg (show ¬ n≥50 from h50)];have e4:m9 (((a+n / 4*1:Nat):Int),((a+n / 4*2:Nat):Int),((a+n / 4*3:Nat):Int),MA v d,0)=some (((Sort.median (lt C) d (a+n / 4*1) (a+n / 4*2) (a+n / 4*3) 0).1:Int),MA v d,((Sort.median (lt C) d (a+n / 4*1) (a+n / 4*2) (a+n / 4*3) 0).2:Int)):=US hC (s:=0) (by omega) (by omega) (by omega) (by omega);simp only[e4,aa,hfin]
 ·have d8:decide ((8:Int)≤(n:Int))=false:=by simp; omega
  rw[d8,cond_false,if_neg (show ¬ n≥8 from h8)];rfl
omit hC
theorem qv (d:Array β)(b:Nat):∀ (n i:Nat),b-i≤n→i≤b→i≤Sort.scanSorted (lt C) d b i∧Sort.scanSorted (lt C) d b i≤b:=by
 intro n
 induction n with
 | zero=>intro i h1 h2; rw[Sort.scanSorted,if_neg (by simp; omega)]; omega
 | succ n ih=>
  intro i h1 h2;rw[Sort.scanSorted];split
  ·rename_i h;simp only[Bool.and_eq_true,decide_eq_true_eq]at h;have:=ih (i+1) (by omega) (by omega);omega
  ·omega
theorem jO:∀ (j:Nat) (d:Array β),(Sort.shiftDown (lt C) j d).size=d.size
 | 0,d=>by rw[Sort.shiftDown]
 | j+1,d=>by
  rw[Sort.shiftDown];split
  ·rfl
  ·rw[jO j,aq]
theorem jP (b:Nat):∀ (n j:Nat) (d:Array β),b-j≤n→(Sort.shiftUp (lt C) b j d).size=d.size:=by
 intro n
 induction n with
 | zero=>intro j d h; rw[Sort.shiftUp,if_neg (by omega)]
 | succ n ih=>
  intro j d h;rw[Sort.shiftUp];split
  ·split
   ·rfl
   ·rw[ih _ _ (by omega),aq]
  ·rfl
include hC
theorem ps1 {a b i j:Nat}{d:Array β}(h1:1≤i)(hb:b≤d.size)(hz:d.size≤250)(hi:i≤250):xT ((a:Int),(b:Int),(i:Int),(j:Int),MA v d)=some ((a:Int),(b:Int),((Sort.scanSorted (lt C) d b i:Nat):Int),(j:Int),MA v d):=by
 refine aI (fun s r n=>∃ i:Nat,1≤i∧i≤251∧s=((a:Int),(b:Int),(i:Int),(j:Int),MA v d)∧r=((a:Int),(b:Int),((Sort.scanSorted (lt C) d b i:Nat):Int),(j:Int),MA v d)∧n=b-i) ⟨i,h1,by omega,rfl,rfl,rfl⟩ (by omega) ?_;rintro s r n ⟨i,q1,q2,rfl,rfl,rfl⟩;simp only[u5,E7,xS];by_cases e:i < b
 ·simp(disch:=omega) only[iY,dT,cond_true,aE,am,p1,aG,aR,hC,aa,wP]
  cases hl:lt C d[i]! d[i-1]!
  ·right;rw[show Sort.scanSorted (lt C) d b i=Sort.scanSorted (lt C) d b (i+1)by rw[Sort.scanSorted,if_pos (by simp[e,hl])]]
   simp(disch:=omega) only[Bool.not_false,cond_true,a1,aG,am]
   exact⟨_,b-(i+1),rfl,⟨i+1,by omega,by omega,rfl,rfl,rfl⟩,by omega⟩
  ·left;rw[show Sort.scanSorted (lt C) d b i=i by rw[Sort.scanSorted,if_neg (by simp[hl])]];simp only[Bool.not_true,cond_false]
 ·left;rw[show Sort.scanSorted (lt C) d b i=i by rw[Sort.scanSorted,if_neg (by simp[e])]]
  simp(disch:=omega) only[iY,dF,cond_false]
theorem ps3 {a b i j k:Nat}{d:Array β}(hk:k < d.size)(hz:d.size≤250):xV ((a:Int),(b:Int),(i:Int),(j:Int),(k:Int),MA v d)=some ((a:Int),(b:Int),(i:Int),(j:Int),MA v (Sort.shiftDown (lt C) k d)):=by
 refine aI (fun s r n=>∃ (k:Nat) (d:Array β),k < d.size∧d.size≤250∧s=((a:Int),(b:Int),(i:Int),(j:Int),(k:Int),MA v d)∧r=((a:Int),(b:Int),(i:Int),(j:Int),MA v (Sort.shiftDown (lt C) k d))∧n=k) ⟨k,d,hk,hz,rfl,rfl,rfl⟩ (by omega) ?_;rintro s r n ⟨k,d,q1,q2,rfl,rfl,rfl⟩;simp only[u6,E9,xU];cases n with
 | zero=>left; rw[Sort.shiftDown]; rfl
 | succ k=>
  have g1:decide ((1:Int)≤((k+1:Nat):Int))=true:=by simp; omega
  simp(disch:=omega) only[g1,cond_true,aE,am,p1,aG,aR,hC,aa,wP,Nat.add_sub_cancel]
  cases hl:lt C d[k+1]! d[k]!
  ·left;rw[show Sort.shiftDown (lt C) (k+1) d=d by rw[Sort.shiftDown,if_pos (by simp[hl])]];simp only[Bool.not_false,cond_true]
  ·right;rw[show Sort.shiftDown (lt C) (k+1) d=Sort.shiftDown (lt C) k (Sort.swp d (k+1) k)by rw[Sort.shiftDown,if_neg (by simp[hl])]]
   simp(disch:=omega) only[Bool.not_true,cond_false,aE,am,aR,Int.toNat_natCast,bA,aX,bB]
   exact⟨_,k,rfl,⟨k,Sort.swp d (k+1) k,by rw[aq]; omega,by rwa [aq],rfl,rfl,rfl⟩,by omega⟩
theorem ps2 {a b i j:Nat}{d:Array β}(ha:a≤i)(h1:1≤i)(hi:i≤d.size)(hz:d.size≤250):tJ ((a:Int),(b:Int),(i:Int),(j:Int),MA v d)=some ((a:Int),(b:Int),(i:Int),(j:Int),MA v (if i-a≥2 then Sort.shiftDown (lt C) (i-1) d else d)):=by
 simp only[tJ,Fa,xW];by_cases e:2≤i-a
 ·have g1:decide ((2:Int)≤((i-a:Nat):Int))=true:=by simp; omega
  simp(disch:=omega) only[pn,aG,am,g1,cond_true,p1,ps3 hC,aa,if_pos (show i-a≥2 from e)]
 ·have g1:decide ((2:Int)≤((i-a:Nat):Int))=false:=by simp; omega
  simp(disch:=omega) only[pn,aG,am,g1,cond_false,if_neg (show ¬ i-a≥2 from e)]
theorem ps4 {a b i j k:Nat}{d:Array β}(h1:1≤k)(hk:k≤250)(hb:b≤d.size)(hz:d.size≤250):xY ((a:Int),(b:Int),(i:Int),(j:Int),(k:Int),MA v d)=some ((a:Int),(b:Int),(i:Int),(j:Int),MA v (Sort.shiftUp (lt C) b k d)):=by
 refine aI (fun s r n=>∃ (k:Nat) (d:Array β),1≤k∧k≤251∧b≤d.size∧d.size≤250∧s=((a:Int),(b:Int),(i:Int),(j:Int),(k:Int),MA v d)∧r=((a:Int),(b:Int),(i:Int),(j:Int),MA v (Sort.shiftUp (lt C) b k d))∧n=b-k) ⟨k,d,h1,by omega,hb,hz,rfl,rfl,rfl⟩ (by omega) ?_;rintro s r n ⟨k,d,q1,q0,q2,q3,rfl,rfl,rfl⟩;simp only[u6,Fc,xX];by_cases e:k < b
 ·simp(disch:=omega) only[iY,dT,cond_true,aE,am,p1,aG,aR,hC,aa,wP]
  cases hl:lt C d[k]! d[k-1]!
  ·left;rw[show Sort.shiftUp (lt C) b k d=d by rw[Sort.shiftUp,if_pos e,if_pos (by simp[hl])]];simp only[Bool.not_false,cond_true]
  ·right;rw[show Sort.shiftUp (lt C) b k d=Sort.shiftUp (lt C) b (k+1) (Sort.swp d k (k-1))by rw[Sort.shiftUp,if_pos e,if_neg (by simp[hl])]]
   simp(disch:=omega) only[Bool.not_true,cond_false,aE,am,aR,Int.toNat_natCast,bA,aX,bB,a1,aG]
   exact⟨_,b-(k+1),rfl,⟨k+1,Sort.swp d k (k-1),by omega,by omega,by rwa [aq],by rwa [aq],rfl,rfl,rfl⟩,by omega⟩
 ·left;rw[show Sort.shiftUp (lt C) b k d=d by rw[Sort.shiftUp,if_neg e]]
  simp(disch:=omega) only[iY,dF,cond_false]
theorem pis {a b:Nat}{d:Array β}(hab:a < b)(hb:b≤d.size)(hz:d.size≤250):ic ((a:Int),(b:Int),MA v d)=some ((Sort.partialInsertionSort (lt C) d a b).2,MA v (Sort.partialInsertionSort (lt C) d a b).1):=by
 have key:∃ y,x4 ((a:Int),(b:Int),((a+1:Nat):Int),0,MA v d)=some y∧Sum.elim (fun y=>(y.2,y.1)) (fun y=>(y,false)) y=(MA v (Sort.partialInsertionSort (lt C) d a b).1,(Sort.partialInsertionSort (lt C) d a b).2):=by
  refine iO (fun s n=>∃ (t i:Nat) (d':Array β),t≤5∧a < i∧i≤b∧b≤d'.size∧d'.size≤250∧s=((a:Int),(b:Int),(i:Int),((5-t:Nat):Int),MA v d')∧Sort.partialIns (lt C) a b t i d'=Sort.partialInsertionSort (lt C) d a b∧n=t) _
   ⟨5,a+1,d,by omega,by omega,by omega,hb,hz,rfl,rfl,rfl⟩ (by omega) ?_
  rintro s n ⟨t,i,d',q1,q2,q3,q4,q5,rfl,q6,rfl⟩;rw[← q6]
  clear q6
  simp only[u5,Fe,xZ];cases n with
  | zero=>left; exact⟨_,rfl,rfl⟩
  | succ t=>
   have g0:decide (((5-(t+1):Nat):Int) < 5)=true:=by simp; omega
   have hs:=qv (C:=C) d' b _ i (Nat.le_refl _) q3;rw[Sort.partialIns]
   simp(disch:=omega) only[g0,cond_true,ps1 hC,aa]
   generalize Sort.scanSorted (lt C) d' b i=i2 at *;by_cases e:i2=b
   ·left;have g1:decide ((i2:Int)=(b:Int))=true:=by simp; omega
    simp only[g1,cond_true,if_pos e];exact⟨_,rfl,rfl⟩
   ·have g1:decide ((i2:Int)=(b:Int))=false:=by simp; omega
    simp(disch:=omega) only[g1,cond_false,if_neg e,pn,aG,am]
    by_cases e5:b-a < 50
    ·left;have g2:decide (((b-a:Nat):Int) < 50)=true:=by simp; omega
     simp only[g2,cond_true,if_pos e5];exact⟨_,rfl,rfl⟩
    ·right;have g2:decide (((b-a:Nat):Int) < 50)=false:=by simp; omega
     have z1:(Sort.swp d' i2 (i2-1)).size=d'.size:=aq _ _ _
     simp(disch:=omega) only[g2,cond_false,if_neg e5,p1,aG,am,aE,aR,Int.toNat_natCast,bA,aX,bB,ps2 hC,aa,pn]
     generalize hd2:(if i2-a≥2 then Sort.shiftDown (lt C) (i2-1) (Sort.swp d' i2 (i2-1))else Sort.swp d' i2 (i2-1))=d2;have z2:d2.size=d'.size:=by
      rw[← hd2]; split
      ·rw[jO,z1]
      ·exact z1
     by_cases e2:2≤b-i2
     ·have g3:decide ((2:Int)≤((b-i2:Nat):Int))=true:=by simp; omega
      simp(disch:=omega) only[g3,cond_true,a1,aG,am,ps4 hC,aa,if_pos (show b-i2≥2 from e2)]
      exact⟨_,t,rfl,⟨t,i2,Sort.shiftUp (lt C) b (i2+1) d2,by omega,by omega,by omega,by rw[jP _ _ _ _ (Nat.le_refl _)]; omega,by rw[jP _ _ _ _ (Nat.le_refl _)]; omega,by rw[show 5-(t+1)+1=5-t by omega],rfl,rfl⟩,by omega⟩
     ·have g3:decide ((2:Int)≤((b-i2:Nat):Int))=false:=by simp; omega
      simp(disch:=omega) only[g3,cond_false,a1,aG,am,if_neg (show ¬ b-i2≥2 from e2)]
      exact⟨_,t,rfl,⟨t,i2,d2,by omega,by omega,by omega,by omega,by omega,by rw[show 5-(t+1)+1=5-t by omega],rfl,rfl⟩,by omega⟩
 obtain⟨y,e1,e2⟩:=key
 simp(disch:=omega) only[u3,ic,W2,Su,a1,aG,am,e1,aa]
 cases y with
 | inl x=>
  simp only[Sum.elim_inl,Prod.mk.injEq]at e2 ⊢;rw[e2.1,e2.2]
 | inr x=>
  simp only[Sum.elim_inr,Prod.mk.injEq]at e2 ⊢;rw[e2.1,e2.2]
theorem pe1 {a i j:Nat}{d:Array β}(ha:a < d.size)(hj:j < d.size)(hz:d.size≤250):x6 ((a:Int),(i:Int),(j:Int),MA v d)=some ((a:Int),((Sort.scanUp (fun x=>!lt C d[a]! x) d j i:Nat):Int),(j:Int),MA v d):=by
 refine aI (fun s r n=>∃ i:Nat,s=((a:Int),(i:Int),(j:Int),MA v d)∧r=((a:Int),((Sort.scanUp (fun x=>!lt C d[a]! x) d j i:Nat):Int),(j:Int),MA v d)∧n=j+1-i) ⟨i,rfl,rfl,rfl⟩ (by omega) ?_;rintro s r n ⟨i,rfl,rfl,rfl⟩;simp only[u4,Fj,x5];by_cases e:i≤j
 ·simp(disch:=omega) only[il,dT,cond_true,aE,am,aG,aR,hC,aa,wP]
  cases hl:lt C d[a]! d[i]!
  ·right;rw[show Sort.scanUp (fun x=>!lt C d[a]! x) d j i=Sort.scanUp (fun x=>!lt C d[a]! x) d j (i+1)by rw[Sort.scanUp,if_pos (by simp[e,hl])]]
   simp(disch:=omega) only[Bool.not_false,cond_true,a1,aG,am]
   exact⟨_,j+1-(i+1),rfl,⟨i+1,rfl,rfl,rfl⟩,by omega⟩
  ·left;rw[show Sort.scanUp (fun x=>!lt C d[a]! x) d j i=i by rw[Sort.scanUp,if_neg (by simp[hl])]];simp only[Bool.not_true,cond_false]
 ·left;rw[show Sort.scanUp (fun x=>!lt C d[a]! x) d j i=i by rw[Sort.scanUp,if_neg (by simp[e])]]
  simp(disch:=omega) only[il,dF,cond_false]
theorem pe2 {a i j:Nat}{d:Array β}(ha:a < d.size)(hi:1≤i)(hj:j < d.size)(hz:d.size≤250):x8 ((a:Int),(i:Int),(j:Int),MA v d)=some ((a:Int),(i:Int),((Sort.scanDown (fun x=>lt C d[a]! x) d i j:Nat):Int),MA v d):=by
 refine aI (fun s r n=>∃ j:Nat,j < d.size∧s=((a:Int),(i:Int),(j:Int),MA v d)∧r=((a:Int),(i:Int),((Sort.scanDown (fun x=>lt C d[a]! x) d i j:Nat):Int),MA v d)∧n=j) ⟨j,hj,rfl,rfl,rfl⟩ (by omega) ?_;rintro s r n ⟨j,q1,rfl,rfl,rfl⟩;simp only[u4,Fl,x7];cases n with
 | zero=>
  left;rw[show Sort.scanDown (fun x=>lt C d[a]! x) d i 0=0 by rw[Sort.scanDown]]
  simp(disch:=omega) only[il,dF,cond_false]
 | succ j=>
  by_cases e:i≤j+1
  ·simp(disch:=omega) only[il,dT,cond_true,aE,am,aG,aR,hC,aa,wP]
   cases hl:lt C d[a]! d[j+1]!
   ·left;rw[show Sort.scanDown (fun x=>lt C d[a]! x) d i (j+1)=j+1 by rw[Sort.scanDown,if_neg (by simp[hl])]];simp only[cond_false]
   ·right;rw[show Sort.scanDown (fun x=>lt C d[a]! x) d i (j+1)=Sort.scanDown (fun x=>lt C d[a]! x) d i j by rw[Sort.scanDown,if_pos (by simp[e,hl])]]
    simp(disch:=omega) only[cond_true,p1,Nat.add_sub_cancel,aG,am]
    exact⟨_,j,rfl,⟨j,by omega,rfl,rfl,rfl⟩,by omega⟩
  ·left;rw[show Sort.scanDown (fun x=>lt C d[a]! x) d i (j+1)=j+1 by rw[Sort.scanDown,if_neg (by simp[e])]]
   simp(disch:=omega) only[il,dF,cond_false]
theorem pr0 {a i j:Nat}{d:Array β}(ha:a < d.size)(hj:j < d.size)(hz:d.size≤250):yc ((a:Int),(i:Int),(j:Int),MA v d)=some ((a:Int),((Sort.scanUp (fun x=>lt C x d[a]!) d j i:Nat):Int),(j:Int),MA v d):=by
 refine aI (fun s r n=>∃ i:Nat,s=((a:Int),(i:Int),(j:Int),MA v d)∧r=((a:Int),((Sort.scanUp (fun x=>lt C x d[a]!) d j i:Nat):Int),(j:Int),MA v d)∧n=j+1-i) ⟨i,rfl,rfl,rfl⟩ (by omega) ?_;rintro s r n ⟨i,rfl,rfl,rfl⟩;simp only[u4,Fw,yb];by_cases e:i≤j
 ·simp(disch:=omega) only[il,dT,cond_true,aE,am,aG,aR,hC,aa,wP]
  cases hl:lt C d[i]! d[a]!
  ·left;rw[show Sort.scanUp (fun x=>lt C x d[a]!) d j i=i by rw[Sort.scanUp,if_neg (by simp[hl])]];simp only[cond_false]
  ·right;rw[show Sort.scanUp (fun x=>lt C x d[a]!) d j i=Sort.scanUp (fun x=>lt C x d[a]!) d j (i+1)by rw[Sort.scanUp,if_pos (by simp[e,hl])]]
   simp(disch:=omega) only[cond_true,a1,aG,am]
   exact⟨_,j+1-(i+1),rfl,⟨i+1,rfl,rfl,rfl⟩,by omega⟩
 ·left;rw[show Sort.scanUp (fun x=>lt C x d[a]!) d j i=i by rw[Sort.scanUp,if_neg (by simp[e])]]
  simp(disch:=omega) only[il,dF,cond_false]
theorem pr1 {a i j:Nat}{d:Array β}(ha:a < d.size)(hi:1≤i)(hj:j < d.size)(hz:d.size≤250):ye ((a:Int),(i:Int),(j:Int),MA v d)=some ((a:Int),(i:Int),((Sort.scanDown (fun x=>!lt C x d[a]!) d i j:Nat):Int),MA v d):=by
 refine aI (fun s r n=>∃ j:Nat,j < d.size∧s=((a:Int),(i:Int),(j:Int),MA v d)∧r=((a:Int),(i:Int),((Sort.scanDown (fun x=>!lt C x d[a]!) d i j:Nat):Int),MA v d)∧n=j) ⟨j,hj,rfl,rfl,rfl⟩ (by omega) ?_;rintro s r n ⟨j,q1,rfl,rfl,rfl⟩;simp only[u4,Fy,yd];cases n with
 | zero=>
  left;rw[show Sort.scanDown (fun x=>!lt C x d[a]!) d i 0=0 by rw[Sort.scanDown]]
  simp(disch:=omega) only[il,dF,cond_false]
 | succ j=>
  by_cases e:i≤j+1
  ·simp(disch:=omega) only[il,dT,cond_true,aE,am,aG,aR,hC,aa,wP]
   cases hl:lt C d[j+1]! d[a]!
   ·right;rw[show Sort.scanDown (fun x=>!lt C x d[a]!) d i (j+1)=Sort.scanDown (fun x=>!lt C x d[a]!) d i j by rw[Sort.scanDown,if_pos (by simp[e,hl])]]
    simp(disch:=omega) only[Bool.not_false,cond_true,p1,Nat.add_sub_cancel,aG,am]
    exact⟨_,j,rfl,⟨j,by omega,rfl,rfl,rfl⟩,by omega⟩
   ·left;rw[show Sort.scanDown (fun x=>!lt C x d[a]!) d i (j+1)=j+1 by rw[Sort.scanDown,if_neg (by simp[hl])]];simp only[Bool.not_true,cond_false]
  ·left;rw[show Sort.scanDown (fun x=>!lt C x d[a]!) d i (j+1)=j+1 by rw[Sort.scanDown,if_neg (by simp[e])]]
   simp(disch:=omega) only[il,dF,cond_false]
theorem pr3 {a i j:Nat}{d:Array β}(ha:a < d.size)(hj:j < d.size)(hz:d.size≤250):yg ((a:Int),(i:Int),(j:Int),MA v d)=some ((a:Int),((Sort.scanUp (fun x=>lt C x d[a]!) d j i:Nat):Int),(j:Int),MA v d):=by
 refine aI (fun s r n=>∃ i:Nat,s=((a:Int),(i:Int),(j:Int),MA v d)∧r=((a:Int),((Sort.scanUp (fun x=>lt C x d[a]!) d j i:Nat):Int),(j:Int),MA v d)∧n=j+1-i) ⟨i,rfl,rfl,rfl⟩ (by omega) ?_;rintro s r n ⟨i,rfl,rfl,rfl⟩;simp only[u4,FA,yf];by_cases e:i≤j
 ·simp(disch:=omega) only[il,dT,cond_true,aE,am,aG,aR,hC,aa,wP]
  cases hl:lt C d[i]! d[a]!
  ·left;rw[show Sort.scanUp (fun x=>lt C x d[a]!) d j i=i by rw[Sort.scanUp,if_neg (by simp[hl])]];simp only[cond_false]
  ·right;rw[show Sort.scanUp (fun x=>lt C x d[a]!) d j i=Sort.scanUp (fun x=>lt C x d[a]!) d j (i+1)by rw[Sort.scanUp,if_pos (by simp[e,hl])]]
   simp(disch:=omega) only[cond_true,a1,aG,am]
   exact⟨_,j+1-(i+1),rfl,⟨i+1,rfl,rfl,rfl⟩,by omega⟩
 ·left;rw[show Sort.scanUp (fun x=>lt C x d[a]!) d j i=i by rw[Sort.scanUp,if_neg (by simp[e])]]
  simp(disch:=omega) only[il,dF,cond_false]
theorem pr4 {a i j:Nat}{d:Array β}(ha:a < d.size)(hi:1≤i)(hj:j < d.size)(hz:d.size≤250):yi ((a:Int),(i:Int),(j:Int),MA v d)=some ((a:Int),(i:Int),((Sort.scanDown (fun x=>!lt C x d[a]!) d i j:Nat):Int),MA v d):=by
 refine aI (fun s r n=>∃ j:Nat,j < d.size∧s=((a:Int),(i:Int),(j:Int),MA v d)∧r=((a:Int),(i:Int),((Sort.scanDown (fun x=>!lt C x d[a]!) d i j:Nat):Int),MA v d)∧n=j) ⟨j,hj,rfl,rfl,rfl⟩ (by omega) ?_;rintro s r n ⟨j,q1,rfl,rfl,rfl⟩;simp only[u4,FC,yh];cases n with
 | zero=>
  left;rw[show Sort.scanDown (fun x=>!lt C x d[a]!) d i 0=0 by rw[Sort.scanDown]]
  simp(disch:=omega) only[il,dF,cond_false]
 | succ j=>
  by_cases e:i≤j+1
  ·simp(disch:=omega) only[il,dT,cond_true,aE,am,aG,aR,hC,aa,wP]
   cases hl:lt C d[j+1]! d[a]!
   ·right;rw[show Sort.scanDown (fun x=>!lt C x d[a]!) d i (j+1)=Sort.scanDown (fun x=>!lt C x d[a]!) d i j by rw[Sort.scanDown,if_pos (by simp[e,hl])]]
    simp(disch:=omega) only[Bool.not_false,cond_true,p1,Nat.add_sub_cancel,aG,am]
    exact⟨_,j,rfl,⟨j,by omega,rfl,rfl,rfl⟩,by omega⟩
   ·left;rw[show Sort.scanDown (fun x=>!lt C x d[a]!) d i (j+1)=j+1 by rw[Sort.scanDown,if_neg (by simp[hl])]];simp only[Bool.not_true,cond_false]
  ·left;rw[show Sort.scanDown (fun x=>!lt C x d[a]!) d i (j+1)=j+1 by rw[Sort.scanDown,if_neg (by simp[e])]]
   simp(disch:=omega) only[il,dF,cond_false]
theorem peq {a b p:Nat}{d:Array β}(ha:a < d.size)(hp:p < d.size)(hb:b≤d.size)(hb1:1≤b)(hz:d.size≤250):ig ((a:Int),(b:Int),(p:Int),MA v d)=some (((Sort.partitionEqual (lt C) d a b p).1:Int),MA v (Sort.partitionEqual (lt C) d a b p).2):=by
 have key:∀ {i j:Nat} {d:Array β},a < d.size→1≤i→j < d.size→d.size≤250→ya ((a:Int),(i:Int),(j:Int),MA v d)=some (((Sort.partEqLoop (lt C) a i j d).1:Int),MA v (Sort.partEqLoop (lt C) a i j d).2):=by
  intro i j d ha hi hj hz;refine aI (fun s r n=>∃ (i j:Nat) (d:Array β),a < d.size∧1≤i∧j < d.size∧d.size≤250∧s=((a:Int),(i:Int),(j:Int),MA v d)∧r=(((Sort.partEqLoop (lt C) a i j d).1:Int),MA v (Sort.partEqLoop (lt C) a i j d).2)∧n=j+1-i) ⟨i,j,d,ha,hi,hj,hz,rfl,rfl,rfl⟩ (by omega) ?_;rintro s r n ⟨i,j,d,q1,q2,q3,q4,rfl,rfl,rfl⟩;have u1:=Sort.scanUp_ge (fun x=>!lt C d[a]! x) d j i;have u2:=Sort.scanDown_le (fun x=>lt C d[a]! x) d (Sort.scanUp (fun x=>!lt C d[a]! x) d j i) j;rw[Sort.partEqLoop_eq]
  simp(disch:=omega) only[u4,Fo,x9,pe1 hC,pe2 hC,aa]
  generalize Sort.scanUp (fun x=>!lt C d[a]! x) d j i=i2 at *;generalize Sort.scanDown (fun x=>lt C d[a]! x) d i2 j=j2 at *;by_cases e:j2 < i2
  ·left; simp(disch:=omega) only[iY,dT,cond_true,if_pos (show i2 > j2 from e)]
  ·right
   simp(disch:=omega) only[iY,dF,cond_false,if_neg (show ¬ i2 > j2 from e),aE,am,aR,Int.toNat_natCast,bA,aX,bB,a1,aG,p1]
   exact⟨_,j2-1+1-(i2+1),rfl,⟨i2+1,j2-1,Sort.swp d i2 j2,by rwa [aq],by omega,by rw[aq]; omega,by rwa [aq],rfl,rfl,rfl⟩,by omega⟩
 have k:=key (i:=a+1) (j:=b-1) (d:=Sort.swp d a p) (by rwa [aq]) (by omega) (by rw[aq]; omega) (by rwa [aq])
 simp(disch:=omega) only[u4,ig,W5,SB,aE,am,aR,Int.toNat_natCast,bA,aX,bB,a1,aG,p1,k,aa,Sort.partitionEqual]
omit hC
theorem Ib (a:Nat):∀ (n i j:Nat) (d:Array β),j+1-i≤n→(Sort.partLoop (lt C) a i j d).1≤j∧(Sort.partLoop (lt C) a i j d).2.size=d.size:=by
 intro n
 induction n with
 | zero=>
  intro i j d h;have u1:=Sort.scanUp_ge (fun x=>lt C x d[a]!) d j i;have u2:=Sort.scanDown_le (fun x=>!lt C x d[a]!) d (Sort.scanUp (fun x=>lt C x d[a]!) d j i) j;rw[Sort.partLoop_eq,if_pos (by omega)];exact⟨u2,rfl⟩
 | succ n ih=>
  intro i j d h;have u1:=Sort.scanUp_ge (fun x=>lt C x d[a]!) d j i;have u2:=Sort.scanDown_le (fun x=>!lt C x d[a]!) d (Sort.scanUp (fun x=>lt C x d[a]!) d j i) j;rw[Sort.partLoop_eq];split
  ·exact⟨u2,rfl⟩
  ·have:=ih (Sort.scanUp (fun x=>lt C x d[a]!) d j i+1) (Sort.scanDown (fun x=>!lt C x d[a]!) d (Sort.scanUp (fun x=>lt C x d[a]!) d j i) j-1) (Sort.swp d (Sort.scanUp (fun x=>lt C x d[a]!) d j i) (Sort.scanDown (fun x=>!lt C x d[a]!) d (Sort.scanUp (fun x=>lt C x d[a]!) d j i) j)) (by omega);exact⟨by omega,by rw[this.2,aq]⟩
include hC
theorem jN {a b p:Nat}{d:Array β}(ha:a < d.size)(hp:p < d.size)(hb:b≤d.size)(hb1:1≤b)(hz:d.size≤250):gD ((a:Int),(b:Int),(p:Int),MA v d)=some (((Sort.partition (lt C) d a b p).1:Int),(Sort.partition (lt C) d a b p).2.1,MA v (Sort.partition (lt C) d a b p).2.2):=by
 have key:∀ {i j:Nat} {d:Array β},a < d.size→1≤i→j < d.size→d.size≤250→yk ((a:Int),(i:Int),(j:Int),MA v d)=some ((a:Int),((Sort.partLoop (lt C) a i j d).1:Int),MA v (Sort.partLoop (lt C) a i j d).2):=by
  intro i j d ha hi hj hz;refine aI (fun s r n=>∃ (i j:Nat) (d:Array β),a < d.size∧1≤i∧j < d.size∧d.size≤250∧s=((a:Int),(i:Int),(j:Int),MA v d)∧r=((a:Int),((Sort.partLoop (lt C) a i j d).1:Int),MA v (Sort.partLoop (lt C) a i j d).2)∧n=j+1-i) ⟨i,j,d,ha,hi,hj,hz,rfl,rfl,rfl⟩ (by omega) ?_;rintro s r n ⟨i,j,d,q1,q2,q3,q4,rfl,rfl,rfl⟩;have u1:=Sort.scanUp_ge (fun x=>lt C x d[a]!) d j i;have u2:=Sort.scanDown_le (fun x=>!lt C x d[a]!) d (Sort.scanUp (fun x=>lt C x d[a]!) d j i) j;rw[Sort.partLoop_eq]
  simp(disch:=omega) only[u4,FE,yj,pr3 hC,pr4 hC,aa]
  generalize Sort.scanUp (fun x=>lt C x d[a]!) d j i=i2 at *;generalize Sort.scanDown (fun x=>!lt C x d[a]!) d i2 j=j2 at *;by_cases e:j2 < i2
  ·left; simp(disch:=omega) only[iY,dT,cond_true,if_pos (show i2 > j2 from e)]
  ·right
   simp(disch:=omega) only[iY,dF,cond_false,if_neg (show ¬ i2 > j2 from e),aE,am,aR,Int.toNat_natCast,bA,aX,bB,a1,aG,p1]
   exact⟨_,j2-1+1-(i2+1),rfl,⟨i2+1,j2-1,Sort.swp d i2 j2,by rwa [aq],by omega,by rw[aq]; omega,by rwa [aq],rfl,rfl,rfl⟩,by omega⟩
 unfold Sort.partition;simp only[];have z1:(Sort.swp d a p).size=d.size:=aq _ _ _;generalize hd:Sort.swp d a p=d1 at *;have u1:=Sort.scanUp_ge (fun x=>lt C x d1[a]!) d1 (b-1) (a+1);have u2:=Sort.scanDown_le (fun x=>!lt C x d1[a]!) d1 (Sort.scanUp (fun x=>lt C x d1[a]!) d1 (b-1) (a+1)) (b-1)
 simp(disch:=omega) only[u4,gD,W7,SM,aE,am,aR,Int.toNat_natCast,bA,aX,bB,hd,a1,aG,p1,pr0 hC,pr1 hC,aa]
 generalize Sort.scanUp (fun x=>lt C x d1[a]!) d1 (b-1) (a+1)=i2 at *;generalize Sort.scanDown (fun x=>!lt C x d1[a]!) d1 i2 (b-1)=j2 at *;by_cases e:j2 < i2
 ·simp(disch:=omega) only[iY,dT,cond_true,if_pos (show i2 > j2 from e),aE,am,aR,Int.toNat_natCast,bA,aX,bB]
 ·have z2:(Sort.swp d1 i2 j2).size=d1.size:=aq _ _ _;have k:=key (i:=i2+1) (j:=j2-1) (d:=Sort.swp d1 i2 j2) (by omega) (by omega) (by omega) (by omega);have hl:=Ib (C:=C) a _ (i2+1) (j2-1) (Sort.swp d1 i2 j2) (Nat.le_refl _)
  simp(disch:=omega) only[iY,dF,cond_false,if_neg (show ¬ i2 > j2 from e),aE,am,aR,Int.toNat_natCast,bA,aX,bB,a1,aG,p1,k,aa]
theorem UU (hS:Sort.SWO (lt C)):∀ (n f m a b limit:Nat) (wb wp:Bool) (d:Array β),n < f→n < m→n≤1000→b-a≤n→a≤b→b≤d.size→d.size≤250→limit≤250→Sort.Below (lt C) a b d →
  goF (fun x=>lq (i9 f) x.1 x.2.1 x.2.2.1 x.2.2.2.1 x.2.2.2.2.1 x.2.2.2.2.2) m ((a:Int),(b:Int),(limit:Int),wb,wp,MA v d)=some (MA v (Sort.pdq (lt C) d a b limit wb wp)):=by
 have small:∀ (f m a b limit:Nat) (wb wp:Bool) (d:Array β),0 < m→b-a≤12→a≤b→b≤d.size→d.size≤250→goF (fun x=>lq (i9 f) x.1 x.2.1 x.2.2.1 x.2.2.2.1 x.2.2.2.2.1 x.2.2.2.2.2) m ((a:Int),(b:Int),(limit:Int),wb,wp,MA v d)=some (MA v (Sort.pdq (lt C) d a b limit wb wp)):=by
  intro f m a b limit wb wp d hm h12 hab hb hz;obtain⟨m,rfl⟩:∃ m',m=m'+1:=⟨m-1,by omega⟩;have g:decide (((b-a:Nat):Int)≤12)=true:=by simp; omega
  rw[Sort.pdq,if_pos h12]
  simp(disch:=omega) only[u6,goF,lq,p9,pn,aG,am,g,cond_true,ins hC,aa]
 intro n
 induction n with
 | zero=>intro f m a b limit wb wp d h1 h2 hn h3 hab hb hz hl hB; exact small f m a b limit wb wp d h2 (by omega) hab hb hz
 | succ n ih=>
  intro f m a b limit wb wp d h1 h2 hn h3 hab hb hz hl hB;by_cases h12:b-a≤12
  ·exact small f m a b limit wb wp d (by omega) h12 hab hb hz
  obtain⟨m,rfl⟩:∃ m',m=m'+1:=⟨m-1,by omega⟩;obtain⟨f,rfl⟩:∃ f',f=f'+1:=⟨f-1,by omega⟩;have g12:decide (((b-a:Nat):Int)≤12)=false:=by simp; omega
  rw[Sort.pdq,if_neg h12];by_cases h0:limit=0
  ·subst h0;have g0:decide (((0:Nat):Int)=0)=true:=rfl
   simp(disch:=omega) only[u6,goF,lq,p9,pn,aG,am,g12,cond_false,g0,cond_true,heap hC,aa,if_true]
  have g0:decide ((limit:Int)=0)=false:=by simp; omega
  rw[if_neg h0];simp only[];have e1:pZ (i9 (f+1)) ((a:Int),(b:Int),(limit:Int),wb,wp,((b-a:Nat):Int),MA v d)=some ((a:Int),(b:Int),((if(!wb)=true then limit-1 else limit:Nat):Int),wb,wp,((b-a:Nat):Int),MA v (if(!wb)=true then Sort.breakPatterns d a b else d)):=by
   cases wb
   ·simp(disch:=omega) only[pZ,ym,tL,Bool.not_false,cond_true,brk,aa,p1,aG,am,if_true]
   ·simp only[pZ,ym,tL,Bool.not_true,cond_false,Bool.false_eq_true,if_false]
  have s1:Sort.PermIn a b d (if(!wb)=true then Sort.breakPatterns d a b else d):=by
   split
   ·exact Sort.breakPatterns_holds d a b hab hb
   ·exact Sort.permIn_refl _ _ _
  have hl1:(if(!wb)=true then limit-1 else limit)≤250:=by split <;> omega
  generalize (if(!wb)=true then Sort.breakPatterns d a b else d)=d1 at *;generalize (if(!wb)=true then limit-1 else limit)=l1 at *;have z1:d1.size=d.size:=s1.1;have e2:=chp hC (d:=d1) (a:=a) (b:=b) (by omega) (by omega) (by omega);have hc0:=Sort.choosePivot_holds (lt C) d1 a b (by omega);generalize Sort.choosePivot (lt C) d1 a b=c at *;have e3:tM (i9 (f+1)) ((a:Int),(b:Int),(l1:Int),wb,wp,((b-a:Nat):Int),(c.1:Int),hN c.2,MA v d1)=some ((a:Int),(b:Int),(l1:Int),wb,wp,((b-a:Nat):Int),((if c.2 = .decreasing then(b-1)-(c.1-a)else c.1:Nat):Int),hN (if c.2 = .decreasing then Sort.Hint.increasing else c.2),MA v (if c.2 = .decreasing then Sort.reverseRange d1 a b else d1)):=by
   obtain⟨c1,c2⟩:=c;simp only at hc0;cases c2
   ·rfl
   ·rfl
   ·have g:decide (hN Sort.Hint.decreasing=2)=true:=rfl
    simp(disch:=omega) only[tM,FL,yn,g,cond_true,rev,aa,p1,aG,am,pn,if_true]
    rfl
  have s2:Sort.PermIn a b d1 (if c.2 = .decreasing then Sort.reverseRange d1 a b else d1):=by
   split
   ·exact Sort.reverseRange_holds d1 a b hab (by omega)
   ·exact Sort.permIn_refl _ _ _
  have hpv:a≤(if c.2 = .decreasing then(b-1)-(c.1-a)else c.1)∧(if c.2 = .decreasing then(b-1)-(c.1-a)else c.1) < b:=by split <;> omega
  generalize (if c.2 = .decreasing then Sort.reverseRange d1 a b else d1)=d2 at *;generalize (if c.2 = .decreasing then(b-1)-(c.1-a)else c.1)=pv at *;generalize (if c.2 = .decreasing then Sort.Hint.increasing else c.2)=hint at *;have z2:d2.size=d1.size:=s2.1;have B2:Sort.Below (lt C) a b d2:=(hB.perm hb s1).perm (by omega) s2;have s3:Sort.PermIn a b d2 (if(wb&&wp&&decide (hint = .increasing))=true then Sort.partialInsertionSort (lt C) d2 a b else(d2,false)).1:=by
   split
   ·exact(Sort.partialInsertionSort_holds hS d2 a b (by omega) (by omega) B2).1
   ·exact Sort.permIn_refl _ _ _
  have e4:tN (i9 (f+1)) ((a:Int),(b:Int),(l1:Int),wb,wp,((b-a:Nat):Int),(pv:Int),hN hint,MA v d2)=some (cond (if(wb&&wp&&decide (hint = .increasing))=true then Sort.partialInsertionSort (lt C) d2 a b else(d2,false)).2
    (.inl (MA v (if(wb&&wp&&decide (hint = .increasing))=true then Sort.partialInsertionSort (lt C) d2 a b else(d2,false)).1))
    (.inr ((a:Int),(b:Int),(l1:Int),wb,wp,((b-a:Nat):Int),(pv:Int),MA v (if(wb&&wp&&decide (hint = .increasing))=true then Sort.partialInsertionSort (lt C) d2 a b else(d2,false)).1))):=by
   have hpis:=pis hC (d:=d2) (a:=a) (b:=b) (by omega) (by omega) (by omega);cases wb
   ·rfl
   ·cases wp
    ·rfl
    ·cases hint
     ·rfl
     ·have g:decide (hN Sort.Hint.increasing=1)=true:=rfl;simp only[tN,FM,yo,g,cond_true,hpis,aa,Bool.true_and,decide_true,if_true];cases(Sort.partialInsertionSort (lt C) d2 a b).2 <;> rfl
     ·rfl
  generalize (if(wb&&wp&&decide (hint = .increasing))=true then Sort.partialInsertionSort (lt C) d2 a b else(d2,false))=pi at *;obtain⟨d3,fl⟩:=pi;simp only at s3 e4 ⊢;have z3:d3.size=d2.size:=s3.1;have B3:Sort.Below (lt C) a b d3:=B2.perm (by omega) s3;rw[goF];generalize hG:goF (fun x=>lq (i9 (f+1)) x.1 x.2.1 x.2.2.1 x.2.2.2.1 x.2.2.2.2.1 x.2.2.2.2.2) m=G
  simp(disch:=omega) only[u6,lq,p9,pn,aG,am,g12,cond_false,g0,e1,aa,e2,e3,e4]
  clear e1 e2 e3 e4
  cases fl
  ·simp only[cond_false,Sum.elim_inr,Bool.false_eq_true,if_false];have call:∀ (x y:Nat) (dd:Array β),x≤y→y-x≤n→y≤dd.size→dd.size≤250→Sort.Below (lt C) x y dd→i9 (f+1) ((x:Int),(y:Int),(l1:Int),MA v dd)=some (MA v (Sort.pdq (lt C) dd x y l1 true true)):=fun x y dd k1 k2 k3 k4 k5=>by
    have:=ih f 18446744073709551616 x y l1 true true dd (by omega) (by omega) (by omega) k2 k1 k3 k4 hl1 k5;have this':tO (i9 f) ((x:Int),(y:Int),(l1:Int),true,true,MA v dd)=some (MA v (Sort.pdq (lt C) dd x y l1 true true)):=this;show Cn (i9 f) _ _ _ _=_;simp only[Cn,JK,this',aa]
   have part:∀ (mid:Nat) (ap:Bool) (d4:Array β),Sort.partition (lt C) d3 a b pv=(mid,ap,d4) →
     ∃ s',(((gD ((a:Int),(b:Int),(pv:Int),MA v d3)).bind fun r17=>ai (ah .i64 (r17.1-(a:Int))) (ai (ah .i64 ((b:Int)-r17.1)) (ai (ah .i64 (Int.tdiv ((b-a:Nat):Int) 8)) (cond (decide ((r17.1-(a:Int)) < ((b:Int)-r17.1)))
      ((i9 (f+1) ((a:Int),r17.1,(l1:Int),r17.2.2)).bind fun r18=>ai (ah .i64 (r17.1+1)) (some (Sum.inl ((r17.1+1),(b:Int),(l1:Int),decide (Int.tdiv ((b-a:Nat):Int) 8≤(r17.1-(a:Int))),r17.2.1,r18))))
      (ai (ah .i64 (r17.1+1)) ((i9 (f+1) ((r17.1+1),(b:Int),(l1:Int),r17.2.2)).bind fun r19=>some (Sum.inl ((a:Int),r17.1,(l1:Int),decide (Int.tdiv ((b-a:Nat):Int) 8≤((b:Int)-r17.1)),r17.2.1,r19))))))):Option ((Int×Int×Int×Bool×Bool×List E)⊕List E)))=some (Sum.inl s')∧G s'=some (MA v (if h:a≤mid∧mid < b then
       if mid-a < b-mid then Sort.pdq (lt C) (Sort.pdq (lt C) d4 a mid l1 true true) (mid+1) b l1 (decide (mid-a≥(b-a) / 8)) ap
       else Sort.pdq (lt C) (Sort.pdq (lt C) d4 (mid+1) b l1 true true) a mid l1 (decide (b-mid≥(b-a) / 8)) ap else d4)):=fun mid ap d4 hx=>by
    have hr:=jN hC (d:=d3) (a:=a) (b:=b) (p:=pv) (by omega) (by omega) (by omega) (by omega) (by omega);obtain⟨g1,g2,hs4,hBa,hBr,hleft,hright⟩:=Sort.round_part hS (Sort.partition_holds _) hpv.1 hpv.2 (by omega) B3 hx;rw[hx]at hr;simp only at hr;have q8:Int.tdiv ((b-a:Nat):Int) 8=(((b-a) / 8:Nat):Int):=CU _;rw[dif_pos ⟨g1,g2⟩]
    simp(disch:=omega) only[hr,aa,pn,aG,am,q8,iY,il,a1]
    by_cases hlt:mid-a < b-mid
    ·have k:=call a mid d4 g1 (by omega) (by omega) (by omega) hBa;obtain⟨l1',l2'⟩:=Sort.pdq_sorts (lt C) hS d4 a mid l1 true true g1 (by omega) hBa;have hB':=(hleft _ l1' l2').1
     simp(disch:=omega) only[dT,cond_true,k,aa,if_pos hlt]
     refine⟨_,rfl,?_⟩;rw[← hG];exact ih (f+1) m (mid+1) b l1 _ ap _ (by omega) (by omega) (by omega) (by omega) (by omega) (by rw[l1'.1]; omega) (by rw[l1'.1]; omega) hl1 hB'
    ·have k:=call (mid+1) b d4 (by omega) (by omega) (by omega) (by omega) hBr;obtain⟨l1',l2'⟩:=Sort.pdq_sorts (lt C) hS d4 (mid+1) b l1 true true (by omega) (by omega) hBr;have hB':=(hright _ l1' l2').1
     simp(disch:=omega) only[dF,cond_false,k,aa,if_neg hlt]
     refine⟨_,rfl,?_⟩;rw[← hG];exact ih (f+1) m a mid l1 _ ap _ (by omega) (by omega) (by omega) (by omega) (by omega) (by rw[l1'.1]; omega) (by rw[l1'.1]; omega) hl1 hB'
   by_cases ha0:0 < a
   ·have ga:decide ((0:Int) < (a:Int))=true:=by simp; omega
    simp(disch:=omega) only[ga,cond_true,p1,aG,am,aE,aR,hC,aa,wP]
    cases hq:lt C d3[a-1]! d3[pv]!
    ·simp only[Bool.not_false,cond_true,Bool.and_true,decide_eq_true_eq,if_pos (show a > 0 from ha0)];have hr:=peq hC (d:=d3) (a:=a) (b:=b) (p:=pv) (by omega) (by omega) (by omega) (by omega) (by omega);rcases hx:Sort.partitionEqual (lt C) d3 a b pv with⟨mid,d4⟩
     obtain⟨g1,g2,hs4,hB4,hfin⟩:=Sort.round_eq hS (Sort.partitionEqual_holds _) ha0 hpv.1 hpv.2 (by omega) B3 hq hx;rw[hx]at hr;simp only at hr;simp only[hr,aa,dif_pos (And.intro g1 g2)];rw[← hG];exact ih (f+1) m mid b l1 wb wp d4 (by omega) (by omega) (by omega) (by omega) g2 (by omega) (by omega) hl1 hB4
    ·simp only[Bool.not_true,cond_false,Bool.and_false,Bool.false_eq_true,if_false];rcases hx:Sort.partition (lt C) d3 a b pv with⟨mid,ap,d4⟩
     obtain⟨s',k1,k2⟩:=part mid ap d4 hx;rw[k1];exact k2
   ·have ga:decide ((0:Int) < (a:Int))=false:=by simp; omega
    have gn:decide (a > 0)=false:=by simp; omega
    simp only[ga,cond_false,gn,Bool.false_and,Bool.false_eq_true,if_false];rcases hx:Sort.partition (lt C) d3 a b pv with⟨mid,ap,d4⟩
    obtain⟨s',k1,k2⟩:=part mid ap d4 hx;rw[k1];exact k2
  ·simp only[cond_true,Sum.elim_inl,if_true]
theorem top (hS:Sort.SWO (lt C)){d:Array β}(hz:d.size≤250):P109 (MA v d)=some (MA v (Sort.sort (lt C) d)):=by
 have hl:Sort.bitsLen d.size≤8:=(Sort.bitsLen_le_iff d.size 8).2 (by omega);have fu:ah .u64 (d.size:Int)=true:=nK (by omega) (by omega);have k:=UU hC hS 1000 18446744073709551615 18446744073709551616 0 d.size (Sort.bitsLen d.size) true true d (by omega) (by omega) (by omega) (by omega) (by omega) (Nat.le_refl _) hz (by omega) (.inl rfl);have k':tO (i9 18446744073709551615) (0,(d.size:Int),((Sort.bitsLen d.size:Nat):Int),true,true,MA v d)=some (MA v (Sort.sort (lt C) d)):=k;have e:P124 (0,(d.size:Int),((Sort.bitsLen d.size:Nat):Int),MA v d)=some (MA v (Sort.sort (lt C) d)):=by
  show Cn (i9 18446744073709551615) _ _ _ _=_;simp only[Cn,JK,k',aa]
 simp(disch:=omega) only[P109,Xa,SY,pW,fu,am,Ia,aa,e]
end
theorem srt (K:E→Int)(gd:E→Prop)(x0:E)(h0:gd x0)(hK:∀ x y,gd x→gd y→∃ c:Int,P80 (x,y)=some c∧(decide (c < 0)=true↔K x < K y)){l:List E}(hl:∀ x∈l,gd x)(hz:l.length≤250):
  ∃ l',P109 l=some l'∧l'.Perm l∧Sd K l' 0 l'.length:=by
 letI:Inhabited {x:E // gd x}:=⟨⟨x0,h0⟩⟩
 let C:{x:E // gd x}→{x:E // gd x}→Int:=fun x y=>Classical.choose (hK x.1 y.1 x.2 y.2)
 have hC:∀ x y:{x:E // gd x},P80 (x.1,y.1)=some (C x y):=fun x y=>(Classical.choose_spec (hK x.1 y.1 x.2 y.2)).1;have hlt:∀ x y:{x:E // gd x},lt C x y=true↔K x.1 < K y.1:=fun x y=>(Classical.choose_spec (hK x.1 y.1 x.2 y.2)).2;have hlf:∀ x y:{x:E // gd x},lt C x y=false↔K y.1≤K x.1:=fun x y=>by rw[← Bool.not_eq_true,hlt]; omega
 have hS:Sort.SWO (lt C):=⟨fun x=>(hlf x x).2 (Int.le_refl _),fun x y z h1 h2=>(hlt _ _).2 (Int.lt_trans ((hlt _ _).1 h1) ((hlt _ _).1 h2)),fun x y z h1 h2=>(hlf _ _).2 (Int.le_trans ((hlf _ _).1 h2) ((hlf _ _).1 h1))⟩
 let d:Array {x:E // gd x}:=(l.attach.map fun x=>⟨x.1,hl x.1 x.2⟩).toArray
 have hd:MA (fun x:{x:E // gd x}=>x.1) d=l:=by
  simp only[MA,d,List.map_map];exact List.attach_map_subtype_val l
 have hds:d.size=l.length:=by simp[d]
 obtain⟨s1,s2⟩:=Sort.sort_sorts (lt C) hS d;have ht:=top (v:=fun x:{x:E // gd x}=>x.1) hC hS (d:=d) (by omega);rw[hd]at ht;refine⟨_,ht,?_,fun i j q1 q2 q3=>?_⟩
 ·have hp:=s1.2.2;have e1:∀ r:Array {x:E // gd x},r.size=d.size→r.extract 0 d.size=r:=fun r hr=>by rw[← hr]; simp
  rw[e1 _ s1.1,show d.extract 0 d.size=d by simp]at hp;have:=hp.map (fun x:{x:E // gd x}=>x.1);rw[← hd];exact this
 ·rw[pW]at q3;have e:∀ k,k < (Sort.sort (lt C) d).size→gt (MA (fun x:{x:E // gd x}=>x.1) (Sort.sort (lt C) d)) k=((Sort.sort (lt C) d)[k]!).1:=fun k hk=>by rw[← bI,aR hk]
  rw[e i (by omega),e j q3];exact(hlf _ _).1 (s2 i j q1 q2 (by have:=s1.1; omega))
end Pdq109
theorem Uh (x y:Int):Mn [x,y]=some (if x≠0 then x else y):=by
 have e:∃ z,Ab (0,[x,y],2,0)=some z∧Sum.elim id id z=(if x≠0 then x else y):=by
  by_cases h1:x=0
  ·by_cases h2:y=0
   ·refine⟨Sum.inr 0,aQ (step:=fun x=>Aa x.1 x.2.1 x.2.2.1 x.2.2.2) 2 (fun k=>(0,[x,y],2,(k:Int))) (Sum.inr 0) (fun i hi=>?_) rfl (by omega),by rw[if_neg (by simpa using h1),h2]; rfl⟩;subst h1; subst h2;rcases(show i=0∨i=1 by omega)with rfl | rfl <;> rfl
   ·refine⟨Sum.inl y,aQ (step:=fun x=>Aa x.1 x.2.1 x.2.2.1 x.2.2.2) 1 (fun k=>(0,[x,y],2,(k:Int))) (Sum.inl y) (fun i hi=>?_) ?_ (by omega),by rw[if_neg (by simpa using h1)]; rfl⟩
    ·subst h1;obtain rfl:i=0:=by omega
     rfl
    ·show cond (!decide (y=0)) (some (Sum.inr (Sum.inl y))) _=_;rw[decide_eq_false h2]; rfl
  ·refine⟨Sum.inl x,aQ (step:=fun x=>Aa x.1 x.2.1 x.2.2.1 x.2.2.2) 0 (fun k=>(0,[x,y],2,(k:Int))) (Sum.inl x) (fun i hi=>by omega) ?_ (by omega),by rw[if_pos h1]; rfl⟩;show cond (!decide (x=0)) (some (Sum.inr (Sum.inl x))) _=_;rw[decide_eq_false h1]; rfl
 obtain⟨z,e1,e2⟩:=e;show q81 Ab [x,y]=_;unfold q81;rw[show(↑(List.length [x,y]):Int)=2 from rfl,e1,← e2];cases z <;> rfl
theorem Ui {a b:aB}(ha:bk a)(hb:bk b):∃ c:Int,P80 (a,b)=some c∧(decide (c < 0)=true↔kc a < kc b):=by
 have h1:=ha.1;have h2:=ha.2.1;have h3:=hb.1;have h4:=hb.2.1;refine⟨if a.2.1-b.2.1≠0 then a.2.1-b.2.1 else a.1-b.1,?_,?_⟩
 ·show q80 Mn a b=_;unfold q80;rw[ak (aS (by omega) (by omega)),ak (aS (by omega) (by omega)),Uh];rfl
 ·rw[decide_eq_true_eq,P0 ha hb];split <;> omega
theorem Lb (l:List aB)(hl:l.length≤250)(hv:∀ c∈l,bk c)(hk:jI l):
  ∃ s m,Ao l=some s∧uq s=some m∧m.Pairwise (fun a b=>kc a < kc b)∧∀ x,x∈m↔x∈l:=by
 obtain⟨s,e1,e2,e3⟩:=Pdq109.srt kc bk (0,0,1,0,1) ⟨⟨by decide,by decide⟩,⟨by decide,by decide⟩,.inl ⟨rfl,by decide,by decide⟩,⟨by decide,by decide⟩⟩ (fun x y hx hy=>Ui hx hy) hv hl;refine⟨s,jf s s.length,?_,Ue s (by rw[e2.length_eq]; omega),?_,fun x=>?_⟩
 ·show q78 P108 P109 l=_;unfold q78;have e:P108 l=some l:=by
   show JB P123 l=_;unfold JB;rw[K8 l (by omega)];rfl
  rw[e,aa,e1];rfl
 ·refine(ddN_asc kc s e3 (fun a ha b hb h=>?_) s.length (Nat.le_refl _)).1;have ha':=e2.mem_iff.1 ha;have hb':=e2.mem_iff.1 hb;exact hk a ha' b hb' (Hv (hv a ha') (hv b hb') h)
 ·rw[nO,e2.mem_iff]
noncomputable def hrd (l:List aB):List aB:=(qO l).getD []
theorem md {l:List aB}(hl:l.length≤250)(hv:∀ c∈l,bk c)(hk:jI l):qO l=some (hrd l)∧(hrd l).Pairwise (fun a b=>kc a < kc b)∧(∀ x,x∈hrd l↔x∈l)∧(hrd l).length≤l.length:=by
 obtain⟨m,e1,e2,e3⟩:=Ug l (by omega) hv hk;have e:hrd l=m:=by unfold hrd; rw[e1]; rfl
 rw[e];exact⟨e1,e2,e3⟩
theorem wz {l m:List aB}(hl:l.length≤250)(hv:∀ c∈l,bk c)(hk:jI l)(h1:m.Pairwise (fun a b=>kc a < kc b))(h2:∀ x,x∈m↔x∈l):m=hrd l:=by
 obtain⟨_,e2,e3,_⟩:=md hl hv hk;exact qn kc h1 e2 fun x=>by rw[h2,e3]
theorem Hy (l:List aB)(hl:l.length≤250)(hv:∀ c∈l,bk c)(hk:jI l):∃ s,Ao l=some s∧uq s=some (hrd l):=by
 obtain⟨s,m,e1,e2,e3,e4⟩:=Lb l hl hv hk;refine⟨s,e1,?_⟩;rw[e2,wz hl hv hk e3 e4]
def nP (hold minute:Int):List aB→HM→HM
 | [],x=>x
 | c::cs,x=>if minute < c.2.1 then x else nP hold minute cs (fw (lapM hold c.2.1 x) c)
def Ik (rows:List Int):HM:=(cB rows,fun _=>Hp,[])
noncomputable def aM (h:List Int×Int)(l:List aB)(minute:Int):HM:=lapM h.2 minute (nP h.2 minute (hrd l) (Ik h.1))
def cY (h:List Int×Int):Prop:=(1≤h.1.length∧h.1.length≤6)∧(∀ n∈h.1,1≤n∧n≤12)∧(1≤h.2∧h.2≤600)
def lw (rows:List Int):List Nat:=rows.map Int.toNat
theorem eV {h:List Int×Int}(hh:cY h):∀ k∈lw h.1,k≤12:=fun k hk=>by
 obtain⟨n,hn,rfl⟩:=List.mem_map.1 hk;have:=hh.2.1 n hn;omega
theorem fF {h:List Int×Int}(hh:cY h):(lw h.1).length≤30:=by
 have:=hh.1;unfold lw;simp only[List.length_map];omega
theorem yM {rows:List Int}{r i:Nat}(hr:r < (cB rows).length)(hi:i < (gt (cB rows) r).length):gt (gt (cB rows) r) i = -1:=by
 have hr':r < rows.length:=by simpa [cB]using hr
 have e:gt (cB rows) r=List.replicate (gt rows r).toNat (-1):=by
  rw[b8 hr,b8 hr']
  simp[cB]
 rw[e]at hi ⊢;rw[b8 hi]
 simp
theorem IM0 (rows:List Int):IM (lw rows) (Ik rows):=by
 have nh:¬ held Hp:=by rintro(e | e) <;> cases e
 refine⟨?_,fun n hn=>absurd hn nh,fun r i hr hi=>.inl (yM hr hi),fun _ _=>rfl,fun _=>.inl rfl⟩;show(cB rows).map List.length=lw rows;unfold cB lw;rw[List.map_map];exact List.map_congr_left fun n _=>by simp
theorem PK0 (rows:List Int):PK [] (Ik rows).2.1:=⟨by simp,fun _=>rfl,fun n o h=>by cases h⟩
theorem iU {α:Type}[Inhabited α](n:Nat)(a:α){i:Nat}(h:i < n):gt (List.replicate n a) i=a:=by
 rw[b8 (by simpa using h)]; simp
theorem RK0 (rows:List Int):RK (List.replicate 100 (0,-1,-1,0)) (List.replicate 100 0) (Ik rows).2.1:=by
 refine⟨by simp,by simp,fun i hi=>?_,fun i hi h=>(by cases h),fun i hi=>?_⟩
 ·rw[iU _ _ hi]; rfl
 ·rw[iU _ _ hi]; exact⟨by decide,by decide⟩
theorem ns (x:HM)(c:aB):(fw x c).2.2.length≤x.2.2.length+1:=by
 unfold fw yJ yK nr;split
 ·split
  ·split <;> simp
  ·omega
 ·split
  ·split <;> simp
  ·split <;> simp
theorem IM.go {lens:List Nat}(hold minute:Int):∀ (l:List aB) {x:HM},IM lens x→(∀ c∈l,bk c)→IM lens (nP hold minute l x)
 | [],_,h,_=>h
 | c::l,x,h,hc=>by
  unfold nP;split
  ·exact h
  ·exact IM.go hold minute l ((h.lap hold c.2.1).hear (hc c (by simp))) fun d hd=>hc d (by simp[hd])
theorem Uj {lens:List Nat}{rows:List Int}{hold minute:Int}{m:List aB}{x:HM}{pool:List dZ}(hm:m.length≤250)(hc:∀ c∈m,bk c)(h:IM lens x)(k:PK pool x.2.1)(sm:∀ k∈lens,k≤12)(sl:lens.length≤30)(hh:0≤hold∧hold≤100000)(hv:x.2.2.length≤100):
  ∃ pool',L65_0 (minute,(m.length:Int),0,rows,hold,m,x.1,x.2.2,pool)=some (minute,rows,hold,m,(nP hold minute m x).1,(nP hold minute m x).2.2,pool')∧PK pool' (nP hold minute m x).2.1:=by
 have key:=cF (step:=fun x=>ME x.1 x.2.1 x.2.2.1 x.2.2.2.1 x.2.2.2.2.1 x.2.2.2.2.2.1 x.2.2.2.2.2.2.1 x.2.2.2.2.2.2.2.1 x.2.2.2.2.2.2.2.2)
  (fun s=>m.length-s.2.2.1.toNat)
  (fun s=>∃ (i:Nat) (y:HM) (pool:List dZ),i≤m.length∧s=(minute,(m.length:Int),(i:Int),rows,hold,m,y.1,y.2.2,pool)∧IM lens y∧PK pool y.2.1∧y.2.2.length≤100+i∧nP hold minute (m.drop i) y=nP hold minute m x)
  (fun y=>∃ pool',y=(minute,rows,hold,m,(nP hold minute m x).1,(nP hold minute m x).2.2,pool')∧PK pool' (nP hold minute m x).2.1)
  (x:=(minute,(m.length:Int),((0:Nat):Int),rows,hold,m,x.1,x.2.2,pool)) ⟨0,x,pool,Nat.zero_le _,rfl,h,k,by omega,rfl⟩ (by show m.length-_ < _; omega) (by
   rintro s ⟨i,y,pool,hi,rfl,hy,ky,vy,hg⟩;show(∃ s',rS Cg Ch Ao uq P83 P84 minute (m.length:Int) (i:Int) rows hold m y.1 y.2.2 pool=_∧_)∨∃ z,rS Cg Ch Ao uq P83 P84 minute (m.length:Int) (i:Int) rows hold m y.1 y.2.2 pool=_∧_;by_cases him:i < m.length
   ·have hd:m.drop i=gt m i::m.drop (i+1):=by rw[List.drop_eq_getElem_cons him,b8 him]
    rw[hd,nP]at hg;unfold rS;rw[aN him,cond_true,ak (aC him),bI];by_cases c:minute < (gt m i).2.1
    ·rw[decide_eq_true c,cond_true];rw[if_pos c]at hg;exact .inr ⟨_,rfl,pool,by rw[← hg],by rw[← hg]; exact ky⟩
    ·rw[decide_eq_false c,cond_false];rw[if_neg c]at hg;left;obtain⟨pool1,e1,k1⟩:=PY (rows:=rows) (hold:=hold) (minute:=(gt m i).2.1) hy ky sm hh;have hy1:=hy.lap hold (gt m i).2.1;have vy1:(lapM hold (gt m i).2.1 y).2.2.length≤100+i:=vy;rw[e1,aa];obtain⟨pool2,e2,k2⟩:=P84_M (rows:=rows) (hold:=hold) hy1 k1 sm sl (hc _ (cj him)) (by omega);simp only;rw[e2,aa];simp only;rw[ak (aF (by omega))];have hvv:=ns (lapM hold (gt m i).2.1 y) (gt m i);exact⟨_,rfl,⟨i+1,_,pool2,by omega,rfl,hy1.hear (hc _ (cj him)),k2,by omega,hg⟩,by show m.length-((i:Int)+1).toNat < m.length-((i:Nat):Int).toNat; omega⟩
   ·obtain rfl:i=m.length:=by omega
    rw[List.drop_length]at hg;refine .inr ⟨_,?_,pool,rfl,?_⟩
    ·unfold rS;rw[aT,cond_false,← hg];rfl
    ·rw[← hg]; exact ky)
 obtain⟨y,h1,pool',rfl,h2⟩:=key;exact⟨pool',h1,h2⟩
theorem Uk {lens:List Nat}{rows:List Int}{hold minute:Int}{m:List aB}{x:HM}{pl:List nT}{sn:List Int}(hm:m.length≤250)(hc:∀ c∈m,bk c)(h:IM lens x)(k:RK pl sn x.2.1)(sm:∀ k∈lens,k≤12)(sl:lens.length≤30)(hh:0≤hold∧hold≤100000)(hv:x.2.2.length≤100):
  ∃ pl' sn',L52_0 (minute,m,0,(rows,hold),x.1,pl,sn,x.2.2)=some (minute,(rows,hold),(nP hold minute m x).1,pl',sn',(nP hold minute m x).2.2)∧RK pl' sn' (nP hold minute m x).2.1:=by
 have key:=cF (step:=fun x=>p52_0 x.1 x.2.1 x.2.2.1 x.2.2.2.1 x.2.2.2.2.1 x.2.2.2.2.2.1 x.2.2.2.2.2.2.1 x.2.2.2.2.2.2.2)
  (fun s=>m.length-s.2.2.1.toNat)
  (fun s=>∃ (i:Nat) (y:HM) (pl:List nT) (sn:List Int),i≤m.length∧s=(minute,m,(i:Int),(rows,hold),y.1,pl,sn,y.2.2)∧IM lens y∧RK pl sn y.2.1∧y.2.2.length≤100+i∧nP hold minute (m.drop i) y=nP hold minute m x)
  (fun y=>∃ pl' sn',y=(minute,(rows,hold),(nP hold minute m x).1,pl',sn',(nP hold minute m x).2.2)∧RK pl' sn' (nP hold minute m x).2.1)
  (x:=(minute,m,((0:Nat):Int),(rows,hold),x.1,pl,sn,x.2.2)) ⟨0,x,pl,sn,Nat.zero_le _,rfl,h,k,by omega,rfl⟩ (by show m.length-_ < _; omega) (by
   rintro s ⟨i,y,pl,sn,hi,rfl,hy,ky,vy,hg⟩;show(∃ s',p52_0 minute m (i:Int) (rows,hold) y.1 pl sn y.2.2=_∧_)∨∃ z,p52_0 minute m (i:Int) (rows,hold) y.1 pl sn y.2.2=_∧_;by_cases him:i < m.length
   ·have hd:m.drop i=gt m i::m.drop (i+1):=by rw[List.drop_eq_getElem_cons him,b8 him]
    rw[hd,nP]at hg;by_cases c:minute < (gt m i).2.1
    ·rw[if_pos c]at hg;refine .inr ⟨_,?_,pl,sn,rfl,by rw[← hg]; exact ky⟩;show nM tV qO dV P56 cp sy minute m (i:Int) (rows,hold) y.1 pl sn y.2.2=_;unfold nM;rw[show decide ((i:Int) < (↑(List.length m):Int))=true from aN him,cond_true,ak (aC him),bI,decide_eq_true c,cond_true,← hg]
    ·rw[if_neg c]at hg;left;obtain⟨pl1,sn1,e1,k1⟩:=Hs (rows:=rows) (hold:=hold) (minute:=minute) him (by omega) hy ky sm sl hh (hc _ (cj him)) (by omega) (by omega);have hvv:=ns (lapM hold (gt m i).2.1 y) (gt m i);have vy1:(lapM hold (gt m i).2.1 y).2.2.length≤100+i:=vy;exact⟨_,e1,⟨i+1,_,pl1,sn1,by omega,rfl,(hy.lap hold _).hear (hc _ (cj him)),k1,by omega,hg⟩,by show m.length-((i+1:Nat):Int).toNat < m.length-((i:Nat):Int).toNat; omega⟩
   ·obtain rfl:i=m.length:=by omega
    rw[List.drop_length]at hg;refine .inr ⟨_,?_,pl,sn,rfl,by rw[← hg]; exact ky⟩;show nM tV qO dV P56 cp sy minute m (m.length:Int) (rows,hold) y.1 pl sn y.2.2=_;unfold nM;rw[show decide ((m.length:Int) < (↑(List.length m):Int))=false from aT _,cond_false,← hg];rfl)
 obtain⟨y,h1,pl',sn',rfl,h2⟩:=key;exact⟨pl',sn',h1,h2⟩
def dO (l:List aB):Prop:=l.length≤40∧(∀ c∈l,bk c)∧jI l
theorem uj {l:List aB}(h:dO l):(∀ c∈hrd l,bk c)∧(hrd l).length≤250:=by
 obtain⟨h1,h2,h3⟩:=h;obtain⟨e1,e2,e3,e4⟩:=md (by omega) h2 h3;exact⟨fun c hc=>h2 c ((e3 c).1 hc),by omega⟩
theorem sH {h:List Int×Int}(hh:cY h):∀ k,k < h.1.length→1≤gt h.1 k∧gt h.1 k≤12:=fun k hk=>hh.2.1 _ (cj hk)
theorem IM.after {h:List Int×Int}{l:List aB}(hl:dO l)(minute:Int):IM (lw h.1) (aM h l minute):=
 ((IM0 h.1).go h.2 minute (hrd l) (uj hl).1).lap h.2 minute
theorem P65_M {h:List Int×Int}{l:List aB}(minute:Int)(hh:cY h)(hl:dO l):
  ∃ pool,P65 (h,l,minute)=some (h.1,h.2,(aM h l minute).1,(aM h l minute).2.2,pool)∧PK pool (aM h l minute).2.1:=by
 obtain⟨rows,hold⟩:=h;have hr:=sH hh;have h6:=hh.1;have hH:=hh.2.2;simp only at hr h6 hH;obtain⟨s,e1,e2⟩:=Hy l (by have:=hl.1; omega) hl.2.1 hl.2.2;obtain⟨c1,c2⟩:=uj hl;obtain⟨p1,e3,k1⟩:=Uj (rows:=rows) (hold:=hold) (minute:=minute) c2 c1 (IM0 rows) (PK0 rows) (eV hh) (fF hh) (by omega) (by simp[Ik]);obtain⟨p2,e4,k2⟩:=PY (rows:=rows) (hold:=hold) (minute:=minute) ((IM0 rows).go hold minute (hrd l) c1) k1 (eV hh) (by omega);refine⟨p2,?_,k2⟩;show q65 Cg Ch Ao uq P83 P84 L65_0 (rows,hold) l minute=_;unfold q65;rw[UP (by omega) hr,aa,show Ch l=some l from rfl,aa,e1,aa,e2,aa];simp only;rw[show L65_0 (minute,(↑(List.length (hrd l)):Int),0,rows,hold,hrd l,cB rows,[],[])=_ from e3,aa];simp only;rw[e4];rfl
theorem Hz {h:List Int×Int}{l:List aB}(minute:Int)(hh:cY h)(hl:dO l):
  ∃ pl sn,P52 (h,l,minute)=some ((aM h l minute).1,pl,sn,(aM h l minute).2.2)∧RK pl sn (aM h l minute).2.1:=by
 obtain⟨rows,hold⟩:=h;have hr:=sH hh;have h6:=hh.1;have hH:=hh.2.2;simp only at hr h6 hH;obtain⟨e1,_,_,_⟩:=md (l:=l) (by have:=hl.1; omega) hl.2.1 hl.2.2;obtain⟨c1,c2⟩:=uj hl;obtain⟨p1,s1,e3,k1⟩:=Uk (rows:=rows) (hold:=hold) (minute:=minute) c2 c1 (IM0 rows) (RK0 rows) (eV hh) (fF hh) (by omega) (by simp[Ik]);obtain⟨p2,e4,k2⟩:=PZ (rows:=rows) (hold:=hold) (minute:=minute) ((IM0 rows).go hold minute (hrd l) c1) k1 (eV hh) (fF hh) (by omega);refine⟨p2,s1,?_,k2⟩;show q52 tV qO dV P56 cp L52_0 (rows,hold) l minute=_;unfold q52;rw[Ub rows hold (by omega) hr,aa,e1,aa];simp only;rw[show L52_0 (minute,hrd l,0,(rows,hold),cB rows,List.replicate 100 (0,-1,-1,0),List.replicate 100 0,[])=_ from e3,aa];simp only;rw[e4];rfl
instance (c:aB):Decidable (bk c):=by unfold bk; infer_instance
instance (h:List Int×Int):Decidable (cY h):=by unfold cY; infer_instance
instance (l:List aB):Decidable (dO l):=by unfold dO jI; infer_instance
def lx (h:List Int×Int)(l:List aB):Int:=if cY h then(if dO l then 0 else 41)else 40
theorem nt (x a b:Int):P60 (x,a,b)=some (wi x a b):=tz x a b
theorem uk (x a b:Int):P57 (x,a,b)=some (wi x a b):=tz x a b
theorem wA (c:aB):decide (bk c)=(wi c.1 0 99&&wi c.2.1 0 9999&&wi c.2.2.2.1 0 99&&(cond (decide (c.2.2.1=1)) (wi c.2.2.2.2 1 12) (cond (decide (c.2.2.1=2)) (decide (c.2.2.2.2=0)) (cond (decide (c.2.2.1=3)) (decide (c.2.2.2.2=0)) false)))):=by
 rw[Bool.eq_iff_iff,decide_eq_true_eq];unfold bk;rw[Bool.and_eq_true,Bool.and_eq_true,Bool.and_eq_true,dk,dk,dk];by_cases k1:c.2.2.1=1
 ·rw[decide_eq_true k1,cond_true,dk]; omega
 ·rw[decide_eq_false k1,cond_false];by_cases k2:c.2.2.1=2
  ·rw[decide_eq_true k2,cond_true,decide_eq_true_eq]; omega
  ·rw[decide_eq_false k2,cond_false];by_cases k3:c.2.2.1=3
   ·rw[decide_eq_true k3,cond_true,decide_eq_true_eq]; omega
   ·rw[decide_eq_false k3,cond_false];refine⟨fun h=>by omega,fun h=>absurd h.2 (by decide)⟩
theorem Ul (c:aB):P50 c=some (decide (bk c)):=by
 show q50 P57 c=_;unfold q50;rw[wA];simp only[uk,aa];cases wi c.1 0 99 with
 | false=>rfl
 | true=>
  cases wi c.2.1 0 9999 with
  | false=>rfl
  | true=>
   cases wi c.2.2.2.1 0 99 with
   | false=>rfl
   | true=>
    simp only[Bool.not_true,cond_false,Bool.true_and];cases decide (c.2.2.1=1)with
    | true=>rfl
    | false=>
     cases decide (c.2.2.1=2)with
     | true=>rfl
     | false=>cases decide (c.2.2.1=3) <;> rfl
theorem wi00 (x:Int):wi x 0 0=decide (x=0):=by
 rw[Bool.eq_iff_iff,dk,decide_eq_true_eq]; omega
theorem Um (c:aB):Cd c=some (decide (bk c)):=by
 show q49 P60 c=_;unfold q49;rw[wA];simp only[nt,aa,wi00];cases decide (c.2.2.1=1)with
 | true=>cases wi c.1 0 99 <;> cases wi c.2.1 0 9999 <;> cases wi c.2.2.2.1 0 99 <;> rfl
 | false=>
  cases decide (c.2.2.1=2)with
  | true=>cases wi c.1 0 99 <;> cases wi c.2.1 0 9999 <;> cases wi c.2.2.2.1 0 99 <;> rfl
  | false=>
   cases decide (c.2.2.1=3)with
   | true=>cases wi c.1 0 99 <;> cases wi c.2.1 0 9999 <;> cases wi c.2.2.2.1 0 99 <;> rfl
   | false=>cases wi c.1 0 99 <;> cases wi c.2.1 0 9999 <;> cases wi c.2.2.2.1 0 99 <;> rfl
theorem Un (n:Int):P69 n=some (!wi n 1 12):=by
 show q69 P60 n=_;unfold q69;rw[nt];rfl
theorem wB (h:List Int×Int):decide (cY h)=(fi h.1.length (fun k=>wi (gt h.1 k) 1 12)&&wi (h.1.length:Int) 1 6&&wi h.2 1 600):=by
 rw[Bool.eq_iff_iff,decide_eq_true_eq];unfold cY;rw[Bool.and_eq_true,Bool.and_eq_true,dk,dk,Rl (p:=fun n=>wi n 1 12)];simp only[dk];constructor
 ·rintro⟨a,b,c⟩; exact⟨⟨b,by omega⟩,c⟩
 ·rintro⟨⟨b,a⟩,c⟩; exact⟨by omega,b,c⟩
theorem Uo (h:List Int×Int)(hl:h.1.length≤1000):P37 h=some (decide (cY h)):=by
 show q37 P57 AQ h=_;unfold q37;have e:AQ (0,h)=some (cond (fi h.1.length (fun k=>wi (gt h.1 k) 1 12)) (Sum.inr h) (Sum.inl (false,h))):=by
  refine kg (step:=fun x=>N5 x.1 x.2) h.1.length (fun k=>((k:Int),h)) (fun k=>wi (gt h.1 k) 1 12) _ _ (fun k hk=>?_) ?_ (by omega)
  ·show sf P57 (k:Int) h=_;unfold sf;rw[show decide ((k:Int) < (↑(List.length h.1):Int))=true from aN hk,cond_true,ak (aC hk),bI,uk,aa];cases wi (gt h.1 k) 1 12 with
   | false=>rfl
   | true=>rw[Bool.not_true,cond_false,ak (aF (by omega))]; rfl
  ·show sf P57 (h.1.length:Int) h=_;unfold sf;rw[show decide ((h.1.length:Int) < (↑(List.length h.1):Int))=false from aT _,cond_false]
 rw[e,wB];cases fi h.1.length (fun k=>wi (gt h.1 k) 1 12)with
 | false=>rfl
 | true=>
  simp only[cond_true,aa,elim_inr,uk];rw[show((↑(List.length h.1):Int))=(h.1.length:Int)from rfl];cases wi (h.1.length:Int) 1 6 <;> rfl
theorem Up (h:List Int×Int)(hl:h.1.length≤1000):Cc h=some (decide (cY h)):=by
 have e74:∃ z,P74 h.1=some z∧decide (0≤z)=!fi h.1.length (fun k=>wi (gt h.1 k) 1 12):=by
  rcases fY (step:=fun x=>LX x.1 x.2.1 x.2.2) h.1.length (fun k=>(h.1,(h.1.length:Int),(k:Int))) (fun k=>!wi (gt h.1 k) 1 12) (fun k=>Sum.inl (k:Int)) (Sum.inr ())
   (fun k hk _=>by
    show rO P69 h.1 (h.1.length:Int) (k:Int)=_;unfold rO;rw[aN hk,cond_true,ak (aC hk),bI,Un,aa];cases wi (gt h.1 k) 1 12 with
    | false=>rfl
    | true=>rw[Bool.not_true,cond_false,ak (aF (by omega))]; rfl)
   (fun _=>by
    show rO P69 h.1 (h.1.length:Int) (h.1.length:Int)=_;unfold rO;rw[aT,cond_false]) (by omega)with⟨k,h1,h2,h3,h4⟩ | ⟨h3,h4⟩
  ·refine⟨(k:Int),?_,?_⟩
   ·show Vf P69 rP h.1=_;unfold Vf;rw[show rP (h.1,(↑(List.length h.1):Int),0)=_ from h4];rfl
   ·rw[decide_eq_true (by omega)]
    symm
    rw[Bool.not_eq_true',← Bool.not_eq_true];intro ha;have:=dz.1 ha k h1;rw[this]at h2;cases h2
  ·refine⟨-1,?_,?_⟩
   ·show Vf P69 rP h.1=_;unfold Vf;rw[show rP (h.1,(↑(List.length h.1):Int),0)=_ from h4];rfl
   ·symm
    rw[show decide ((0:Int) ≤ -1)=false from rfl,Bool.not_eq_false'];exact dz.2 fun k hk=>by have:=h3 k hk; simpa using this
 obtain⟨z,e1,e2⟩:=e74;have e58:P58 h.1=some (!fi h.1.length (fun k=>wi (gt h.1 k) 1 12)):=by
  show q58 P74 h.1=_;unfold q58;rw[e1,aa,e2]
 show q48 P60 P58 h=_;unfold q48;rw[wB,nt,aa,e58];simp only[nt,aa];rw[show((↑(List.length h.1):Int))=(h.1.length:Int)from rfl];cases wi (h.1.length:Int) 1 6 <;> cases fi h.1.length (fun k=>wi (gt h.1 k) 1 12) <;> cases wi h.2 1 600 <;> rfl
def ul (l:List aB):Prop:=(∀ c∈l,bk c)∧jI l
theorem wC {l:List aB}(h:ul l)(n:Nat):ul (l.take n):=⟨fun c hc=>h.1 c (List.mem_of_mem_take hc),fun a ha b hb=>h.2 a (List.mem_of_mem_take ha) b (List.mem_of_mem_take hb)⟩
theorem okL_snoc {l:List aB}{c:aB}:ul (l++[c])↔ul l∧bk c∧∀ a∈l,a.1=c.1→a=c:=by
 unfold ul jI;constructor
 ·rintro⟨h1,h2⟩;exact⟨⟨fun x hx=>h1 x (by simp[hx]),fun a ha b hb=>h2 a (by simp[ha]) b (by simp[hb])⟩,h1 c (by simp),fun a ha e=>h2 a (by simp[ha]) c (by simp) e⟩
 ·rintro⟨⟨h1,h2⟩,h3,h4⟩;refine⟨fun x hx=>?_,fun a ha b hb e=>?_⟩
  ·rcases List.mem_append.1 hx with q | q
   ·exact h1 x q
   ·rw[List.mem_singleton.1 q]; exact h3
  ·rcases List.mem_append.1 ha with q | q <;> rcases List.mem_append.1 hb with p | p
   ·exact h2 a q b p e
   ·rw[List.mem_singleton.1 p]at e ⊢; exact h4 a q e
   ·rw[List.mem_singleton.1 q]at e ⊢; exact(h4 b p e.symm).symm
   ·rw[List.mem_singleton.1 q,List.mem_singleton.1 p]
theorem HA {l:List aB}{i:Nat}(hi:i < l.length)(hl:l.length≤1000):∃ y,L27_1 (l,(i:Int),0)=some y∧((y = .inr (l,(i:Int))∧∀ a∈l.take i,a.1=(gt l i).1→a=gt l i)∨(y = .inl 41∧¬ ∀ a∈l.take i,a.1=(gt l i).1→a=gt l i)):=by
 rcases fY (step:=fun x=>Oa x.1 x.2.1 x.2.2) i (fun k=>(l,(i:Int),(k:Int))) (fun k=>decide ((gt l k).1=(gt l i).1)&&!decide (gt l k=gt l i)) (fun _=>Sum.inl 41) (Sum.inr (l,(i:Int)))
  (fun k hk _=>by
   show sg P37 P50 l (i:Int) (k:Int)=_;unfold sg;have f:ah .i64 ((k:Int)+1)=true:=aF (by omega);simp only[aN hk,cond_true,aC (show k < l.length by omega),aC hi,am,bI,Ud,f];cases decide ((gt l k).1=(gt l i).1)with
   | false=>rfl
   | true=>cases decide (gt l k=gt l i) <;> rfl)
  (fun _=>by
   show sg P37 P50 l (i:Int) (i:Int)=_;unfold sg;rw[aT,cond_false]) (by omega)with⟨k,h1,h2,h3,h4⟩ | ⟨h3,h4⟩
 ·refine⟨_,h4,.inr ⟨rfl,fun h=>?_⟩⟩;simp only[Bool.and_eq_true,decide_eq_true_eq,Bool.not_eq_true',decide_eq_false_iff_not]at h2;exact h2.2 (h _ (by rw[← tA l i k h1]; exact cj (by simp; omega)) h2.1)
 ·refine⟨_,h4,.inl ⟨rfl,fun a ha e=>?_⟩⟩;obtain⟨j,hj,q⟩:=fZ ha;rw[List.length_take]at hj;rw[tA _ _ _ (by omega)]at q;have:=h3 j (by omega);rw[q]at this
  simpa [e]using this
theorem HB (l:List aB)(hl:l.length≤1000):(ul l∧v7 (l,0)=some (.inr ()))∨(¬ ul l∧v7 (l,0)=some (.inl 41)):=by
 have key:=cF (step:=fun x=>Oc x.1 x.2)
  (fun s=>l.length-s.2.toNat)
  (fun s=>∃ i:Nat,i≤l.length∧s=(l,(i:Int))∧ul (l.take i))
  (fun y=>(ul l∧y=Sum.inr ())∨(¬ ul l∧y=Sum.inl 41))
  (x:=(l,((0:Nat):Int))) ⟨0,Nat.zero_le _,rfl,by unfold ul jI; simp⟩ (by show l.length-_ < _; omega) (by
   rintro s ⟨i,hi,rfl,ho⟩;show(∃ s',q27_0 P37 P50 L27_1 l (i:Int)=_∧_)∨∃ z,q27_0 P37 P50 L27_1 l (i:Int)=_∧_;unfold q27_0;by_cases him:i < l.length
   ·have ht:=dJ l him;rw[show decide ((i:Int) < (↑(List.length l):Int))=true from aN him,cond_true,ak (aC him),bI,Ul,aa];by_cases hc:bk (gt l i)
    ·rw[decide_eq_true hc,Bool.not_true,cond_false];obtain⟨y,e1,⟨rfl,e2⟩ | ⟨rfl,e2⟩⟩:=HA him hl
     ·left;rw[e1,aa,elim_inr];simp only;rw[ak (aF (by omega))];exact⟨_,rfl,⟨i+1,by omega,rfl,by rw[ht]; exact okL_snoc.2 ⟨ho,hc,e2⟩⟩,by show l.length-((i:Int)+1).toNat < l.length-((i:Nat):Int).toNat; omega⟩
     ·right;rw[e1,aa,elim_inl];refine⟨_,rfl,.inr ⟨fun h=>e2 ?_,rfl⟩⟩;have:=wC h (i+1);rw[ht]at this;exact(okL_snoc.1 this).2.2
    ·right;rw[decide_eq_false hc,Bool.not_false,cond_true];exact⟨_,rfl,.inr ⟨fun h=>hc (h.1 _ (cj him)),rfl⟩⟩
   ·obtain rfl:i=l.length:=by omega
    rw[List.take_length]at ho;right;rw[show decide ((l.length:Int) < (↑(List.length l):Int))=false from aT _,cond_false];exact⟨_,rfl,.inl ⟨ho,rfl⟩⟩)
 obtain⟨y,h1,⟨h2,rfl⟩ | ⟨h2,rfl⟩⟩:=key
 ·exact .inl ⟨h2,h1⟩
 ·exact .inr ⟨h2,h1⟩
theorem wD {h:List Int×Int}{l:List aB}(h1:cY h)(h2:40 < l.length):lx h l=41:=by
 unfold lx;rw[if_pos h1,if_neg fun q=>by have:=q.1; omega]
theorem Uq (h:List Int×Int)(l:List aB)(hh:h.1.length≤1000)(hl:l.length≤1000):wO (h,l)=some (lx h l):=by
 show q27 P37 P50 v7 h l=_;unfold q27;rw[Uo h hh,aa];by_cases h1:cY h
 ·rw[decide_eq_true h1,Bool.not_true,cond_false];by_cases h2:40 < l.length
  ·rw[show decide (40 < (↑(List.length l):Int))=true from decide_eq_true (by omega),cond_true,wD h1 h2]
  ·rw[show decide (40 < (↑(List.length l):Int))=false from decide_eq_false (by omega),cond_false];unfold lx;rw[if_pos h1];rcases HB l hl with⟨e1,e2⟩ | ⟨e1,e2⟩
   ·rw[e2,if_pos ⟨by omega,e1.1,e1.2⟩]; rfl
   ·rw[e2,if_neg fun q=>e1 ⟨q.2.1,q.2.2⟩]; rfl
 ·rw[decide_eq_false h1,Bool.not_false,cond_true];unfold lx;rw[if_neg h1]
theorem HC (l:List aB)(hl:l.length≤1000):(ul l∧∃ m,L26_0 (l,(l.length:Int),0,[])=some (.inr m))∨(¬ ul l∧∃ m,L26_0 (l,(l.length:Int),0,[])=some (.inl (41,m))):=by
 have key:=cF (step:=fun x=>Mb x.1 x.2.1 x.2.2.1 x.2.2.2)
  (fun s=>l.length-s.2.2.1.toNat)
  (fun s=>∃ (i:Nat) (m:List (List Int×aB)),i≤l.length∧s=(l,(l.length:Int),(i:Int),m)∧ul (l.take i)∧(∀ n x,dm m [n]=some x→x∈l.take i∧x.1=n)∧∀ x∈l.take i,dm m [x.1]=some x)
  (fun y=>(ul l∧∃ m,y=Sum.inr m)∨(¬ ul l∧∃ m,y=Sum.inl (41,m)))
  (x:=(l,(l.length:Int),((0:Nat):Int),[])) ⟨0,[],Nat.zero_le _,rfl,by unfold ul jI; simp,fun n x h=>(by cases h),by simp⟩ (by show l.length-_ < _; omega) (by
   rintro s ⟨i,m,hi,rfl,ho,hm1,hm2⟩;show(∃ s',vG Cc Cd l (l.length:Int) (i:Int) m=_∧_)∨∃ z,vG Cc Cd l (l.length:Int) (i:Int) m=_∧_;unfold vG;by_cases him:i < l.length
   ·have ht:=dJ l him;rw[aN him,cond_true,ak (aC him),bI,Um,aa];have next:ul (l.take i++[gt l i])→∃ s',(some (Sum.inl (l,(l.length:Int),(i:Int)+1,jq m [(gt l i).1] (gt l i))):Option ((List aB×Int×Int×List (List Int×aB))⊕((Int×List (List Int×aB))⊕List (List Int×aB))))=some (.inl s') ∧
      (∃ (i:Nat) (m:List (List Int×aB)),i≤l.length∧s'=(l,(l.length:Int),(i:Int),m)∧ul (l.take i)∧(∀ n x,dm m [n]=some x→x∈l.take i∧x.1=n)∧∀ x∈l.take i,dm m [x.1]=some x)∧l.length-s'.2.2.1.toNat < l.length-((i:Nat):Int).toNat:=fun hok=>by
     refine⟨_,rfl,⟨i+1,_,by omega,rfl,by rw[ht]; exact hok,fun n x hx=>?_,fun x hx=>?_⟩,by show l.length-((i:Int)+1).toNat < l.length-((i:Nat):Int).toNat; omega⟩
     ·rw[m6]at hx;rw[ht,List.mem_append,List.mem_singleton];by_cases c:[n]=[(gt l i).1]
      ·rw[if_pos c]at hx;have c':n=(gt l i).1:=by simpa using c
       cases hx;exact⟨.inr rfl,c'.symm⟩
      ·rw[if_neg c]at hx;exact⟨.inl (hm1 n x hx).1,(hm1 n x hx).2⟩
     ·rw[m6];rw[ht,List.mem_append,List.mem_singleton]at hx;by_cases c:[x.1]=[(gt l i).1]
      ·rw[if_pos c];have c':x.1=(gt l i).1:=by simpa using c
       rcases hx with hx | hx
       ·rw[(okL_snoc.1 hok).2.2 x hx c']
       ·rw[hx]
      ·rw[if_neg c];rcases hx with hx | hx
       ·exact hm2 x hx
       ·exact absurd (by rw[hx]) c
    by_cases hc:bk (gt l i)
    ·rw[decide_eq_true hc,Bool.not_true,cond_false];have f:ah .i64 ((i:Int)+1)=true:=aF (by omega);cases hk:dm m [(gt l i).1]with
     | none=>
      left;rw[show Option.isSome (none:Option aB)=false from rfl,cond_false,ak f];refine next (okL_snoc.2 ⟨ho,hc,fun a ha e=>?_⟩)
      have:=hm2 a ha;rw[e,hk]at this;cases this
     | some old=>
      rw[show Option.isSome (some old)=true from rfl,cond_true,show xl (some old) ((0:Int),((0:Int),((0:Int),((0:Int),(0:Int)))))=old from rfl,Ud];obtain⟨g1,g2⟩:=hm1 _ old hk;by_cases hq:old=gt l i
      ·left;rw[decide_eq_true hq,Bool.not_true,cond_false,ak f];refine next (okL_snoc.2 ⟨ho,hc,fun a ha e=>?_⟩)
       have:=hm2 a ha;rw[e,hk]at this;cases this;exact hq
      ·right;rw[decide_eq_false hq,Bool.not_false,cond_true];refine⟨_,rfl,.inr ⟨fun h=>hq ?_,m,rfl⟩⟩;have:=wC h (i+1);rw[ht]at this;exact(okL_snoc.1 this).2.2 old g1 g2
    ·right;rw[decide_eq_false hc,Bool.not_false,cond_true];exact⟨_,rfl,.inr ⟨fun h=>hc (h.1 _ (cj him)),m,rfl⟩⟩
   ·obtain rfl:i=l.length:=by omega
    rw[List.take_length]at ho;right;rw[aT,cond_false];exact⟨_,rfl,.inl ⟨ho,m,rfl⟩⟩)
 obtain⟨y,h1,⟨h2,m,rfl⟩ | ⟨h2,m,rfl⟩⟩:=key
 ·exact .inl ⟨h2,m,h1⟩
 ·exact .inr ⟨h2,m,h1⟩
theorem HD (h:List Int×Int)(l:List aB)(hh:h.1.length≤1000)(hl:l.length≤1000):vH (h,l)=some (lx h l):=by
 show q26 Cc Cd L26_0 h l=_;unfold q26;rw[Up h hh,aa];by_cases h1:cY h
 ·rw[decide_eq_true h1,Bool.not_true,cond_false];by_cases h2:40 < l.length
  ·rw[show decide (40 < (↑(List.length l):Int))=true from decide_eq_true (by omega),cond_true,wD h1 h2]
  ·rw[show decide (40 < (↑(List.length l):Int))=false from decide_eq_false (by omega),cond_false];unfold lx;rw[if_pos h1];rcases HC l hl with⟨e1,m,e2⟩ | ⟨e1,m,e2⟩
   ·rw[show L26_0 (l,(↑(List.length l):Int),0,[])=_ from e2,if_pos ⟨by omega,e1.1,e1.2⟩]; rfl
   ·rw[show L26_0 (l,(↑(List.length l):Int),0,[])=_ from e2,if_neg fun q=>e1 ⟨q.2.1,q.2.2⟩]; rfl
 ·rw[decide_eq_false h1,Bool.not_false,cond_true];unfold lx;rw[if_neg h1]
theorem um {h:List Int×Int}{l:List aB}:lx h l=0↔cY h∧dO l:=by
 unfold lx;by_cases h1:cY h
 ·by_cases h2:dO l
  ·simp[h1,h2]
  ·simp[h1,h2]
 ·simp[h1]
def eO (h:List Int×Int)(l:List aB)(minute order size:Int):Int:=if lx h l=0 then(if wi minute 0 9999=true∧wi order 0 99=true∧wi size 1 12=true then 0 else 1)else lx h l
theorem fG {h:List Int×Int}{l:List aB}{minute order size:Int}:eO h l minute order size=0↔(cY h∧dO l)∧(0≤minute∧minute≤9999)∧(0≤order∧order≤99)∧(1≤size∧size≤12):=by
 unfold eO;simp only[dk];by_cases h1:lx h l=0
 ·rw[if_pos h1];have:=um.1 h1;split
  ·rename_i q; exact⟨fun _=>⟨this,q⟩,fun _=>rfl⟩
  ·rename_i q; exact⟨fun e=>(by cases e),fun e=>absurd e.2 q⟩
 ·rw[if_neg h1];exact⟨fun e=>absurd e h1,fun e=>absurd (um.2 e.1) h1⟩
theorem yN (h:List Int×Int)(l:List aB)(minute order size:Int)(hh:h.1.length≤1000)(hl:l.length≤1000):P51 (h,l,minute,order,size)=some (eO h l minute order size):=by
 show q51 wO P57 h l minute order size=_;unfold q51 eO;rw[Uq h l hh hl,aa];by_cases h1:lx h l=0
 ·rw[decide_eq_true h1,Bool.not_true,cond_false,if_pos h1];simp only[uk,aa];cases wi minute 0 9999 <;> cases wi order 0 99 <;> cases wi size 1 12 <;> rfl
 ·rw[decide_eq_false h1,Bool.not_false,cond_true,if_neg h1]
theorem qo (h:List Int×Int)(l:List aB)(minute order size:Int)(hh:h.1.length≤1000)(hl:l.length≤1000):ja (h,l,minute,order,size)=(if eO h l minute order size=0 then none else some (eO h l minute order size)):=by
 show q42 vH P60 P65 h l minute order size=_;unfold q42;rw[HD h l hh hl,aa];unfold eO;by_cases h1:lx h l=0
 ·rw[decide_eq_true h1,Bool.not_true,cond_false,if_pos h1];simp only[nt,aa];have hn:∀ o:Option (List Int×Int×List (List Int)×List Int×List dZ),(o.bind fun _=>(none:Option Int))=none:=fun o=>by cases o <;> rfl
  cases wi minute 0 9999 <;> cases wi order 0 99 <;> cases wi size 1 12 <;> first | rfl | exact hn _
 ·rw[decide_eq_false h1,Bool.not_false,cond_true,if_neg h1,if_neg h1]
theorem jJ {h:List Int×Int}{l:List aB}{minute order size:Int}(h0:eO h l minute order size=0):
  ∃ pool,P42v1 (h,l,minute,order,size)=some (0,h.1,h.2,(aM h l minute).1,(aM h l minute).2.2,pool)∧PK pool (aM h l minute).2.1:=by
 obtain⟨⟨c1,c2⟩,c3,c4,c5⟩:=fG.1 h0;obtain⟨pool,e1,e2⟩:=P65_M minute c1 c2;refine⟨pool,?_,e2⟩;show Ax vH P60 P65 h l minute order size=_;unfold Ax;rw[HD h l (by have:=c1.1; omega) (by have:=c2.1; omega),aa,um.2 ⟨c1,c2⟩];simp only[nt,aa,dk.2 c3,dk.2 c4,dk.2 c5,e1];rfl
namespace Pdq44
abbrev E:=Int
section
variable {β:Type} [Inhabited β] {v:β→E} {C:β→β→Bool}
def lt (C:β→β→Bool)(x y:β):Bool:=C x y
theorem eQ (a:Nat):∀ (j:Nat) (d:Array β),(Sort.insInner (lt C) a j d).size=d.size
 | 0,d=>by rw[Sort.insInner]
 | j+1,d=>by
  rw[Sort.insInner];split
  ·rw[eQ a j,aq]
  ·rfl
theorem eR (hi first:Nat):∀ (n root:Nat) (d:Array β),hi-root≤n→(Sort.siftDown (lt C) hi first root d).size=d.size:=by
 intro n
 induction n with
 | zero=>intro root d h; rw[Sort.siftDown,dif_pos (by omega)]
 | succ n ih=>
  intro root d h;rw[Sort.siftDown];split
  ·rfl
  ·split
   ·split
    ·rfl
    ·rw[dif_pos (by rename_i h1 h2 h3; simp only[Bool.and_eq_true,decide_eq_true_eq]at h2; omega),ih _ _ (by omega),aq]
   ·split
    ·rfl
    ·rw[ih _ _ (by omega),aq]
theorem dR (hi first:Nat):∀ (k:Nat) (d:Array β),(Sort.heapBuild (lt C) hi first k d).size=d.size
 | 0,d=>rfl
 | k+1,d=>by rw[Sort.heapBuild,dR hi first k,eR hi first _ k d (Nat.le_refl _)]
variable (hC:∀ x y,P91 (v x,v y)=some (lt C x y))
include hC
theorem UQ {a b i:Nat}{j:Nat}{d:Array β}(h1:j < d.size)(h2:d.size≤250)(h3:a≤250):
  F9 ((a:Int),(b:Int),(i:Int),(j:Int),MA v d)=some ((a:Int),(b:Int),(i:Int),MA v (Sort.insInner (lt C) a j d)):=by
 refine aI (fun s r n=>∃ (j:Nat) (d:Array β),j < d.size∧d.size≤250∧s=((a:Int),(b:Int),(i:Int),(j:Int),MA v d)∧r=((a:Int),(b:Int),(i:Int),MA v (Sort.insInner (lt C) a j d))∧n=j) ⟨j,d,h1,h2,rfl,rfl,rfl⟩ (by omega) ?_;rintro s r n ⟨j,d,q1,q2,rfl,rfl,rfl⟩;simp only[u5,MJ,F8];cases n with
 | zero=>left; simp(disch:=omega) only[iY,dF,cond_false,Sort.insInner]
 | succ j=>
  by_cases e:a < j+1
  ·simp(disch:=omega) only[iY,dT,cond_true,aE,am,p1,aG,aR,hC,aa,Nat.add_sub_cancel,Int.toNat_natCast]
   cases hl:lt C d[j+1]! d[j]!
   ·left;rw[show Sort.insInner (lt C) a (j+1) d=d by rw[Sort.insInner]; simp[hl]];simp only[cond_false]
   ·right;rw[show Sort.insInner (lt C) a (j+1) d=Sort.insInner (lt C) a j (Sort.swp d (j+1) j)by rw[Sort.insInner]; simp[hl,e]]
    simp(disch:=omega) only[cond_true,bA,aX,bB,am]
    exact⟨_,j,rfl,⟨j,Sort.swp d (j+1) j,by rw[aq]; omega,by rwa [aq],rfl,rfl,rfl⟩,by omega⟩
  ·left;rw[show Sort.insInner (lt C) a (j+1) d=d by rw[Sort.insInner]; simp[e]]
   simp(disch:=omega) only[iY,dF,cond_false]
theorem ins {a b:Nat}{d:Array β}(hb:b≤d.size)(hz:d.size≤250)(ha:a≤250):rU ((a:Int),(b:Int),MA v d)=some (MA v (Sort.insertionSort (lt C) d a b)):=by
 have e:Gb ((a:Int),(b:Int),((a+1:Nat):Int),MA v d)=some (MA v (Sort.insOuter (lt C) a b (a+1) d)):=by
  refine aI (fun s r n=>∃ (i:Nat) (d:Array β),b≤d.size∧d.size≤250∧s=((a:Int),(b:Int),(i:Int),MA v d)∧r=MA v (Sort.insOuter (lt C) a b i d)∧n=b-i) ⟨a+1,d,hb,hz,rfl,rfl,rfl⟩ (by omega) ?_;rintro s r n ⟨i,d,q1,q2,rfl,rfl,rfl⟩;simp only[u4,ML,Ga];rw[Sort.insOuter];by_cases e:i < b
  ·right
   simp(disch:=omega) only[iY,dT,cond_true,UQ hC,aa,aG,am,a1]
   exact⟨_,b-(i+1),rfl,⟨i+1,Sort.insInner (lt C) a i d,by rwa [eQ],by rwa [eQ],rfl,by rw[if_pos e],rfl⟩,by omega⟩
  ·left
   simp(disch:=omega) only[iY,dF,cond_false,if_neg e]
 simp(disch:=omega) only[u3,rU,p85,q85,aG,am,a1,e,aa,Sort.insertionSort]
theorem H9 {lo hi first:Nat}{d:Array β}(hs:first+hi≤d.size)(hl:lo < hi∨hi=0)(hz:d.size≤250)(h0:lo≤250):lr ((lo:Int),(hi:Int),(first:Int),MA v d)=some (MA v (Sort.siftDown (lt C) hi first lo d)):=by
 have key:∃ y,yr ((hi:Int),(first:Int),(lo:Int),MA v d)=some y∧Sum.elim id id y=MA v (Sort.siftDown (lt C) hi first lo d):=by
  refine iO (fun s n=>∃ (root:Nat) (d':Array β),first+hi≤d'.size∧(root < hi∨hi=0)∧d'.size≤250∧root≤250∧s=((hi:Int),(first:Int),(root:Int),MA v d')∧Sort.siftDown (lt C) hi first root d'=Sort.siftDown (lt C) hi first lo d∧n=hi-root) _
   ⟨lo,d,hs,hl,hz,h0,rfl,rfl,rfl⟩ (by omega) ?_
  rintro s n ⟨root,d',g1,g0,g2,g3,rfl,g4,rfl⟩;rw[← g4]
  clear g4
  simp only[u4,Gf,yq];rw[Sort.siftDown];by_cases e:hi≤2*root+1
  ·left
   simp(disch:=omega) only[m2,aG,am,aG,a1,il,dT,cond_true,dif_pos (show 2*root+1≥hi from e)]
   exact⟨_,rfl,rfl⟩
  ·simp(disch:=omega) only[m2,aG,am,aG,a1,il,iY,dF,cond_false,dif_neg (show ¬ 2*root+1≥hi from e),an]
   by_cases e2:2*root+1+1 < hi
   ·simp(disch:=omega) only[dT,cond_true,aG,am,aE,aR,hC,aa,Bool.true_and]
    cases hl1:lt C d'[first+(2*root+1)]! d'[first+(2*root+1)+1]!
    ·simp(disch:=omega) only[cond_false,aG,am,aE,aR,hC,aa,Bool.false_eq_true,if_false]
     cases hl2:lt C d'[first+root]! d'[first+(2*root+1)]!
     ·left; simp only[Bool.not_false,cond_true,if_true]; exact⟨_,rfl,rfl⟩
     ·right
      simp(disch:=omega) only[Bool.not_true,cond_false,Bool.false_eq_true,if_false,aE,am,Int.toNat_natCast,bA,aX,bB]
      exact⟨_,hi-(2*root+1),rfl,⟨2*root+1,Sort.swp d' (first+root) (first+(2*root+1)),by rw[aq]; omega,by omega,by rw[aq]; omega,by omega,rfl,rfl,rfl⟩,by omega⟩
    ·simp(disch:=omega) only[cond_true,aG,am,aE,aR,hC,aa,if_true]
     cases hl2:lt C d'[first+root]! d'[first+(2*root+1+1)]!
     ·left;have hl2':lt C d'[first+root]! d'[first+(2*root+2)]! = false:=hl2;simp only[Bool.not_false,cond_true,hl2',if_true]; exact⟨_,rfl,rfl⟩
     ·right;have hl2':lt C d'[first+root]! d'[first+(2*root+2)]! = true:=hl2
      simp(disch:=omega) only[hl2',Bool.not_true,cond_false,Bool.false_eq_true,if_false,aE,am,Int.toNat_natCast,bA,aX,bB,dif_pos (show 2*root+2 < hi from e2)]
      exact⟨_,hi-(2*root+1+1),rfl,⟨2*root+1+1,Sort.swp d' (first+root) (first+(2*root+2)),by rw[aq]; omega,by omega,by rw[aq]; omega,by omega,rfl,rfl,rfl⟩,by omega⟩
   ·simp(disch:=omega) only[dF,cond_false,aG,am,aE,aR,hC,aa,Bool.false_and,Bool.false_eq_true,if_false]
    cases hl2:lt C d'[first+root]! d'[first+(2*root+1)]!
    ·left; simp only[Bool.not_false,cond_true,if_true]; exact⟨_,rfl,rfl⟩
    ·right
     simp(disch:=omega) only[Bool.not_true,cond_false,Bool.false_eq_true,if_false,aE,am,Int.toNat_natCast,bA,aX,bB]
     exact⟨_,hi-(2*root+1),rfl,⟨2*root+1,Sort.swp d' (first+root) (first+(2*root+1)),by rw[aq]; omega,by omega,by rw[aq]; omega,by omega,rfl,rfl,rfl⟩,by omega⟩
 obtain⟨y,e1,e2⟩:=key;simp only[u4,lr,XA,Ti,e1,aa];cases y with
 | inl x=>simp only[Sum.elim_inl]; rw[← e2]; rfl
 | inr x=>simp only[Sum.elim_inr]; rw[← e2]; rfl
theorem heap {a b:Nat}{d:Array β}(hab:a < b)(hb:b≤d.size)(hz:d.size≤250):rV ((a:Int),(b:Int),MA v d)=some (MA v (Sort.heapSort (lt C) d a b)):=by
 have c0:∀ k:Nat,(0:Int)=((0:Nat):Int):=fun _=>rfl;have e1:∀ (k:Nat),k≤b-a→Gh ((a:Int),0,((b-a:Nat):Int),(k:Int)-1,MA v d)=some ((a:Int),0,((b-a:Nat):Int),MA v (Sort.heapBuild (lt C) (b-a) a k d)):=fun k hk=>by
  refine aI (fun s r n=>∃ (k:Nat) (d':Array β),k≤b-a∧d'.size=d.size∧s=((a:Int),0,((b-a:Nat):Int),(k:Int)-1,MA v d')∧r=((a:Int),0,((b-a:Nat):Int),MA v (Sort.heapBuild (lt C) (b-a) a k d'))∧n=k) ⟨k,d,hk,rfl,rfl,rfl,rfl⟩ (by omega) ?_;rintro s r n ⟨k,d',q1,q2,rfl,rfl,rfl⟩;simp only[u5,MS,Gg];cases n with
  | zero=>left; rfl
  | succ k=>
   right;have g1:((k+1:Nat):Int)-1=(k:Int):=by omega
   have g2:decide ((0:Int)≤(k:Int))=true:=by simp
   simp(disch:=omega) only[g1,g2,cond_true,H9 hC,aa,nL,am]
   exact⟨_,k,rfl,⟨k,Sort.siftDown (lt C) (b-a) a k d',by omega,by rw[eR _ _ _ _ _ (Nat.le_refl _),q2],rfl,rfl,rfl⟩,by omega⟩
 have e2:∀ (d:Array β) (k:Nat),k≤b-a→b≤d.size→d.size≤250→Gj ((a:Int),0,(k:Int)-1,MA v d)=some (MA v (Sort.heapPop (lt C) a k d)):=fun d k hk hb hz=>by
  refine aI (fun s r n=>∃ (k:Nat) (d':Array β),k≤b-a∧d'.size=d.size∧s=((a:Int),0,(k:Int)-1,MA v d')∧r=MA v (Sort.heapPop (lt C) a k d')∧n=k) ⟨k,d,hk,rfl,rfl,rfl,rfl⟩ (by omega) ?_;rintro s r n ⟨k,d',q1,q2,rfl,rfl,rfl⟩;simp only[u4,MU,Gi];cases n with
  | zero=>left; rfl
  | succ k=>
   right;have g1:((k+1:Nat):Int)-1=(k:Int):=by omega
   have g2:decide ((0:Int)≤(k:Int))=true:=by simp
   have g3:lr (0,(k:Int),(a:Int),MA v (Sort.swp d' a (a+k)))=some (MA v (Sort.siftDown (lt C) k a 0 (Sort.swp d' a (a+k)))):=H9 hC (lo:=0) (by rw[aq]; omega) (by omega) (by rw[aq]; omega) (by omega)
   simp(disch:=omega) only[g1,g2,cond_true,an,aG,am,aE,aR,Int.toNat_natCast,bA,aX,bB,g3,aa,nL]
   exact⟨_,k,rfl,⟨k,Sort.siftDown (lt C) k a 0 (Sort.swp d' a (a+k)),by omega,by rw[eR _ _ _ _ _ (Nat.le_refl _),aq,q2],rfl,rfl,rfl⟩,by omega⟩
 have t1:((b-a-1:Nat):Int)=(b:Int)-(a:Int)-1:=by omega
 have t2:Int.tdiv ((b-a-1:Nat):Int) 2=((b-a-1) / 2:Nat):=CU _;have e1':=e1 ((b-a-1) / 2+1) (by omega);rw[show(((b-a-1) / 2+1:Nat):Int)-1=(((b-a-1) / 2:Nat):Int)by omega]at e1';have e2':=e2 (Sort.heapBuild (lt C) (b-a) a ((b-a-1) / 2+1) d) (b-a) (Nat.le_refl _) (by rw[dR]; exact hb) (by rw[dR]; exact hz)
 simp(disch:=omega) only[u3,rV,p86,q86,pn,aG,am,p1,t2,e1',aa,nL]
 rw[show((b-a-1:Nat):Int)=((b-a:Nat):Int)-1 by omega]
 simp(disch:=omega) only[nL,am,e2',aa,Sort.heapSort]
omit hC
theorem Ia {n:Nat}(h:n < 256):P67 (n:Int)=some ((Sort.bitsLen n:Nat):Int):=by
 have f:ah .u8 (n:Int)=true:=by
  rw[ah,decide_eq_true_eq];have e2:(2:Int)^8=256:=by decide
  simp only[IntKind.wrap,IntKind.bits,IntKind.signed,Bool.false_and,e2,Bool.false_eq_true,if_false];omega
 have d1:decide ((4294967296:Int)≤(n:Int))=false:=by simp; omega
 have d2:decide ((65536:Int)≤(n:Int))=false:=by simp; omega
 have d3:decide ((256:Int)≤(n:Int))=false:=by simp; omega
 simp only[P67,p67,q67,P95,p95,q95,zZ,Ev,zY,d1,cond_false,aa,d2,d3,f,am];have key:∀ m:Fin 256,∀ t:ByteArray,t=tb→aA (m.val:Int) t.size=true∧zw t (m.val:Int)=((Sort.bitsLen m.val:Nat):Int):=by
  intro m t ht;subst ht;constructor
  ·exact aC (by have:=m.isLt; exact this)
  ·revert m; decide +kernel
 obtain⟨k1,k2⟩:=key ⟨n,h⟩ _ rfl;simp only at k1 k2;have hl:=(Sort.bitsLen_le_iff n 8).2 (by omega);have z:(0:Int)+((Sort.bitsLen n:Nat):Int)=((Sort.bitsLen n:Nat):Int):=by omega
 simp(disch:=omega) only[k1,am,k2,z,aG,aa]
theorem npt {n:Nat}(h:n < 256):hX (n:Int)=some (((1 <<< Sort.bitsLen n:Nat)):Int):=by
 have hl:=(Sort.bitsLen_le_iff n 8).2 (by omega);have f:ah .u64 (n:Int)=true:=nK (by omega) (by omega);have d:decide ((0:Int)≤((Sort.bitsLen n:Nat):Int))=true:=by simp
 have e:gA .u64 1 ((Sort.bitsLen n:Nat):Int)=((1 <<< Sort.bitsLen n:Nat):Int):=by
  have hm:min ((Sort.bitsLen n:Nat):Int).toNat (IntKind.bits .u64)=Sort.bitsLen n:=by show min (Sort.bitsLen n) 64=_; omega
  have h2:2^Sort.bitsLen n≤2^8:=Nat.pow_le_pow_right (by omega) hl;unfold gA;rw[hm,show((1:Int)*2^Sort.bitsLen n)=((2^Sort.bitsLen n:Nat):Int)by simp,zQ (by omega),Nat.one_shiftLeft]
 simp only[hX,RW,JF,f,am,Ia h,aa,d,e]
theorem UR (r:UInt64):h9 (r.toNat:Int)=some (((Sort.xorNext r).toNat:Int),((Sort.xorNext r).toNat:Int)):=by
 have s13:∀ a:UInt64,gA .u64 (a.toNat:Int) 13=((a <<< 13).toNat:Int):=fun a=>Jm a 13 (by omega);have s7:∀ a:UInt64,bH .u64 (a.toNat:Int) 7=((a >>> 7).toNat:Int):=fun a=>Wh a 7 (by omega);have s17:∀ a:UInt64,gA .u64 (a.toNat:Int) 17=((a <<< 17).toNat:Int):=fun a=>Jm a 17 (by omega);simp only[h9,RZ,JG,s13,s7,s17,LF,Sort.xorNext]
theorem brk {a b:Nat}{d:Array β}(hab:a≤b)(hb:b≤d.size)(hz:d.size≤250):qL ((a:Int),(b:Int),MA v d)=some (MA v (Sort.breakPatterns d a b)):=by
 unfold Sort.breakPatterns;simp only[];by_cases h8:8≤b-a
 ·have g8:decide ((8:Int)≤((b-a:Nat):Int))=true:=by simp; omega
  have hm1:1 <<< Sort.bitsLen (b-a)≤2*(b-a):=by rw[Nat.one_shiftLeft]; exact Sort.two_pow_bitsLen_le (by omega)
  have hm0:0 < 1 <<< Sort.bitsLen (b-a):=by rw[Nat.one_shiftLeft]; exact Nat.two_pow_pos _
  generalize hm:1 <<< Sort.bitsLen (b-a)=m at *;generalize hn:b-a=n at *
  let st:Nat→UInt64×Array β:=fun k=>Nat.rec (UInt64.ofNat n,d) (fun i s=>Sort.breakStep a n m s (a+n / 4*2-1+i)) k
  have hst:∀ k,(st k).2.size=d.size:=fun k=>by
   induction k with
   | zero=>rfl
   | succ k ih=>show(Sort.swp _ _ _).size=_; rw[aq]; exact ih
  have hrun:Gl ((a:Int),(n:Int),(m:Int),((a+n / 4*2-1:Nat):Int),MA v d,(n:Int))=some (MA v (st 3).2,((st 3).1.toNat:Int)):=by
   have h0:((UInt64.ofNat n).toNat:Int)=(n:Int):=by rw[UInt64.toNat_ofNat']; omega
   refine aQ 3 (fun k=>((a:Int),(n:Int),(m:Int),((a+n / 4*2-1+k:Nat):Int),MA v (st k).2,((st k).1.toNat:Int))) _ (fun k hk=>?_) ?_ (by omega) |> fun h=>by
    have e:((a:Int),(n:Int),(m:Int),((a+n / 4*2-1+0:Nat):Int),MA v (st 0).2,((st 0).1.toNat:Int))=((a:Int),(n:Int),(m:Int),((a+n / 4*2-1:Nat):Int),MA v d,(n:Int)):=by
     show(_,_,_,_,_,((UInt64.ofNat n).toNat:Int))=_;rw[h0]; rfl
    rw[← e]; exact h
   ·have q4:Int.tdiv (n:Int) 4=((n / 4:Nat):Int):=CU n;have q5:((n / 4:Nat):Int)*2=((n / 4*2:Nat):Int):=by omega
    have hsz:=hst k;generalize hr:st k=s at *;have hnx:st (k+1)=Sort.breakStep a n m (st k) (a+n / 4*2-1+k):=rfl;rw[hr]at hnx;have hlt:=(Sort.xorNext s.1).toNat_lt;have hbd:(Sort.xorNext s.1).toNat &&& (m-1)≤m-1:=Nat.and_le_right;have fu:ah .u64 ((m-1:Nat):Int)=true:=nK (by omega) (by omega)
    simp(disch:=omega) only[u6,Gk,AB,q4,aG,am,q5,an,a1,il,dT,cond_true,UR,aa,fu,p1,LE]
    rw[hnx];unfold Sort.breakStep;simp only[];generalize (Sort.xorNext s.1).toNat &&& (m-1)=o at *;by_cases ho:n≤o
    ·simp(disch:=omega) only[dT,cond_true,pn,aG,am,an,aE,aR,Int.toNat_natCast,bA,aX,bB,if_pos (show o≥n from ho),a1]
     rw[show a+n / 4*2-1+k+1=a+n / 4*2-1+(k+1)by omega]
    ·simp(disch:=omega) only[dF,cond_false,pn,aG,am,an,aE,aR,Int.toNat_natCast,bA,aX,bB,if_neg (show ¬ o≥n from ho),a1]
     rw[show a+n / 4*2-1+k+1=a+n / 4*2-1+(k+1)by omega]
   ·have q4:Int.tdiv (n:Int) 4=((n / 4:Nat):Int):=CU n;have q5:((n / 4:Nat):Int)*2=((n / 4*2:Nat):Int):=by omega
    simp(disch:=omega) only[u6,Gk,AB,q4,aG,am,q5,an,a1,il,dF,cond_false]
  have q4:Int.tdiv (n:Int) 4=((n / 4:Nat):Int):=CU n;have q5:((n / 4:Nat):Int)*2=((n / 4*2:Nat):Int):=by omega
  have fu:ah .u64 (n:Int)=true:=nK (by omega) (by omega);have hn':(b:Int)-(a:Int)=(n:Int):=by omega
  have hnp:=npt (n:=n) (by omega);rw[hm]at hnp;have hst3:st 3=Sort.breakStep a n m (Sort.breakStep a n m (Sort.breakStep a n m (UInt64.ofNat n,d) (a+n / 4*2-1)) (a+n / 4*2-1+1)) (a+n / 4*2-1+2):=rfl;rw[hst3]at hrun;rw[if_pos (show n≥8 from h8)]
  simp(disch:=omega) only[u3,qL,p87,q87,hn',aG,am,g8,cond_true,fu,hnp,aa,q4,q5,an,p1,hrun]
 ·have g8:decide ((8:Int)≤((b-a:Nat):Int))=false:=by simp; omega
  simp(disch:=omega) only[u3,qL,p87,q87,pn,aG,am,g8,cond_false,if_neg (show ¬ b-a≥8 from h8)]
theorem rev {a b:Nat}{d:Array β}(hab:a≤b)(hb1:1≤b)(hb:b≤d.size)(hz:d.size≤250):rX ((a:Int),(b:Int),MA v d)=some (MA v (Sort.reverseRange d a b)):=by
 have e:Gn ((a:Int),((b-1:Nat):Int),MA v d)=some (MA v (Sort.reverseLoop a (b-1) d)):=by
  refine aI (fun s r n=>∃ (i j:Nat) (d:Array β),j < d.size∧d.size≤250∧i≤250∧s=((i:Int),(j:Int),MA v d)∧r=MA v (Sort.reverseLoop i j d)∧n=j-i) ⟨a,b-1,d,by omega,hz,by omega,rfl,rfl,rfl⟩ (by omega) ?_;rintro s r n ⟨i,j,d,q1,q2,q3,rfl,rfl,rfl⟩;simp only[u3,M0,Gm];by_cases e:i < j
  ·right;rw[show Sort.reverseLoop i j d=Sort.reverseLoop (i+1) (j-1) (Sort.swp d i j)by rw[Sort.reverseLoop,if_pos e]]
   simp(disch:=omega) only[iY,dT,cond_true,aE,aR,am,Int.toNat_natCast,bA,aX,bB,a1,aG,p1]
   exact⟨_,j-1-(i+1),rfl,⟨i+1,j-1,Sort.swp d i j,by rw[aq]; omega,by rwa [aq],by omega,rfl,rfl,rfl⟩,by omega⟩
  ·left;rw[show Sort.reverseLoop i j d=d by rw[Sort.reverseLoop,if_neg e]]
   simp(disch:=omega) only[iY,dF,cond_false]
 simp(disch:=omega) only[u3,rX,p89,q89,p1,aG,am,e,aa,Sort.reverseRange]
include hC
theorem ord {a b s:Nat}{d:Array β}(ha:a < d.size)(hb:b < d.size)(hs:s≤250):qM ((a:Int),(b:Int),MA v d,(s:Int))=some (((Sort.order2 (lt C) d a b s).1:Int),((Sort.order2 (lt C) d a b s).2.1:Int),MA v d,((Sort.order2 (lt C) d a b s).2.2:Int)):=by
 unfold Sort.order2
 simp(disch:=omega) only[u4,qM,XK,Tl,aE,am,aR,hC,aa,a1,aG]
 cases lt C d[b]! d[a]! <;> rfl
theorem US {a b c s:Nat}{d:Array β}(ha:a < d.size)(hb:b < d.size)(hc:c < d.size)(hs:s≤200):nk ((a:Int),(b:Int),(c:Int),MA v d,(s:Int))=some (((Sort.median (lt C) d a b c s).1:Int),MA v d,((Sort.median (lt C) d a b c s).2:Int)):=by
 unfold Sort.median;simp only[];have o1:=Sort.order2_mem (lt C) d a b s;have n1:=Sort.order2_count (lt C) d a b s;generalize g1:Sort.order2 (lt C) d a b s=r1 at *;have o2:=Sort.order2_mem (lt C) d r1.2.1 c r1.2.2;have n2:=Sort.order2_count (lt C) d r1.2.1 c r1.2.2;generalize g2:Sort.order2 (lt C) d r1.2.1 c r1.2.2=r2 at *;have e1:qM ((a:Int),(b:Int),MA v d,(s:Int))=some ((r1.1:Int),(r1.2.1:Int),MA v d,(r1.2.2:Int)):=by rw[ord hC ha hb (by omega),g1]
 have e2:qM ((r1.2.1:Int),(c:Int),MA v d,(r1.2.2:Int))=some ((r2.1:Int),(r2.2.1:Int),MA v d,(r2.2.2:Int)):=by rw[ord hC (by omega) hc (by omega),g2]
 have e3:=ord hC (d:=d) (a:=r1.1) (b:=r2.1) (s:=r2.2.2) (by omega) (by omega) (by omega);simp only[u5,nk,XM,To,e1,e2,e3,aa]
theorem UT {a s:Nat}{d:Array β}(ha:1≤a)(hb:a+1 < d.size)(hz:d.size≤250)(hs:s≤200):tS ((a:Int),MA v d,(s:Int))=some (((Sort.medianAdjacent (lt C) d a s).1:Int),MA v d,((Sort.medianAdjacent (lt C) d a s).2:Int)):=by
 have e:=US hC (d:=d) (a:=a-1) (b:=a) (c:=a+1) (s:=s) (by omega) (by omega) hb hs;unfold Sort.medianAdjacent
 simp(disch:=omega) only[u3,tS,XP,Tr,p1,aG,am,a1,e,aa]
omit hC
def hN:Sort.Hint→Int
 | .unknown=>0
 | .increasing=>1
 | .decreasing=>2
include hC
theorem chp {a b:Nat}{d:Array β}(hab:a < b)(hb:b≤d.size)(hz:d.size≤250):rW ((a:Int),(b:Int),MA v d)=some (((Sort.choosePivot (lt C) d a b).1:Int),hN (Sort.choosePivot (lt C) d a b).2,MA v d):=by
 unfold Sort.choosePivot;simp only[];generalize hn:b-a=n at *;have q4:Int.tdiv (n:Int) 4=((n / 4:Nat):Int):=CU n;have q1:((n / 4:Nat):Int)*1=((n / 4*1:Nat):Int):=by omega
 have q2:((n / 4:Nat):Int)*2=((n / 4*2:Nat):Int):=by omega
 have q3:((n / 4:Nat):Int)*3=((n / 4*3:Nat):Int):=by omega
 have hn':(b:Int)-(a:Int)=(n:Int):=by omega
 have hfin:∀ (p s:Nat),(cond (decide ((s:Int)=0)) (some ((p:Int),(1:Int),MA v d)) (cond (decide ((s:Int)=12)) (some ((p:Int),(2:Int),MA v d)) (some ((p:Int),(0:Int),MA v d)))) =
   some ((p:Int),hN (if s=0 then Sort.Hint.increasing else if s=12 then Sort.Hint.decreasing else Sort.Hint.unknown),MA v d):=fun p s=>by
  by_cases h0:s=0
  ·subst h0; rfl
  ·have d0:decide ((s:Int)=0)=false:=by simp; omega
   rw[d0,if_neg h0];by_cases h12:s=12
   ·subst h12; rfl
   ·have d1:decide ((s:Int)=12)=false:=by simp; omega
    rw[d1,if_neg h12]; rfl
 simp(disch:=omega) only[u3,rW,p88,q88,hn',aG,am,q4,q1,q2,q3,an]
 by_cases h8:8≤n
 ·have d8:decide ((8:Int)≤(n:Int))=true:=by simp; omega
  rw[d8,cond_true,if_pos (show n≥8 from h8)];by_cases h50:50≤n
  ·have d50:decide ((50:Int)≤(n:Int))=true:=by simp; omega
   rw[d50,cond_true,if_pos (show n≥50 from h50)];have m1:=Sort.medianAdjacent_mem (lt C) d (a+n / 4*1) 0;have c1:=Sort.medianAdjacent_count (lt C) d (a+n / 4*1) 0;have e1:=UT hC (d:=d) (a:=a+n / 4*1) (s:=0) (by omega) (by omega) hz (by omega);generalize Sort.medianAdjacent (lt C) d (a+n / 4*1) 0=r1 at *;have m2:=Sort.medianAdjacent_mem (lt C) d (a+n / 4*2) r1.2;have c2:=Sort.medianAdjacent_count (lt C) d (a+n / 4*2) r1.2;have e2:=UT hC (d:=d) (a:=a+n / 4*2) (s:=r1.2) (by omega) (by omega) hz (by omega);generalize Sort.medianAdjacent (lt C) d (a+n / 4*2) r1.2=r2 at *;have m3:=Sort.medianAdjacent_mem (lt C) d (a+n / 4*3) r2.2;have c3:=Sort.medianAdjacent_count (lt C) d (a+n / 4*3) r2.2;have e3:=UT hC (d:=d) (a:=a+n / 4*3) (s:=r2.2) (by omega) (by omega) hz (by omega);generalize Sort.medianAdjacent (lt C) d (a+n / 4*3) r2.2=r3 at *;have e4:=US hC (d:=d) (a:=r1.1) (b:=r2.1) (c:=r3.1) (s:=r3.2) (by omega) (by omega) (by omega) (by omega);have e1':tS (((a+n / 4*1:Nat):Int),MA v d,0)=some ((r1.1:Int),MA v d,(r1.2:Int)):=e1;simp only[e1',e2,e3,e4,aa,hfin]
  ·have d50:decide ((50:Int)≤(n:Int))=false:=by simp; omega
   rw[d50,cond_false,if_neg (show ¬ n≥50 from h50)];have e4:nk (((a+n / 4*1:Nat):Int),((a+n / 4*2:Nat):Int),((a+n / 4*3:Nat):Int),MA v d,0)=some (((Sort.median (lt C) d (a+n / 4*1) (a+n / 4*2) (a+n / 4*3) 0).1:Int),MA v d,((Sort.median (lt C) d (a+n / 4*1) (a+n / 4*2) (a+n / 4*3) 0).2:Int)):=US hC (s:=0) (by omega) (by omega) (by omega) (by omega);simp only[e4,aa,hfin]
 ·have d8:decide ((8:Int)≤(n:Int))=false:=by simp; omega
  rw[d8,cond_false,if_neg (show ¬ n≥8 from h8)];rfl
omit hC
theorem qv (d:Array β)(b:Nat):∀ (n i:Nat),b-i≤n→i≤b→i≤Sort.scanSorted (lt C) d b i∧Sort.scanSorted (lt C) d b i≤b:=by
 intro n
 induction n with
 | zero=>intro i h1 h2; rw[Sort.scanSorted,if_neg (by simp; omega)]; omega
 | succ n ih=>
  intro i h1 h2;rw[Sort.scanSorted];split
  ·rename_i h;simp only[Bool.and_eq_true,decide_eq_true_eq]at h;have:=ih (i+1) (by omega) (by omega);omega
  ·omega
theorem jO:∀ (j:Nat) (d:Array β),(Sort.shiftDown (lt C) j d).size=d.size
 | 0,d=>by rw[Sort.shiftDown]
 | j+1,d=>by
  rw[Sort.shiftDown];split
  ·rfl
  ·rw[jO j,aq]
theorem jP (b:Nat):∀ (n j:Nat) (d:Array β),b-j≤n→(Sort.shiftUp (lt C) b j d).size=d.size:=by
 intro n
 induction n with
 | zero=>intro j d h; rw[Sort.shiftUp,if_neg (by omega)]
 | succ n ih=>
  intro j d h;rw[Sort.shiftUp];split
  ·split
   ·rfl
   ·rw[ih _ _ (by omega),aq]
  ·rfl
include hC
theorem ps1 {a b i j:Nat}{d:Array β}(h1:1≤i)(hb:b≤d.size)(hz:d.size≤250)(hi:i≤250):Gq ((a:Int),(b:Int),(i:Int),(j:Int),MA v d)=some ((a:Int),(b:Int),((Sort.scanSorted (lt C) d b i:Nat):Int),(j:Int),MA v d):=by
 refine aI (fun s r n=>∃ i:Nat,1≤i∧i≤251∧s=((a:Int),(b:Int),(i:Int),(j:Int),MA v d)∧r=((a:Int),(b:Int),((Sort.scanSorted (lt C) d b i:Nat):Int),(j:Int),MA v d)∧n=b-i) ⟨i,h1,by omega,rfl,rfl,rfl⟩ (by omega) ?_;rintro s r n ⟨i,q1,q2,rfl,rfl,rfl⟩;simp only[u5,Na,Gp];by_cases e:i < b
 ·simp(disch:=omega) only[iY,dT,cond_true,aE,am,p1,aG,aR,hC,aa]
  cases hl:lt C d[i]! d[i-1]!
  ·right;rw[show Sort.scanSorted (lt C) d b i=Sort.scanSorted (lt C) d b (i+1)by rw[Sort.scanSorted,if_pos (by simp[e,hl])]]
   simp(disch:=omega) only[Bool.not_false,cond_true,a1,aG,am]
   exact⟨_,b-(i+1),rfl,⟨i+1,by omega,by omega,rfl,rfl,rfl⟩,by omega⟩
  ·left;rw[show Sort.scanSorted (lt C) d b i=i by rw[Sort.scanSorted,if_neg (by simp[hl])]];simp only[Bool.not_true,cond_false]
 ·left;rw[show Sort.scanSorted (lt C) d b i=i by rw[Sort.scanSorted,if_neg (by simp[e])]]
  simp(disch:=omega) only[iY,dF,cond_false]
theorem ps3 {a b i j k:Nat}{d:Array β}(hk:k < d.size)(hz:d.size≤250):Gs ((a:Int),(b:Int),(i:Int),(j:Int),(k:Int),MA v d)=some ((a:Int),(b:Int),(i:Int),(j:Int),MA v (Sort.shiftDown (lt C) k d)):=by
 refine aI (fun s r n=>∃ (k:Nat) (d:Array β),k < d.size∧d.size≤250∧s=((a:Int),(b:Int),(i:Int),(j:Int),(k:Int),MA v d)∧r=((a:Int),(b:Int),(i:Int),(j:Int),MA v (Sort.shiftDown (lt C) k d))∧n=k) ⟨k,d,hk,hz,rfl,rfl,rfl⟩ (by omega) ?_;rintro s r n ⟨k,d,q1,q2,rfl,rfl,rfl⟩;simp only[u6,Nc,Gr];cases n with
 | zero=>left; rw[Sort.shiftDown]; rfl
 | succ k=>
  have g1:decide ((1:Int)≤((k+1:Nat):Int))=true:=by simp; omega
  simp(disch:=omega) only[g1,cond_true,aE,am,p1,aG,aR,hC,aa,Nat.add_sub_cancel]
  cases hl:lt C d[k+1]! d[k]!
  ·left;rw[show Sort.shiftDown (lt C) (k+1) d=d by rw[Sort.shiftDown,if_pos (by simp[hl])]];simp only[Bool.not_false,cond_true]
  ·right;rw[show Sort.shiftDown (lt C) (k+1) d=Sort.shiftDown (lt C) k (Sort.swp d (k+1) k)by rw[Sort.shiftDown,if_neg (by simp[hl])]]
   simp(disch:=omega) only[Bool.not_true,cond_false,aE,am,aR,Int.toNat_natCast,bA,aX,bB]
   exact⟨_,k,rfl,⟨k,Sort.swp d (k+1) k,by rw[aq]; omega,by rwa [aq],rfl,rfl,rfl⟩,by omega⟩
theorem ps2 {a b i j:Nat}{d:Array β}(ha:a≤i)(h1:1≤i)(hi:i≤d.size)(hz:d.size≤250):AF ((a:Int),(b:Int),(i:Int),(j:Int),MA v d)=some ((a:Int),(b:Int),(i:Int),(j:Int),MA v (if i-a≥2 then Sort.shiftDown (lt C) (i-1) d else d)):=by
 simp only[AF,Nd,Gt];by_cases e:2≤i-a
 ·have g1:decide ((2:Int)≤((i-a:Nat):Int))=true:=by simp; omega
  simp(disch:=omega) only[pn,aG,am,g1,cond_true,p1,ps3 hC,aa,if_pos (show i-a≥2 from e)]
 ·have g1:decide ((2:Int)≤((i-a:Nat):Int))=false:=by simp; omega
  simp(disch:=omega) only[pn,aG,am,g1,cond_false,if_neg (show ¬ i-a≥2 from e)]
theorem ps4 {a b i j k:Nat}{d:Array β}(h1:1≤k)(hk:k≤250)(hb:b≤d.size)(hz:d.size≤250):Gv ((a:Int),(b:Int),(i:Int),(j:Int),(k:Int),MA v d)=some ((a:Int),(b:Int),(i:Int),(j:Int),MA v (Sort.shiftUp (lt C) b k d)):=by
 refine aI (fun s r n=>∃ (k:Nat) (d:Array β),1≤k∧k≤251∧b≤d.size∧d.size≤250∧s=((a:Int),(b:Int),(i:Int),(j:Int),(k:Int),MA v d)∧r=((a:Int),(b:Int),(i:Int),(j:Int),MA v (Sort.shiftUp (lt C) b k d))∧n=b-k) ⟨k,d,h1,by omega,hb,hz,rfl,rfl,rfl⟩ (by omega) ?_;rintro s r n ⟨k,d,q1,q0,q2,q3,rfl,rfl,rfl⟩;simp only[u6,Ng,Gu];by_cases e:k < b
 ·simp(disch:=omega) only[iY,dT,cond_true,aE,am,p1,aG,aR,hC,aa]
  cases hl:lt C d[k]! d[k-1]!
  ·left;rw[show Sort.shiftUp (lt C) b k d=d by rw[Sort.shiftUp,if_pos e,if_pos (by simp[hl])]];simp only[Bool.not_false,cond_true]
  ·right;rw[show Sort.shiftUp (lt C) b k d=Sort.shiftUp (lt C) b (k+1) (Sort.swp d k (k-1))by rw[Sort.shiftUp,if_pos e,if_neg (by simp[hl])]]
   simp(disch:=omega) only[Bool.not_true,cond_false,aE,am,aR,Int.toNat_natCast,bA,aX,bB,a1,aG]
   exact⟨_,b-(k+1),rfl,⟨k+1,Sort.swp d k (k-1),by omega,by omega,by rwa [aq],by rwa [aq],rfl,rfl,rfl⟩,by omega⟩
 ·left;rw[show Sort.shiftUp (lt C) b k d=d by rw[Sort.shiftUp,if_neg e]]
  simp(disch:=omega) only[iY,dF,cond_false]
theorem pis {a b:Nat}{d:Array β}(hab:a < b)(hb:b≤d.size)(hz:d.size≤250):rZ ((a:Int),(b:Int),MA v d)=some ((Sort.partialInsertionSort (lt C) d a b).2,MA v (Sort.partialInsertionSort (lt C) d a b).1):=by
 have key:∃ y,Gx ((a:Int),(b:Int),((a+1:Nat):Int),0,MA v d)=some y∧Sum.elim (fun y=>(y.2,y.1)) (fun y=>(y,false)) y=(MA v (Sort.partialInsertionSort (lt C) d a b).1,(Sort.partialInsertionSort (lt C) d a b).2):=by
  refine iO (fun s n=>∃ (t i:Nat) (d':Array β),t≤5∧a < i∧i≤b∧b≤d'.size∧d'.size≤250∧s=((a:Int),(b:Int),(i:Int),((5-t:Nat):Int),MA v d')∧Sort.partialIns (lt C) a b t i d'=Sort.partialInsertionSort (lt C) d a b∧n=t) _
   ⟨5,a+1,d,by omega,by omega,by omega,hb,hz,rfl,rfl,rfl⟩ (by omega) ?_
  rintro s n ⟨t,i,d',q1,q2,q3,q4,q5,rfl,q6,rfl⟩;rw[← q6]
  clear q6
  simp only[u5,Ni,Gw];cases n with
  | zero=>left; exact⟨_,rfl,rfl⟩
  | succ t=>
   have g0:decide (((5-(t+1):Nat):Int) < 5)=true:=by simp; omega
   have hs:=qv (C:=C) d' b _ i (Nat.le_refl _) q3;rw[Sort.partialIns]
   simp(disch:=omega) only[g0,cond_true,ps1 hC,aa]
   generalize Sort.scanSorted (lt C) d' b i=i2 at *;by_cases e:i2=b
   ·left;have g1:decide ((i2:Int)=(b:Int))=true:=by simp; omega
    simp only[g1,cond_true,if_pos e];exact⟨_,rfl,rfl⟩
   ·have g1:decide ((i2:Int)=(b:Int))=false:=by simp; omega
    simp(disch:=omega) only[g1,cond_false,if_neg e,pn,aG,am]
    by_cases e5:b-a < 50
    ·left;have g2:decide (((b-a:Nat):Int) < 50)=true:=by simp; omega
     simp only[g2,cond_true,if_pos e5];exact⟨_,rfl,rfl⟩
    ·right;have g2:decide (((b-a:Nat):Int) < 50)=false:=by simp; omega
     have z1:(Sort.swp d' i2 (i2-1)).size=d'.size:=aq _ _ _
     simp(disch:=omega) only[g2,cond_false,if_neg e5,p1,aG,am,aE,aR,Int.toNat_natCast,bA,aX,bB,ps2 hC,aa,pn]
     generalize hd2:(if i2-a≥2 then Sort.shiftDown (lt C) (i2-1) (Sort.swp d' i2 (i2-1))else Sort.swp d' i2 (i2-1))=d2;have z2:d2.size=d'.size:=by
      rw[← hd2]; split
      ·rw[jO,z1]
      ·exact z1
     by_cases e2:2≤b-i2
     ·have g3:decide ((2:Int)≤((b-i2:Nat):Int))=true:=by simp; omega
      simp(disch:=omega) only[g3,cond_true,a1,aG,am,ps4 hC,aa,if_pos (show b-i2≥2 from e2)]
      exact⟨_,t,rfl,⟨t,i2,Sort.shiftUp (lt C) b (i2+1) d2,by omega,by omega,by omega,by rw[jP _ _ _ _ (Nat.le_refl _)]; omega,by rw[jP _ _ _ _ (Nat.le_refl _)]; omega,by rw[show 5-(t+1)+1=5-t by omega],rfl,rfl⟩,by omega⟩
     ·have g3:decide ((2:Int)≤((b-i2:Nat):Int))=false:=by simp; omega
      simp(disch:=omega) only[g3,cond_false,a1,aG,am,if_neg (show ¬ b-i2≥2 from e2)]
      exact⟨_,t,rfl,⟨t,i2,d2,by omega,by omega,by omega,by omega,by omega,by rw[show 5-(t+1)+1=5-t by omega],rfl,rfl⟩,by omega⟩
 obtain⟨y,e1,e2⟩:=key
 simp(disch:=omega) only[u3,rZ,p90,q90,a1,aG,am,e1,aa]
 cases y with
 | inl x=>
  simp only[Sum.elim_inl,Prod.mk.injEq]at e2 ⊢;rw[e2.1,e2.2]
 | inr x=>
  simp only[Sum.elim_inr,Prod.mk.injEq]at e2 ⊢;rw[e2.1,e2.2]
theorem pe1 {a i j:Nat}{d:Array β}(ha:a < d.size)(hj:j < d.size)(hz:d.size≤250):Gz ((a:Int),(i:Int),(j:Int),MA v d)=some ((a:Int),((Sort.scanUp (fun x=>!lt C d[a]! x) d j i:Nat):Int),(j:Int),MA v d):=by
 refine aI (fun s r n=>∃ i:Nat,s=((a:Int),(i:Int),(j:Int),MA v d)∧r=((a:Int),((Sort.scanUp (fun x=>!lt C d[a]! x) d j i:Nat):Int),(j:Int),MA v d)∧n=j+1-i) ⟨i,rfl,rfl,rfl⟩ (by omega) ?_;rintro s r n ⟨i,rfl,rfl,rfl⟩;simp only[u4,No,Gy];by_cases e:i≤j
 ·simp(disch:=omega) only[il,dT,cond_true,aE,am,aG,aR,hC,aa]
  cases hl:lt C d[a]! d[i]!
  ·right;rw[show Sort.scanUp (fun x=>!lt C d[a]! x) d j i=Sort.scanUp (fun x=>!lt C d[a]! x) d j (i+1)by rw[Sort.scanUp,if_pos (by simp[e,hl])]]
   simp(disch:=omega) only[Bool.not_false,cond_true,a1,aG,am]
   exact⟨_,j+1-(i+1),rfl,⟨i+1,rfl,rfl,rfl⟩,by omega⟩
  ·left;rw[show Sort.scanUp (fun x=>!lt C d[a]! x) d j i=i by rw[Sort.scanUp,if_neg (by simp[hl])]];simp only[Bool.not_true,cond_false]
 ·left;rw[show Sort.scanUp (fun x=>!lt C d[a]! x) d j i=i by rw[Sort.scanUp,if_neg (by simp[e])]]
  simp(disch:=omega) only[il,dF,cond_false]
theorem pe2 {a i j:Nat}{d:Array β}(ha:a < d.size)(hi:1≤i)(hj:j < d.size)(hz:d.size≤250):GB ((a:Int),(i:Int),(j:Int),MA v d)=some ((a:Int),(i:Int),((Sort.scanDown (fun x=>lt C d[a]! x) d i j:Nat):Int),MA v d):=by
 refine aI (fun s r n=>∃ j:Nat,j < d.size∧s=((a:Int),(i:Int),(j:Int),MA v d)∧r=((a:Int),(i:Int),((Sort.scanDown (fun x=>lt C d[a]! x) d i j:Nat):Int),MA v d)∧n=j) ⟨j,hj,rfl,rfl,rfl⟩ (by omega) ?_;rintro s r n ⟨j,q1,rfl,rfl,rfl⟩;simp only[u4,Nq,GA];cases n with
 | zero=>
  left;rw[show Sort.scanDown (fun x=>lt C d[a]! x) d i 0=0 by rw[Sort.scanDown]]
  simp(disch:=omega) only[il,dF,cond_false]
 | succ j=>
  by_cases e:i≤j+1
  ·simp(disch:=omega) only[il,dT,cond_true,aE,am,aG,aR,hC,aa]
   cases hl:lt C d[a]! d[j+1]!
   ·left;rw[show Sort.scanDown (fun x=>lt C d[a]! x) d i (j+1)=j+1 by rw[Sort.scanDown,if_neg (by simp[hl])]];simp only[cond_false]
   ·right;rw[show Sort.scanDown (fun x=>lt C d[a]! x) d i (j+1)=Sort.scanDown (fun x=>lt C d[a]! x) d i j by rw[Sort.scanDown,if_pos (by simp[e,hl])]]
    simp(disch:=omega) only[cond_true,p1,Nat.add_sub_cancel,aG,am]
    exact⟨_,j,rfl,⟨j,by omega,rfl,rfl,rfl⟩,by omega⟩
  ·left;rw[show Sort.scanDown (fun x=>lt C d[a]! x) d i (j+1)=j+1 by rw[Sort.scanDown,if_neg (by simp[e])]]
   simp(disch:=omega) only[il,dF,cond_false]
theorem pr0 {a i j:Nat}{d:Array β}(ha:a < d.size)(hj:j < d.size)(hz:d.size≤250):GF ((a:Int),(i:Int),(j:Int),MA v d)=some ((a:Int),((Sort.scanUp (fun x=>lt C x d[a]!) d j i:Nat):Int),(j:Int),MA v d):=by
 refine aI (fun s r n=>∃ i:Nat,s=((a:Int),(i:Int),(j:Int),MA v d)∧r=((a:Int),((Sort.scanUp (fun x=>lt C x d[a]!) d j i:Nat):Int),(j:Int),MA v d)∧n=j+1-i) ⟨i,rfl,rfl,rfl⟩ (by omega) ?_;rintro s r n ⟨i,rfl,rfl,rfl⟩;simp only[u4,NA,GE];by_cases e:i≤j
 ·simp(disch:=omega) only[il,dT,cond_true,aE,am,aG,aR,hC,aa]
  cases hl:lt C d[i]! d[a]!
  ·left;rw[show Sort.scanUp (fun x=>lt C x d[a]!) d j i=i by rw[Sort.scanUp,if_neg (by simp[hl])]];simp only[cond_false]
  ·right;rw[show Sort.scanUp (fun x=>lt C x d[a]!) d j i=Sort.scanUp (fun x=>lt C x d[a]!) d j (i+1)by rw[Sort.scanUp,if_pos (by simp[e,hl])]]
   simp(disch:=omega) only[cond_true,a1,aG,am]
   exact⟨_,j+1-(i+1),rfl,⟨i+1,rfl,rfl,rfl⟩,by omega⟩
 ·left;rw[show Sort.scanUp (fun x=>lt C x d[a]!) d j i=i by rw[Sort.scanUp,if_neg (by simp[e])]]
  simp(disch:=omega) only[il,dF,cond_false]
theorem pr1 {a i j:Nat}{d:Array β}(ha:a < d.size)(hi:1≤i)(hj:j < d.size)(hz:d.size≤250):GH ((a:Int),(i:Int),(j:Int),MA v d)=some ((a:Int),(i:Int),((Sort.scanDown (fun x=>!lt C x d[a]!) d i j:Nat):Int),MA v d):=by
 refine aI (fun s r n=>∃ j:Nat,j < d.size∧s=((a:Int),(i:Int),(j:Int),MA v d)∧r=((a:Int),(i:Int),((Sort.scanDown (fun x=>!lt C x d[a]!) d i j:Nat):Int),MA v d)∧n=j) ⟨j,hj,rfl,rfl,rfl⟩ (by omega) ?_;rintro s r n ⟨j,q1,rfl,rfl,rfl⟩;simp only[u4,NC,GG];cases n with
 | zero=>
  left;rw[show Sort.scanDown (fun x=>!lt C x d[a]!) d i 0=0 by rw[Sort.scanDown]]
  simp(disch:=omega) only[il,dF,cond_false]
 | succ j=>
  by_cases e:i≤j+1
  ·simp(disch:=omega) only[il,dT,cond_true,aE,am,aG,aR,hC,aa]
   cases hl:lt C d[j+1]! d[a]!
   ·right;rw[show Sort.scanDown (fun x=>!lt C x d[a]!) d i (j+1)=Sort.scanDown (fun x=>!lt C x d[a]!) d i j by rw[Sort.scanDown,if_pos (by simp[e,hl])]]
    simp(disch:=omega) only[Bool.not_false,cond_true,p1,Nat.add_sub_cancel,aG,am]
    exact⟨_,j,rfl,⟨j,by omega,rfl,rfl,rfl⟩,by omega⟩
   ·left;rw[show Sort.scanDown (fun x=>!lt C x d[a]!) d i (j+1)=j+1 by rw[Sort.scanDown,if_neg (by simp[hl])]];simp only[Bool.not_true,cond_false]
  ·left;rw[show Sort.scanDown (fun x=>!lt C x d[a]!) d i (j+1)=j+1 by rw[Sort.scanDown,if_neg (by simp[e])]]
   simp(disch:=omega) only[il,dF,cond_false]
theorem pr3 {a i j:Nat}{d:Array β}(ha:a < d.size)(hj:j < d.size)(hz:d.size≤250):GJ ((a:Int),(i:Int),(j:Int),MA v d)=some ((a:Int),((Sort.scanUp (fun x=>lt C x d[a]!) d j i:Nat):Int),(j:Int),MA v d):=by
 refine aI (fun s r n=>∃ i:Nat,s=((a:Int),(i:Int),(j:Int),MA v d)∧r=((a:Int),((Sort.scanUp (fun x=>lt C x d[a]!) d j i:Nat):Int),(j:Int),MA v d)∧n=j+1-i) ⟨i,rfl,rfl,rfl⟩ (by omega) ?_;rintro s r n ⟨i,rfl,rfl,rfl⟩;simp only[u4,NE,GI];by_cases e:i≤j
 ·simp(disch:=omega) only[il,dT,cond_true,aE,am,aG,aR,hC,aa]
  cases hl:lt C d[i]! d[a]!
  ·left;rw[show Sort.scanUp (fun x=>lt C x d[a]!) d j i=i by rw[Sort.scanUp,if_neg (by simp[hl])]];simp only[cond_false]
  ·right;rw[show Sort.scanUp (fun x=>lt C x d[a]!) d j i=Sort.scanUp (fun x=>lt C x d[a]!) d j (i+1)by rw[Sort.scanUp,if_pos (by simp[e,hl])]]
   simp(disch:=omega) only[cond_true,a1,aG,am]
   exact⟨_,j+1-(i+1),rfl,⟨i+1,rfl,rfl,rfl⟩,by omega⟩
 ·left;rw[show Sort.scanUp (fun x=>lt C x d[a]!) d j i=i by rw[Sort.scanUp,if_neg (by simp[e])]]
  simp(disch:=omega) only[il,dF,cond_false]
theorem pr4 {a i j:Nat}{d:Array β}(ha:a < d.size)(hi:1≤i)(hj:j < d.size)(hz:d.size≤250):GL ((a:Int),(i:Int),(j:Int),MA v d)=some ((a:Int),(i:Int),((Sort.scanDown (fun x=>!lt C x d[a]!) d i j:Nat):Int),MA v d):=by
 refine aI (fun s r n=>∃ j:Nat,j < d.size∧s=((a:Int),(i:Int),(j:Int),MA v d)∧r=((a:Int),(i:Int),((Sort.scanDown (fun x=>!lt C x d[a]!) d i j:Nat):Int),MA v d)∧n=j) ⟨j,hj,rfl,rfl,rfl⟩ (by omega) ?_;rintro s r n ⟨j,q1,rfl,rfl,rfl⟩;simp only[u4,NG,GK];cases n with
 | zero=>
  left;rw[show Sort.scanDown (fun x=>!lt C x d[a]!) d i 0=0 by rw[Sort.scanDown]]
  simp(disch:=omega) only[il,dF,cond_false]
 | succ j=>
  by_cases e:i≤j+1
  ·simp(disch:=omega) only[il,dT,cond_true,aE,am,aG,aR,hC,aa]
   cases hl:lt C d[j+1]! d[a]!
   ·right;rw[show Sort.scanDown (fun x=>!lt C x d[a]!) d i (j+1)=Sort.scanDown (fun x=>!lt C x d[a]!) d i j by rw[Sort.scanDown,if_pos (by simp[e,hl])]]
    simp(disch:=omega) only[Bool.not_false,cond_true,p1,Nat.add_sub_cancel,aG,am]
    exact⟨_,j,rfl,⟨j,by omega,rfl,rfl,rfl⟩,by omega⟩
   ·left;rw[show Sort.scanDown (fun x=>!lt C x d[a]!) d i (j+1)=j+1 by rw[Sort.scanDown,if_neg (by simp[hl])]];simp only[Bool.not_true,cond_false]
  ·left;rw[show Sort.scanDown (fun x=>!lt C x d[a]!) d i (j+1)=j+1 by rw[Sort.scanDown,if_neg (by simp[e])]]
   simp(disch:=omega) only[il,dF,cond_false]
theorem peq {a b p:Nat}{d:Array β}(ha:a < d.size)(hp:p < d.size)(hb:b≤d.size)(hb1:1≤b)(hz:d.size≤250):sc ((a:Int),(b:Int),(p:Int),MA v d)=some (((Sort.partitionEqual (lt C) d a b p).1:Int),MA v (Sort.partitionEqual (lt C) d a b p).2):=by
 have key:∀ {i j:Nat} {d:Array β},a < d.size→1≤i→j < d.size→d.size≤250→GD ((a:Int),(i:Int),(j:Int),MA v d)=some (((Sort.partEqLoop (lt C) a i j d).1:Int),MA v (Sort.partEqLoop (lt C) a i j d).2):=by
  intro i j d ha hi hj hz;refine aI (fun s r n=>∃ (i j:Nat) (d:Array β),a < d.size∧1≤i∧j < d.size∧d.size≤250∧s=((a:Int),(i:Int),(j:Int),MA v d)∧r=(((Sort.partEqLoop (lt C) a i j d).1:Int),MA v (Sort.partEqLoop (lt C) a i j d).2)∧n=j+1-i) ⟨i,j,d,ha,hi,hj,hz,rfl,rfl,rfl⟩ (by omega) ?_;rintro s r n ⟨i,j,d,q1,q2,q3,q4,rfl,rfl,rfl⟩;have u1:=Sort.scanUp_ge (fun x=>!lt C d[a]! x) d j i;have u2:=Sort.scanDown_le (fun x=>lt C d[a]! x) d (Sort.scanUp (fun x=>!lt C d[a]! x) d j i) j;rw[Sort.partEqLoop_eq]
  simp(disch:=omega) only[u4,Ns,GC,pe1 hC,pe2 hC,aa]
  generalize Sort.scanUp (fun x=>!lt C d[a]! x) d j i=i2 at *;generalize Sort.scanDown (fun x=>lt C d[a]! x) d i2 j=j2 at *;by_cases e:j2 < i2
  ·left; simp(disch:=omega) only[iY,dT,cond_true,if_pos (show i2 > j2 from e)]
  ·right
   simp(disch:=omega) only[iY,dF,cond_false,if_neg (show ¬ i2 > j2 from e),aE,am,aR,Int.toNat_natCast,bA,aX,bB,a1,aG,p1]
   exact⟨_,j2-1+1-(i2+1),rfl,⟨i2+1,j2-1,Sort.swp d i2 j2,by rwa [aq],by omega,by rw[aq]; omega,by rwa [aq],rfl,rfl,rfl⟩,by omega⟩
 have k:=key (i:=a+1) (j:=b-1) (d:=Sort.swp d a p) (by rwa [aq]) (by omega) (by rw[aq]; omega) (by rwa [aq])
 simp(disch:=omega) only[u4,sc,p92,q92,aE,am,aR,Int.toNat_natCast,bA,aX,bB,a1,aG,p1,k,aa,Sort.partitionEqual]
omit hC
theorem Ib (a:Nat):∀ (n i j:Nat) (d:Array β),j+1-i≤n→(Sort.partLoop (lt C) a i j d).1≤j∧(Sort.partLoop (lt C) a i j d).2.size=d.size:=by
 intro n
 induction n with
 | zero=>
  intro i j d h;have u1:=Sort.scanUp_ge (fun x=>lt C x d[a]!) d j i;have u2:=Sort.scanDown_le (fun x=>!lt C x d[a]!) d (Sort.scanUp (fun x=>lt C x d[a]!) d j i) j;rw[Sort.partLoop_eq,if_pos (by omega)];exact⟨u2,rfl⟩
 | succ n ih=>
  intro i j d h;have u1:=Sort.scanUp_ge (fun x=>lt C x d[a]!) d j i;have u2:=Sort.scanDown_le (fun x=>!lt C x d[a]!) d (Sort.scanUp (fun x=>lt C x d[a]!) d j i) j;rw[Sort.partLoop_eq];split
  ·exact⟨u2,rfl⟩
  ·have:=ih (Sort.scanUp (fun x=>lt C x d[a]!) d j i+1) (Sort.scanDown (fun x=>!lt C x d[a]!) d (Sort.scanUp (fun x=>lt C x d[a]!) d j i) j-1) (Sort.swp d (Sort.scanUp (fun x=>lt C x d[a]!) d j i) (Sort.scanDown (fun x=>!lt C x d[a]!) d (Sort.scanUp (fun x=>lt C x d[a]!) d j i) j)) (by omega);exact⟨by omega,by rw[this.2,aq]⟩
include hC
theorem jN {a b p:Nat}{d:Array β}(ha:a < d.size)(hp:p < d.size)(hb:b≤d.size)(hb1:1≤b)(hz:d.size≤250):qN ((a:Int),(b:Int),(p:Int),MA v d)=some (((Sort.partition (lt C) d a b p).1:Int),(Sort.partition (lt C) d a b p).2.1,MA v (Sort.partition (lt C) d a b p).2.2):=by
 have key:∀ {i j:Nat} {d:Array β},a < d.size→1≤i→j < d.size→d.size≤250→GN ((a:Int),(i:Int),(j:Int),MA v d)=some ((a:Int),((Sort.partLoop (lt C) a i j d).1:Int),MA v (Sort.partLoop (lt C) a i j d).2):=by
  intro i j d ha hi hj hz;refine aI (fun s r n=>∃ (i j:Nat) (d:Array β),a < d.size∧1≤i∧j < d.size∧d.size≤250∧s=((a:Int),(i:Int),(j:Int),MA v d)∧r=((a:Int),((Sort.partLoop (lt C) a i j d).1:Int),MA v (Sort.partLoop (lt C) a i j d).2)∧n=j+1-i) ⟨i,j,d,ha,hi,hj,hz,rfl,rfl,rfl⟩ (by omega) ?_;rintro s r n ⟨i,j,d,q1,q2,q3,q4,rfl,rfl,rfl⟩;have u1:=Sort.scanUp_ge (fun x=>lt C x d[a]!) d j i;have u2:=Sort.scanDown_le (fun x=>!lt C x d[a]!) d (Sort.scanUp (fun x=>lt C x d[a]!) d j i) j;rw[Sort.partLoop_eq]
  simp(disch:=omega) only[u4,NI,GM,pr3 hC,pr4 hC,aa]
  generalize Sort.scanUp (fun x=>lt C x d[a]!) d j i=i2 at *;generalize Sort.scanDown (fun x=>!lt C x d[a]!) d i2 j=j2 at *;by_cases e:j2 < i2
  ·left; simp(disch:=omega) only[iY,dT,cond_true,if_pos (show i2 > j2 from e)]
  ·right
   simp(disch:=omega) only[iY,dF,cond_false,if_neg (show ¬ i2 > j2 from e),aE,am,aR,Int.toNat_natCast,bA,aX,bB,a1,aG,p1]
   exact⟨_,j2-1+1-(i2+1),rfl,⟨i2+1,j2-1,Sort.swp d i2 j2,by rwa [aq],by omega,by rw[aq]; omega,by rwa [aq],rfl,rfl,rfl⟩,by omega⟩
 unfold Sort.partition;simp only[];have z1:(Sort.swp d a p).size=d.size:=aq _ _ _;generalize hd:Sort.swp d a p=d1 at *;have u1:=Sort.scanUp_ge (fun x=>lt C x d1[a]!) d1 (b-1) (a+1);have u2:=Sort.scanDown_le (fun x=>!lt C x d1[a]!) d1 (Sort.scanUp (fun x=>lt C x d1[a]!) d1 (b-1) (a+1)) (b-1)
 simp(disch:=omega) only[u4,qN,p93,q93,aE,am,aR,Int.toNat_natCast,bA,aX,bB,hd,a1,aG,p1,pr0 hC,pr1 hC,aa]
 generalize Sort.scanUp (fun x=>lt C x d1[a]!) d1 (b-1) (a+1)=i2 at *;generalize Sort.scanDown (fun x=>!lt C x d1[a]!) d1 i2 (b-1)=j2 at *;by_cases e:j2 < i2
 ·simp(disch:=omega) only[iY,dT,cond_true,if_pos (show i2 > j2 from e),aE,am,aR,Int.toNat_natCast,bA,aX,bB]
 ·have z2:(Sort.swp d1 i2 j2).size=d1.size:=aq _ _ _;have k:=key (i:=i2+1) (j:=j2-1) (d:=Sort.swp d1 i2 j2) (by omega) (by omega) (by omega) (by omega);have hl:=Ib (C:=C) a _ (i2+1) (j2-1) (Sort.swp d1 i2 j2) (Nat.le_refl _)
  simp(disch:=omega) only[iY,dF,cond_false,if_neg (show ¬ i2 > j2 from e),aE,am,aR,Int.toNat_natCast,bA,aX,bB,a1,aG,p1,k,aa]
theorem UU (hS:Sort.SWO (lt C)):∀ (n f m a b limit:Nat) (wb wp:Bool) (d:Array β),n < f→n < m→n≤1000→b-a≤n→a≤b→b≤d.size→d.size≤250→limit≤250→Sort.Below (lt C) a b d →
  goF (fun x=>qc (uu f) x.1 x.2.1 x.2.2.1 x.2.2.2.1 x.2.2.2.2.1 x.2.2.2.2.2) m ((a:Int),(b:Int),(limit:Int),wb,wp,MA v d)=some (MA v (Sort.pdq (lt C) d a b limit wb wp)):=by
 have small:∀ (f m a b limit:Nat) (wb wp:Bool) (d:Array β),0 < m→b-a≤12→a≤b→b≤d.size→d.size≤250→goF (fun x=>qc (uu f) x.1 x.2.1 x.2.2.1 x.2.2.2.1 x.2.2.2.2.1 x.2.2.2.2.2) m ((a:Int),(b:Int),(limit:Int),wb,wp,MA v d)=some (MA v (Sort.pdq (lt C) d a b limit wb wp)):=by
  intro f m a b limit wb wp d hm h12 hab hb hz;obtain⟨m,rfl⟩:∃ m',m=m'+1:=⟨m-1,by omega⟩;have g:decide (((b-a:Nat):Int)≤12)=true:=by simp; omega
  rw[Sort.pdq,if_pos h12]
  simp(disch:=omega) only[u6,goF,qc,vZ,pn,aG,am,g,cond_true,ins hC,aa]
 intro n
 induction n with
 | zero=>intro f m a b limit wb wp d h1 h2 hn h3 hab hb hz hl hB; exact small f m a b limit wb wp d h2 (by omega) hab hb hz
 | succ n ih=>
  intro f m a b limit wb wp d h1 h2 hn h3 hab hb hz hl hB;by_cases h12:b-a≤12
  ·exact small f m a b limit wb wp d (by omega) h12 hab hb hz
  obtain⟨m,rfl⟩:∃ m',m=m'+1:=⟨m-1,by omega⟩;obtain⟨f,rfl⟩:∃ f',f=f'+1:=⟨f-1,by omega⟩;have g12:decide (((b-a:Nat):Int)≤12)=false:=by simp; omega
  rw[Sort.pdq,if_neg h12];by_cases h0:limit=0
  ·subst h0;have g0:decide (((0:Nat):Int)=0)=true:=rfl
   simp(disch:=omega) only[u6,goF,qc,vZ,pn,aG,am,g12,cond_false,g0,cond_true,heap hC,aa,if_true]
  have g0:decide ((limit:Int)=0)=false:=by simp; omega
  rw[if_neg h0];simp only[];have e1:vY (uu (f+1)) ((a:Int),(b:Int),(limit:Int),wb,wp,((b-a:Nat):Int),MA v d)=some ((a:Int),(b:Int),((if(!wb)=true then limit-1 else limit:Nat):Int),wb,wp,((b-a:Nat):Int),MA v (if(!wb)=true then Sort.breakPatterns d a b else d)):=by
   cases wb
   ·simp(disch:=omega) only[vY,GO,AH,Bool.not_false,cond_true,brk,aa,p1,aG,am,if_true]
   ·simp only[vY,GO,AH,Bool.not_true,cond_false,Bool.false_eq_true,if_false]
  have s1:Sort.PermIn a b d (if(!wb)=true then Sort.breakPatterns d a b else d):=by
   split
   ·exact Sort.breakPatterns_holds d a b hab hb
   ·exact Sort.permIn_refl _ _ _
  have hl1:(if(!wb)=true then limit-1 else limit)≤250:=by split <;> omega
  generalize (if(!wb)=true then Sort.breakPatterns d a b else d)=d1 at *;generalize (if(!wb)=true then limit-1 else limit)=l1 at *;have z1:d1.size=d.size:=s1.1;have e2:=chp hC (d:=d1) (a:=a) (b:=b) (by omega) (by omega) (by omega);have hc0:=Sort.choosePivot_holds (lt C) d1 a b (by omega);generalize Sort.choosePivot (lt C) d1 a b=c at *;have e3:AI (uu (f+1)) ((a:Int),(b:Int),(l1:Int),wb,wp,((b-a:Nat):Int),(c.1:Int),hN c.2,MA v d1)=some ((a:Int),(b:Int),(l1:Int),wb,wp,((b-a:Nat):Int),((if c.2 = .decreasing then(b-1)-(c.1-a)else c.1:Nat):Int),hN (if c.2 = .decreasing then Sort.Hint.increasing else c.2),MA v (if c.2 = .decreasing then Sort.reverseRange d1 a b else d1)):=by
   obtain⟨c1,c2⟩:=c;simp only at hc0;cases c2
   ·rfl
   ·rfl
   ·have g:decide (hN Sort.Hint.decreasing=2)=true:=rfl
    simp(disch:=omega) only[AI,NP,GP,g,cond_true,rev,aa,p1,aG,am,pn,if_true]
    rfl
  have s2:Sort.PermIn a b d1 (if c.2 = .decreasing then Sort.reverseRange d1 a b else d1):=by
   split
   ·exact Sort.reverseRange_holds d1 a b hab (by omega)
   ·exact Sort.permIn_refl _ _ _
  have hpv:a≤(if c.2 = .decreasing then(b-1)-(c.1-a)else c.1)∧(if c.2 = .decreasing then(b-1)-(c.1-a)else c.1) < b:=by split <;> omega
  generalize (if c.2 = .decreasing then Sort.reverseRange d1 a b else d1)=d2 at *;generalize (if c.2 = .decreasing then(b-1)-(c.1-a)else c.1)=pv at *;generalize (if c.2 = .decreasing then Sort.Hint.increasing else c.2)=hint at *;have z2:d2.size=d1.size:=s2.1;have B2:Sort.Below (lt C) a b d2:=(hB.perm hb s1).perm (by omega) s2;have s3:Sort.PermIn a b d2 (if(wb&&wp&&decide (hint = .increasing))=true then Sort.partialInsertionSort (lt C) d2 a b else(d2,false)).1:=by
   split
   ·exact(Sort.partialInsertionSort_holds hS d2 a b (by omega) (by omega) B2).1
   ·exact Sort.permIn_refl _ _ _
  have e4:AJ (uu (f+1)) ((a:Int),(b:Int),(l1:Int),wb,wp,((b-a:Nat):Int),(pv:Int),hN hint,MA v d2)=some (cond (if(wb&&wp&&decide (hint = .increasing))=true then Sort.partialInsertionSort (lt C) d2 a b else(d2,false)).2
    (.inl (MA v (if(wb&&wp&&decide (hint = .increasing))=true then Sort.partialInsertionSort (lt C) d2 a b else(d2,false)).1))
    (.inr ((a:Int),(b:Int),(l1:Int),wb,wp,((b-a:Nat):Int),(pv:Int),MA v (if(wb&&wp&&decide (hint = .increasing))=true then Sort.partialInsertionSort (lt C) d2 a b else(d2,false)).1))):=by
   have hpis:=pis hC (d:=d2) (a:=a) (b:=b) (by omega) (by omega) (by omega);cases wb
   ·rfl
   ·cases wp
    ·rfl
    ·cases hint
     ·rfl
     ·have g:decide (hN Sort.Hint.increasing=1)=true:=rfl;simp only[AJ,NQ,GQ,g,cond_true,hpis,aa,Bool.true_and,decide_true,if_true];cases(Sort.partialInsertionSort (lt C) d2 a b).2 <;> rfl
     ·rfl
  generalize (if(wb&&wp&&decide (hint = .increasing))=true then Sort.partialInsertionSort (lt C) d2 a b else(d2,false))=pi at *;obtain⟨d3,fl⟩:=pi;simp only at s3 e4 ⊢;have z3:d3.size=d2.size:=s3.1;have B3:Sort.Below (lt C) a b d3:=B2.perm (by omega) s3;rw[goF];generalize hG:goF (fun x=>qc (uu (f+1)) x.1 x.2.1 x.2.2.1 x.2.2.2.1 x.2.2.2.2.1 x.2.2.2.2.2) m=G
  simp(disch:=omega) only[u6,qc,vZ,pn,aG,am,g12,cond_false,g0,e1,aa,e2,e3,e4]
  clear e1 e2 e3 e4
  cases fl
  ·simp only[cond_false,Sum.elim_inr,Bool.false_eq_true,if_false];have call:∀ (x y:Nat) (dd:Array β),x≤y→y-x≤n→y≤dd.size→dd.size≤250→Sort.Below (lt C) x y dd→uu (f+1) ((x:Int),(y:Int),(l1:Int),MA v dd)=some (MA v (Sort.pdq (lt C) dd x y l1 true true)):=fun x y dd k1 k2 k3 k4 k5=>by
    have:=ih f 18446744073709551616 x y l1 true true dd (by omega) (by omega) (by omega) k2 k1 k3 k4 hl1 k5;have this':AK (uu f) ((x:Int),(y:Int),(l1:Int),true,true,MA v dd)=some (MA v (Sort.pdq (lt C) dd x y l1 true true)):=this;show Vt (uu f) _ _ _ _=_;simp only[Vt,q66,this',aa]
   have part:∀ (mid:Nat) (ap:Bool) (d4:Array β),Sort.partition (lt C) d3 a b pv=(mid,ap,d4) →
     ∃ s',(((qN ((a:Int),(b:Int),(pv:Int),MA v d3)).bind fun r17=>ai (ah .i64 (r17.1-(a:Int))) (ai (ah .i64 ((b:Int)-r17.1)) (ai (ah .i64 (Int.tdiv ((b-a:Nat):Int) 8)) (cond (decide ((r17.1-(a:Int)) < ((b:Int)-r17.1)))
      ((uu (f+1) ((a:Int),r17.1,(l1:Int),r17.2.2)).bind fun r18=>ai (ah .i64 (r17.1+1)) (some (Sum.inl ((r17.1+1),(b:Int),(l1:Int),decide (Int.tdiv ((b-a:Nat):Int) 8≤(r17.1-(a:Int))),r17.2.1,r18))))
      (ai (ah .i64 (r17.1+1)) ((uu (f+1) ((r17.1+1),(b:Int),(l1:Int),r17.2.2)).bind fun r19=>some (Sum.inl ((a:Int),r17.1,(l1:Int),decide (Int.tdiv ((b-a:Nat):Int) 8≤((b:Int)-r17.1)),r17.2.1,r19))))))):Option ((Int×Int×Int×Bool×Bool×List E)⊕List E)))=some (Sum.inl s')∧G s'=some (MA v (if h:a≤mid∧mid < b then
       if mid-a < b-mid then Sort.pdq (lt C) (Sort.pdq (lt C) d4 a mid l1 true true) (mid+1) b l1 (decide (mid-a≥(b-a) / 8)) ap
       else Sort.pdq (lt C) (Sort.pdq (lt C) d4 (mid+1) b l1 true true) a mid l1 (decide (b-mid≥(b-a) / 8)) ap else d4)):=fun mid ap d4 hx=>by
    have hr:=jN hC (d:=d3) (a:=a) (b:=b) (p:=pv) (by omega) (by omega) (by omega) (by omega) (by omega);obtain⟨g1,g2,hs4,hBa,hBr,hleft,hright⟩:=Sort.round_part hS (Sort.partition_holds _) hpv.1 hpv.2 (by omega) B3 hx;rw[hx]at hr;simp only at hr;have q8:Int.tdiv ((b-a:Nat):Int) 8=(((b-a) / 8:Nat):Int):=CU _;rw[dif_pos ⟨g1,g2⟩]
    simp(disch:=omega) only[hr,aa,pn,aG,am,q8,iY,il,a1]
    by_cases hlt:mid-a < b-mid
    ·have k:=call a mid d4 g1 (by omega) (by omega) (by omega) hBa;obtain⟨l1',l2'⟩:=Sort.pdq_sorts (lt C) hS d4 a mid l1 true true g1 (by omega) hBa;have hB':=(hleft _ l1' l2').1
     simp(disch:=omega) only[dT,cond_true,k,aa,if_pos hlt]
     refine⟨_,rfl,?_⟩;rw[← hG];exact ih (f+1) m (mid+1) b l1 _ ap _ (by omega) (by omega) (by omega) (by omega) (by omega) (by rw[l1'.1]; omega) (by rw[l1'.1]; omega) hl1 hB'
    ·have k:=call (mid+1) b d4 (by omega) (by omega) (by omega) (by omega) hBr;obtain⟨l1',l2'⟩:=Sort.pdq_sorts (lt C) hS d4 (mid+1) b l1 true true (by omega) (by omega) hBr;have hB':=(hright _ l1' l2').1
     simp(disch:=omega) only[dF,cond_false,k,aa,if_neg hlt]
     refine⟨_,rfl,?_⟩;rw[← hG];exact ih (f+1) m a mid l1 _ ap _ (by omega) (by omega) (by omega) (by omega) (by omega) (by rw[l1'.1]; omega) (by rw[l1'.1]; omega) hl1 hB'
   by_cases ha0:0 < a
   ·have ga:decide ((0:Int) < (a:Int))=true:=by simp; omega
    simp(disch:=omega) only[ga,cond_true,p1,aG,am,aE,aR,hC,aa]
    cases hq:lt C d3[a-1]! d3[pv]!
    ·simp only[Bool.not_false,cond_true,Bool.and_true,decide_eq_true_eq,if_pos (show a > 0 from ha0)];have hr:=peq hC (d:=d3) (a:=a) (b:=b) (p:=pv) (by omega) (by omega) (by omega) (by omega) (by omega);rcases hx:Sort.partitionEqual (lt C) d3 a b pv with⟨mid,d4⟩
     obtain⟨g1,g2,hs4,hB4,hfin⟩:=Sort.round_eq hS (Sort.partitionEqual_holds _) ha0 hpv.1 hpv.2 (by omega) B3 hq hx;rw[hx]at hr;simp only at hr;simp only[hr,aa,dif_pos (And.intro g1 g2)];rw[← hG];exact ih (f+1) m mid b l1 wb wp d4 (by omega) (by omega) (by omega) (by omega) g2 (by omega) (by omega) hl1 hB4
    ·simp only[Bool.not_true,cond_false,Bool.and_false,Bool.false_eq_true,if_false];rcases hx:Sort.partition (lt C) d3 a b pv with⟨mid,ap,d4⟩
     obtain⟨s',k1,k2⟩:=part mid ap d4 hx;rw[k1];exact k2
   ·have ga:decide ((0:Int) < (a:Int))=false:=by simp; omega
    have gn:decide (a > 0)=false:=by simp; omega
    simp only[ga,cond_false,gn,Bool.false_and,Bool.false_eq_true,if_false];rcases hx:Sort.partition (lt C) d3 a b pv with⟨mid,ap,d4⟩
    obtain⟨s',k1,k2⟩:=part mid ap d4 hx;rw[k1];exact k2
  ·simp only[cond_true,Sum.elim_inl,if_true]
theorem top (hS:Sort.SWO (lt C)){d:Array β}(hz:d.size≤250):GR (MA v d)=some (MA v (Sort.sort (lt C) d)):=by
 have hl:Sort.bitsLen d.size≤8:=(Sort.bitsLen_le_iff d.size 8).2 (by omega);have fu:ah .u64 (d.size:Int)=true:=nK (by omega) (by omega);have k:=UU hC hS 1000 18446744073709551615 18446744073709551616 0 d.size (Sort.bitsLen d.size) true true d (by omega) (by omega) (by omega) (by omega) (by omega) (Nat.le_refl _) hz (by omega) (.inl rfl);have k':AK (uu 18446744073709551615) (0,(d.size:Int),((Sort.bitsLen d.size:Nat):Int),true,true,MA v d)=some (MA v (Sort.sort (lt C) d)):=k;have e:P66 (0,(d.size:Int),((Sort.bitsLen d.size:Nat):Int),MA v d)=some (MA v (Sort.sort (lt C) d)):=by
  show Vt (uu 18446744073709551615) _ _ _ _=_;simp only[Vt,q66,k',aa]
 simp(disch:=omega) only[GR,p44,q44,pW,fu,am,Ia,aa,e]
end
theorem srt (K:E→Int)(gd:E→Prop)(x0:E)(h0:gd x0)(hK:∀ x y,gd x→gd y→∃ c:Bool,P91 (x,y)=some c∧(c=true↔K x < K y)){l:List E}(hl:∀ x∈l,gd x)(hz:l.length≤250):
  ∃ l',GR l=some l'∧l'.Perm l∧Sd K l' 0 l'.length:=by
 letI:Inhabited {x:E // gd x}:=⟨⟨x0,h0⟩⟩
 let C:{x:E // gd x}→{x:E // gd x}→Bool:=fun x y=>Classical.choose (hK x.1 y.1 x.2 y.2)
 have hC:∀ x y:{x:E // gd x},P91 (x.1,y.1)=some (lt C x y):=fun x y=>(Classical.choose_spec (hK x.1 y.1 x.2 y.2)).1;have hlt:∀ x y:{x:E // gd x},lt C x y=true↔K x.1 < K y.1:=fun x y=>(Classical.choose_spec (hK x.1 y.1 x.2 y.2)).2;have hlf:∀ x y:{x:E // gd x},lt C x y=false↔K y.1≤K x.1:=fun x y=>by rw[← Bool.not_eq_true,hlt]; omega
 have hS:Sort.SWO (lt C):=⟨fun x=>(hlf x x).2 (Int.le_refl _),fun x y z h1 h2=>(hlt _ _).2 (Int.lt_trans ((hlt _ _).1 h1) ((hlt _ _).1 h2)),fun x y z h1 h2=>(hlf _ _).2 (Int.le_trans ((hlf _ _).1 h2) ((hlf _ _).1 h1))⟩
 let d:Array {x:E // gd x}:=(l.attach.map fun x=>⟨x.1,hl x.1 x.2⟩).toArray
 have hd:MA (fun x:{x:E // gd x}=>x.1) d=l:=by
  simp only[MA,d,List.map_map];exact List.attach_map_subtype_val l
 have hds:d.size=l.length:=by simp[d]
 obtain⟨s1,s2⟩:=Sort.sort_sorts (lt C) hS d;have ht:=top (v:=fun x:{x:E // gd x}=>x.1) hC hS (d:=d) (by omega);rw[hd]at ht;refine⟨_,ht,?_,fun i j q1 q2 q3=>?_⟩
 ·have hp:=s1.2.2;have e1:∀ r:Array {x:E // gd x},r.size=d.size→r.extract 0 d.size=r:=fun r hr=>by rw[← hr]; simp
  rw[e1 _ s1.1,show d.extract 0 d.size=d by simp]at hp;have:=hp.map (fun x:{x:E // gd x}=>x.1);rw[← hd];exact this
 ·rw[pW]at q3;have e:∀ k,k < (Sort.sort (lt C) d).size→gt (MA (fun x:{x:E // gd x}=>x.1) (Sort.sort (lt C) d)) k=((Sort.sort (lt C) d)[k]!).1:=fun k hk=>by rw[← bI,aR hk]
  rw[e i (by omega),e j q3];exact(hlf _ _).1 (s2 i j q1 q2 (by have:=s1.1; omega))
end Pdq44
theorem Us (a b:List Int)(ha:a.length≤1000000):P20 (a,b)=some (decide (a=b)):=by
 show q20 AP a b=_;unfold q20;by_cases hn:a.length=b.length
 ·rw[show decide ((↑(List.length a):Int)=(↑(List.length b):Int))=true from decide_eq_true (by omega),Bool.not_true,cond_false];have e:AP (a,b,0)=some (cond (fi a.length (fun k=>decide (gt a k=gt b k))) (Sum.inr ()) (Sum.inl false)):=by
   refine kg (step:=fun x=>N1 x.1 x.2.1 x.2.2) a.length (fun k=>(a,b,(k:Int))) (fun k=>decide (gt a k=gt b k)) _ _ (fun k hk=>?_) ?_ (by omega)
   ·show se a b (k:Int)=_;unfold se;rw[show decide ((k:Int) < (↑(List.length a):Int))=true from aN hk,cond_true,ak (aC hk),ak (aC (by omega)),bI,bI];cases decide (gt a k=gt b k)with
    | false=>rfl
    | true=>rw[Bool.not_true,cond_false,ak (aF (by omega))]; rfl
   ·show se a b (a.length:Int)=_;unfold se;rw[show decide ((a.length:Int) < (↑(List.length a):Int))=false from aT _,cond_false]
  rw[e];have q:fi a.length (fun k=>decide (gt a k=gt b k))=decide (a=b):=by
   rw[Bool.eq_iff_iff,dz,decide_eq_true_eq];constructor
   ·intro h; exact jE hn fun i hi=>of_decide_eq_true (h i hi)
   ·rintro rfl k hk; exact decide_eq_true rfl
  rw[q];cases decide (a=b) <;> rfl
 ·rw[show decide ((↑(List.length a):Int)=(↑(List.length b):Int))=false from decide_eq_false (by omega),Bool.not_false,cond_true,decide_eq_false fun e=>hn (by rw[e])]
def VQ (v:List Int):List Int:=((List.range 100).map fun n:Nat=>(n:Int)).filter fun n=>decide (n∈v)
theorem Lc {v:List Int}{n:Int}(hv:∀ x∈v,0≤x∧x≤99):n∈VQ v↔n∈v:=by
 unfold VQ;rw[List.mem_filter,decide_eq_true_eq,List.mem_map];constructor
 ·exact fun h=>h.2
 ·intro h;have:=hv n h;exact⟨⟨n.toNat,List.mem_range.2 (by omega),by omega⟩,h⟩
theorem asc_vnO (v:List Int):(VQ v).Pairwise (fun a b=>(fun n:Int=>n) a < (fun n:Int=>n) b):=by
 unfold VQ;refine List.Pairwise.filter _ ?_;rw[List.pairwise_map];exact List.pairwise_lt_range.imp fun h=>Int.ofNat_lt.2 h
theorem Ut (x y:Int):P91 (x,y)=some (decide (x < y)):=by
 show q91 vW x y=_;unfold q91;rw[show vW x=some (!decide (x=x))from rfl,aa,qF];rfl
theorem sortV {v:List Int}(hv:∀ x∈v,0≤x∧x≤99)(hl:v.length≤250):∃ s,GR v=some s∧CX s=some (VQ v):=by
 obtain⟨s,e1,e2,e3⟩:=Pdq44.srt (fun n=>n) (fun _=>True) 0 trivial (fun x y _ _=>⟨decide (x < y),Ut x y,by rw[decide_eq_true_eq]⟩) (l:=v) (fun _ _=>trivial) hl;refine⟨s,e1,?_⟩;rw[Uf s (by rw[e2.length_eq]; omega)];congr 1;refine qn (fun n=>n) (ddN_asc (fun n=>n) s e3 (fun a _ b _ h=>h) s.length (Nat.le_refl _)).1 (asc_vnO v) fun x=>?_;rw[nO,e2.mem_iff,Lc hv]
theorem CO (x:HM)(c:aB):∀ n∈(fw x c).2.2,n∈x.2.2∨n=c.2.2.2.1:=by
 intro n hn;unfold fw yJ yK nr at hn;split at hn
 ·split at hn
  ·split at hn <;> exact .inl hn
  ·exact .inl hn
 ·split at hn
  ·split at hn
   ·exact .inl hn
   ·simpa using hn
  ·split at hn <;> exact .inl hn
theorem Bp (hold minute:Int):∀ (l:List aB) (x:HM),(nP hold minute l x).2.2.length≤x.2.2.length+l.length∧((∀ c∈l,bk c)→(∀ n∈x.2.2,0≤n∧n≤99)→∀ n∈(nP hold minute l x).2.2,0≤n∧n≤99)
 | [],x=>⟨Nat.le_refl _,fun _ h=>h⟩
 | c::l,x=>by
  unfold nP;split
  ·exact⟨by simp,fun _ h=>h⟩
  ·obtain⟨h1,h2⟩:=Bp hold minute l (fw (lapM hold c.2.1 x) c);have h3:=ns (lapM hold c.2.1 x) c;have h4:(lapM hold c.2.1 x).2.2=x.2.2:=rfl;rw[h4]at h3;refine⟨by simp only[List.length_cons]; omega,fun hc hx=>h2 (fun d hd=>hc d (by simp[hd])) fun n hn=>?_⟩;rcases CO _ _ n hn with q | q
   ·exact hx n q
   ·have:=(hc c (by simp)).2.2.2;rw[q]; exact this
theorem yO {h:List Int×Int}{l:List aB}(minute:Int)(hl:dO l):(aM h l minute).2.2.length≤40∧∀ n∈(aM h l minute).2.2,0≤n∧n≤99:=by
 obtain⟨e1,e2,e3,e4⟩:=md (l:=l) (by have:=hl.1; omega) hl.2.1 hl.2.2;obtain⟨h1,h2⟩:=Bp h.2 minute (hrd l) (Ik h.1);have h3:=hl.1;have h4:(Ik h.1).2.2.length=0:=rfl;have h5:(aM h l minute).2.2=(nP h.2 minute (hrd l) (Ik h.1)).2.2:=rfl;rw[h5];exact⟨by omega,h2 (uj hl).1 (by simp[Ik])⟩
noncomputable def Ld (h:List Int×Int)(l:List aB)(minute order:Int):nT×Int:=if eO h l minute order 1=0 then(prO ((aM h l minute).2.1 order),0)else((0,0,0,0),eO h l minute order 1)
noncomputable def Bq (h:List Int×Int)(l:List aB)(minute:Int):Int×List Int:=if eO h l minute 0 1=0 then(0,VQ (aM h l minute).2.2)else(eO h l minute 0 1,[])
noncomputable def sI (h:List Int×Int)(l:List aB)(minute size:Int):Int×Int×Int:=if eO h l minute 0 size=0 then(match bO (aM h l minute).1 size.toNat with
  | some c=>((c.1:Int),(c.2:Int),0)
  | none=>(0,0,3))else(0,0,eO h l minute 0 size)
theorem jK {α β:Type}(k:β→Option α)(n:Option α):Id none k n=n:=rfl
theorem jL {α β:Type}(x:β)(k:β→Option α)(n:Option α):Id (some x) k n=k x:=rfl
section
variable {h:List Int×Int} {l:List aB} (minute:Int) (hh:h.1.length≤1000) (hl:l.length≤1000)
include hh hl
theorem Uu (order:Int):P15 (h,l,minute,order)=some (Ld h l minute order):=by
 show q15 ja P42v1 n9 h l minute order=_;unfold q15 Ld
 try unfold Hb
 try unfold Ha
 try unfold C3
 try unfold C2
 try unfold yF
 try unfold pd
 rw[qo h l minute order 1 hh hl];by_cases h0:eO h l minute order 1=0
 ·obtain⟨pool,e1,e2⟩:=jJ h0;rw[if_pos h0,jK,e1,aa,if_pos h0];simp only[decide_true,Bool.not_true,cond_false,qk,aa,uh e2];rfl
 ·rw[if_neg h0,jL,if_neg h0,decide_eq_false h0];rfl
theorem Uv:P16 (h,l,minute)=some (Bq h l minute):=by
 show q16 ja P42v1 GR CX h l minute=_;unfold q16 Bq;rw[qo h l minute 0 1 hh hl];by_cases h0:eO h l minute 0 1=0
 ·obtain⟨pool,e1,e2⟩:=jJ h0;obtain⟨v1,v2⟩:=yO (h:=h) minute (fG.1 h0).1.2;obtain⟨s,s1,s2⟩:=sortV v2 (by omega);rw[if_pos h0,jK,e1,aa,if_pos h0];simp only[decide_true,Bool.not_true,cond_false,s1,s2,aa]
 ·rw[if_neg h0,jL,if_neg h0,decide_eq_false h0];rfl
theorem HF (size:Int):P21 (h,l,minute,size)=some (sI h l minute size):=by
 show q21 ja P42v1 qQ h l minute size=_;unfold q21 sI;rw[qo h l minute 0 size hh hl];by_cases h0:eO h l minute 0 size=0
 ·obtain⟨⟨c1,c2⟩,c3,c4,c5⟩:=fG.1 h0;obtain⟨pool,e1,e2⟩:=jJ h0;have hI:=IM.after (h:=h) c2 minute;have hlen:=hI.len;have hsl:=fF c1;obtain⟨sz,rfl⟩:∃ sz:Nat,size=(sz:Int):=⟨size.toNat,by omega⟩;rw[if_pos h0,jK,e1,aa,if_pos h0];simp only[decide_true,Bool.not_true,cond_false,Int.toNat_natCast];rw[yT (fun r hr=>by have:=hI.row (eV c1) hr; omega) (by omega) (by omega),aa,wx];cases bO (aM h l minute).1 sz with
  | none=>rfl
  | some c=>rfl
 ·rw[if_neg h0,jL,if_neg h0,decide_eq_false h0];rfl
end
end Go.Proofs.Ytdkaijofmigmbaa.D
