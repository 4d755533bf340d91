/- Cut down from longer texts. -/
import Derived.Test.YtdkaijofmigmbaaH2o
import Derived.Test.YtdkaijofmigmbaaB3o
import Derived.Test.YtdkaijofmigmbaaG9o
import Derived.Test.YtdkaijofmigmbaaG2o
import Derived.Sort.LotD4
import Derived.Test.YtdkaijofmigmbaaG6o
set_option linter.unusedVariables false
set_option linter.unusedSimpArgs false
set_option linter.unusedSectionVars false
set_option maxRecDepth 100000
namespace Go.Proofs.Ytdkaijofmigmbaa.D
open Go Go.Proofs Go.Proofs.Ytdkaijofmigmbaa.L
theorem JY (l:List aq)(h:l.length≤1000000):su u0 (l,(l.length:Int),0,0,[])=some (Sum.inr (0,l)):=by
 refine(bT (step:=fun x=>Dl u0 x.1 x.2.1 x.2.2.1 x.2.2.2.1 x.2.2.2.2) l.length (fun k=>(l,(l.length:Int),(k:Int),(0:Int),l.take k)) (Sum.inr (0,l)) (fun k hk=>?_) ?_ (by omega))
 ·show mC u0 l (l.length:Int) (k:Int) 0 (l.take k)=_
  unfold mC
  rw[bg hk,cond_true,aE (aN hk)]
  have e:u0 (ix l (k:Int),0,l.take k)=some (true,0,l.take (k+1)):=by
   unfold u0
   simp only
   rw[aE (dC (by simp; omega)),cz,List.take_add_one,List.getElem?_eq_getElem hk,cC hk]
   rfl
  rw[e]
  show ai (ah .i64 ((k:Int)+1)) _=_
  rw[aE (aX (by omega))]
  rfl
 ·show mC u0 l (l.length:Int) (l.length:Int) 0 (l.take l.length)=_
  unfold mC
  rw[bF,cond_false,List.take_length]
theorem JZ (l:List aq)(h:l.length≤1000000):P123 l=some l:=by
 have e:ur u0 (l,0,[])=some (l,0,l):=by
  show Ig u0 (su u0) l 0 []=_
  unfold Ig
  rw[JY l h]
  rfl
 unfold P123
 rw[e]
 rfl
def fr (l:List Int)(i:Int):Bool:=wi i 0 ((l.length:Int)-1)&&decide (ix l i = -1)
def BW (l:List Int)(s n:Nat):Bool:=fM n fun k=>decide (gt l (s+k) = -1)
def gp (l:List Int)(s:Int)(n:Int):Bool:=(fr l (s-1)&&!fr l (s-2))||(fr l (s+n)&&!fr l (s+n+1))
theorem SH {r:Nat}(i:Int){rows vain:List Int}{hold:Int}{seats:List (List Int)}{pool:List eu}(hr:r < seats.length)(hl:(gt seats r).length≤1000):
  P97 ((r:Int),i,rows,hold,seats,vain,pool)=some (fr (gt seats r) i,rows,hold,seats,vain,pool):=by
 show q97 P60 (r:Int) i rows hold seats vain pool=_
 unfold q97
 rw[aE (aN hr),cz,aE (bY (by omega) (by omega))]
 have e:P60 (i,0,(((gt seats r).length:Int)-1))=some (wi i 0 (((gt seats r).length:Int)-1)):=sr _ _ _
 rw[e]
 simp only[Option.bind_some]
 unfold fr
 cases hw:wi i 0 (((gt seats r).length:Int)-1)with
 | false=>rfl
 | true=>
  have:=eH.1 hw
  rw[cond_true,aE (aN hr),aE (PF (by omega) (by omega))]
  rfl
theorem GK {r s n:Nat}{a0 a3 a4 a5 a6 k size:Int}{fst:bV}{fnd:Bool}{rows vain:List Int}{hold:Int}{seats:List (List Int)}{pool:List eu}(hr:r < seats.length)(hs:s+n≤(gt seats r).length)(hl:(gt seats r).length≤1000):
  L96_2 PYb (a0,(r:Int),(s:Int),a3,a4,a5,a6,(n:Int),0,k,fst,fnd,size,seats,rows,hold,vain,pool) =
  some (cond (BW (gt seats r) s n) (Sum.inr (a0,(r:Int),(s:Int),a3,a4,a5,a6,k,fst,fnd,size,seats,rows,hold,vain,pool)) (Sum.inl (a0,(r:Int),a3,a4,a5,a6,k,fst,fnd,size,seats,rows,hold,vain,pool))):=by
 refine jH (step:=fun x=>Ky PYb x.1 x.2.1 x.2.2.1 x.2.2.2.1 x.2.2.2.2.1 x.2.2.2.2.2.1 x.2.2.2.2.2.2.1 x.2.2.2.2.2.2.2.1 x.2.2.2.2.2.2.2.2.1 x.2.2.2.2.2.2.2.2.2.1 x.2.2.2.2.2.2.2.2.2.2.1 x.2.2.2.2.2.2.2.2.2.2.2.1 x.2.2.2.2.2.2.2.2.2.2.2.2.1 x.2.2.2.2.2.2.2.2.2.2.2.2.2.1 x.2.2.2.2.2.2.2.2.2.2.2.2.2.2.1 x.2.2.2.2.2.2.2.2.2.2.2.2.2.2.2.1 x.2.2.2.2.2.2.2.2.2.2.2.2.2.2.2.2.1 x.2.2.2.2.2.2.2.2.2.2.2.2.2.2.2.2.2)
  n (fun q=>(a0,(r:Int),(s:Int),a3,a4,a5,a6,(n:Int),(q:Int),k,fst,fnd,size,seats,rows,hold,vain,pool)) (fun q=>decide (gt (gt seats r) (s+q) = -1)) _ _ (fun q hq=>?_) ?_ (by omega)
 ·show qN P97 PYb a0 (r:Int) (s:Int) a3 a4 a5 a6 (n:Int) (q:Int) k fst fnd size seats rows hold vain pool=_
  unfold qN
  rw[bg hq,cond_true,aE (bY (by omega) (by omega)),cz,show((s:Int)+(q:Int))=((s+q:Nat):Int)by omega,aE (aN (by omega)),cz]
  cases hd:decide (gt (gt seats r) (s+q) = -1)with
  | false=>rfl
  | true=>
   rw[Bool.not_true,cond_false,aE (aX (by omega))]
   rfl
 ·show qN P97 PYb a0 (r:Int) (s:Int) a3 a4 a5 a6 (n:Int) (n:Int) k fst fnd size seats rows hold vain pool=_
  unfold qN
  rw[bF,cond_false]
  rfl
theorem PYb_0 (p f:bV)(g b:Bool):PYb (p,g,0,f,b)=some (cond g (true,0,cond b f p,true) (false,1,p,true)):=by
 cases g <;> cases b <;> rfl
theorem GX {r s n m:Nat}{a2 a3:Int}{fst:bV}{fnd:Bool}{rows vain:List Int}{hold:Int}{seats:List (List Int)}{pool:List eu}(hr:r < seats.length)(hl:(gt seats r).length≤1000)(hn:n≤1000)(hs:s < m)(hm:m+n=(gt seats r).length+1):
  q96_1 P97 PYb (L96_2 PYb) (r:Int) (r:Int) a2 a3 (m:Int) (s:Int) 0 fst fnd (n:Int) seats rows hold vain pool =
  some (cond (BW (gt seats r) s n) (cond (gp (gt seats r) s n)
    (Sum.inl ((r:Int),(r:Int),a2,a3,(m:Int),((s+1:Nat):Int),0,cond fnd fst (0,(r:Int),(s:Int),(n:Int)),true,(n:Int),seats,rows,hold,vain,pool))
    (Sum.inr (Sum.inl (1,(0,(r:Int),(s:Int),(n:Int)),true,(n:Int),seats,rows,hold,vain,pool))))
   (Sum.inl ((r:Int),(r:Int),a2,a3,(m:Int),((s+1:Nat):Int),0,fst,fnd,(n:Int),seats,rows,hold,vain,pool))):=by
 unfold q96_1
 rw[bg hs,cond_true,show(↑((r:Int).toNat):Int)=(r:Int)from rfl,GK hr (by omega) hl]
 cases hp:BW (gt seats r) s n with
 | false=>
  simp only[cond_false,bind_some',elim_inl]
  rw[aE (aX (by omega))]
  rfl
 | true=>
  simp only[cond_true,bind_some',elim_inr]
  rw[aE (bY (by omega) (by omega)),aE (bY (by omega) (by omega))]
  simp only[SH _ hr hl,bind_some',PYb_0,gp]
  have f1:ah .i64 ((s:Int)-2)=true:=bY (by omega) (by omega)
  have f2:ah .i64 ((s:Int)+(n:Int)+1)=true:=bY (by omega) (by omega)
  have f3:ah .i64 ((s:Int)+1)=true:=aX (by omega)
  simp only[f1,f2,f3,au]
  cases fr (gt seats r) ((s:Int)-1) <;> cases fr (gt seats r) ((s:Int)-2) <;> cases fr (gt seats r) ((s:Int)+(n:Int)) <;> cases fr (gt seats r) ((s:Int)+(n:Int)+1) <;> rfl
def nF (seats:List (List Int))(n:Nat):List (Nat×Nat)→bV×Bool→bV×Bool×Bool
 | [],(f,b)=>(f,b,false)
 | (r,s)::cs,(f,b)=>cond (BW (gt seats r) s n) (cond (gp (gt seats r) s n) (nF seats n cs (cond b f (0,(r:Int),(s:Int),(n:Int)),true)) ((0,(r:Int),(s:Int),(n:Int)),true,true)) (nF seats n cs (f,b))
theorem ti (seats:List (List Int))(n:Nat):∀ (cs ds:List (Nat×Nat)) (a:bV×Bool),nF seats n (cs++ds) a=(match nF seats n cs a with
  | (f,b,true)=>(f,b,true)
  | (f,b,false)=>nF seats n ds (f,b))
 | [],ds,(f,b)=>rfl
 | (r,s)::cs,ds,(f,b)=>by
  simp only[List.cons_append,nF]
  cases BW (gt seats r) s n with
  | false=>simp only[cond_false]; exact ti seats n cs ds _
  | true=>
   cases gp (gt seats r) s n with
   | false=>rfl
   | true=>simp only[cond_true]; exact ti seats n cs ds _
def pC (r s k:Nat):List (Nat×Nat):=(List.range' s k).map fun s=>(r,s)
theorem GY {r n m:Nat}{a2 a3:Int}{fst:bV}{fnd:Bool}{rows vain:List Int}{hold:Int}{seats:List (List Int)}{pool:List eu}(hr:r < seats.length)(hl:(gt seats r).length≤1000)(hn:n≤1000)(hm:m=0∨m+n=(gt seats r).length+1){mi:Int}(hmi:mi=(m:Int)∨(m=0∧mi≤0)):
  ut PYb ((r:Int),(r:Int),a2,a3,mi,0,0,fst,fnd,(n:Int),seats,rows,hold,vain,pool)=some (match nF seats n (pC r 0 m) (fst,fnd)with
   | (f,b,true)=>Sum.inl (1,f,b,(n:Int),seats,rows,hold,vain,pool)
   | (f,b,false)=>Sum.inr (a2,a3,0,f,b,(n:Int),seats,rows,hold,vain,pool)):=by
 have key:=eI (step:=fun x=>KA PYb x.1 x.2.1 x.2.2.1 x.2.2.2.1 x.2.2.2.2.1 x.2.2.2.2.2.1 x.2.2.2.2.2.2.1 x.2.2.2.2.2.2.2.1 x.2.2.2.2.2.2.2.2.1 x.2.2.2.2.2.2.2.2.2.1 x.2.2.2.2.2.2.2.2.2.2.1 x.2.2.2.2.2.2.2.2.2.2.2.1 x.2.2.2.2.2.2.2.2.2.2.2.2.1 x.2.2.2.2.2.2.2.2.2.2.2.2.2.1 x.2.2.2.2.2.2.2.2.2.2.2.2.2.2)
  (fun x=>m-x.2.2.2.2.2.1.toNat)
  (fun x=>∃ s f b,s≤m∧x=((r:Int),(r:Int),a2,a3,mi,(s:Int),0,f,b,(n:Int),seats,rows,hold,vain,pool)∧nF seats n (pC r s (m-s)) (f,b)=nF seats n (pC r 0 m) (fst,fnd))
  (fun y=>y=(match nF seats n (pC r 0 m) (fst,fnd)with
   | (f,b,true)=>Sum.inl (1,f,b,(n:Int),seats,rows,hold,vain,pool)
   | (f,b,false)=>Sum.inr (a2,a3,0,f,b,(n:Int),seats,rows,hold,vain,pool)))
  (x:=((r:Int),(r:Int),a2,a3,mi,((0:Nat):Int),0,fst,fnd,(n:Int),seats,rows,hold,vain,pool)) ⟨0,fst,fnd,Nat.zero_le _,rfl,rfl⟩ (by show m-_ < _; omega) (by
   rintro x ⟨s,f,b,hs,rfl,hg⟩
   show(∃ s',q96_1 P97 PYb (L96_2 PYb) (r:Int) (r:Int) a2 a3 mi (s:Int) 0 f b (n:Int) seats rows hold vain pool=_∧_)∨∃ y,q96_1 P97 PYb (L96_2 PYb) (r:Int) (r:Int) a2 a3 mi (s:Int) 0 f b (n:Int) seats rows hold vain pool=_∧_
   by_cases hsm:s < m
   ·have hmi':mi=(m:Int):=by omega
    subst hmi'
    rw[GX hr hl hn hsm (by omega)]
    have hstep:nF seats n (pC r s (m-s)) (f,b)=cond (BW (gt seats r) s n) (cond (gp (gt seats r) s n) (nF seats n (pC r (s+1) (m-(s+1))) (cond b f (0,(r:Int),(s:Int),(n:Int)),true)) ((0,(r:Int),(s:Int),(n:Int)),true,true)) (nF seats n (pC r (s+1) (m-(s+1))) (f,b)):=by
     rw[show m-s=(m-(s+1))+1 by omega]
     rfl
    rw[hstep]at hg
    cases hp:BW (gt seats r) s n with
    | false=>
     rw[hp]at hg
     exact .inl ⟨_,rfl,⟨s+1,f,b,by omega,rfl,hg⟩,by show m-((s+1:Nat):Int).toNat < m-((s:Nat):Int).toNat; simp only[Int.toNat_natCast]; omega⟩
    | true=>
     rw[hp]at hg
     cases hq:gp (gt seats r) s n with
     | true=>
      rw[hq]at hg
      exact .inl ⟨_,rfl,⟨s+1,_,true,by omega,rfl,hg⟩,by show m-((s+1:Nat):Int).toNat < m-((s:Nat):Int).toNat; simp only[Int.toNat_natCast]; omega⟩
     | false=>
      rw[hq]at hg
      refine .inr ⟨_,rfl,?_⟩
      rw[← hg]
      rfl
   ·obtain rfl:s=m:=by omega
    refine .inr ⟨Sum.inr (a2,a3,0,f,b,(n:Int),seats,rows,hold,vain,pool),?_,?_⟩
    ·unfold q96_1
     rw[show decide ((s:Int) < mi)=false from decide_eq_false (by omega),cond_false]
    ·rw[← hg,Nat.sub_self]
     rfl)
 obtain⟨y,h1,h2⟩:=key
 rw[← h2]
 exact h1
def gr (seats:List (List Int))(n r k:Nat):List (Nat×Nat):=(List.range' r k).flatMap fun r=>pC r 0 ((gt seats r).length+1-n)
theorem GZ {n:Nat}{fst:bV}{fnd:Bool}{rows vain:List Int}{hold:Int}{seats:List (List Int)}{pool:List eu}(hl:∀ r,r < seats.length→(gt seats r).length≤1000)(hs:seats.length≤1000)(hn:n≤1000):
  yV PYb ((seats.length:Int),0,0,fst,fnd,(n:Int),seats,rows,hold,vain,pool)=some (match nF seats n (gr seats n 0 seats.length) (fst,fnd)with
   | (f,b,true)=>Sum.inl (1,f,b,(n:Int),seats,rows,hold,vain,pool)
   | (f,b,false)=>Sum.inr (0,f,b,(n:Int),seats,rows,hold,vain,pool)):=by
 have key:=eI (step:=fun x=>KC PYb x.1 x.2.1 x.2.2.1 x.2.2.2.1 x.2.2.2.2.1 x.2.2.2.2.2.1 x.2.2.2.2.2.2.1 x.2.2.2.2.2.2.2.1 x.2.2.2.2.2.2.2.2.1 x.2.2.2.2.2.2.2.2.2.1 x.2.2.2.2.2.2.2.2.2.2)
  (fun x=>seats.length-x.2.1.toNat)
  (fun x=>∃ r f b,r≤seats.length∧x=((seats.length:Int),(r:Int),0,f,b,(n:Int),seats,rows,hold,vain,pool)∧nF seats n (gr seats n r (seats.length-r)) (f,b)=nF seats n (gr seats n 0 seats.length) (fst,fnd))
  (fun y=>y=(match nF seats n (gr seats n 0 seats.length) (fst,fnd)with
   | (f,b,true)=>Sum.inl (1,f,b,(n:Int),seats,rows,hold,vain,pool)
   | (f,b,false)=>Sum.inr (0,f,b,(n:Int),seats,rows,hold,vain,pool)))
  (x:=((seats.length:Int),((0:Nat):Int),0,fst,fnd,(n:Int),seats,rows,hold,vain,pool)) ⟨0,fst,fnd,Nat.zero_le _,rfl,rfl⟩ (by show seats.length-_ < _; omega) (by
   rintro x ⟨r,f,b,hr,rfl,hg⟩
   show(∃ s',qO P97 PYb (ut PYb) (seats.length:Int) (r:Int) 0 f b (n:Int) seats rows hold vain pool=_∧_)∨∃ y,qO P97 PYb (ut PYb) (seats.length:Int) (r:Int) 0 f b (n:Int) seats rows hold vain pool=_∧_
   by_cases hrm:r < seats.length
   ·have hlr:=hl r hrm
    have hstep:gr seats n r (seats.length-r)=pC r 0 ((gt seats r).length+1-n)++gr seats n (r+1) (seats.length-(r+1)):=by
     rw[show seats.length-r=(seats.length-(r+1))+1 by omega]
     rfl
    rw[hstep,ti]at hg
    unfold qO
    rw[bg hrm,cond_true,aE (aN hrm),cz,aE (bY (by omega) (by omega)),aE (bY (by omega) (by omega)),show(↑((r:Int).toNat):Int)=(r:Int)from rfl,
     GY hrm hlr hn (m:=(gt seats r).length+1-n) (by omega) (by omega)]
    cases hq:nF seats n (pC r 0 ((gt seats r).length+1-n)) (f,b)with
    | mk f' y=>
     obtain⟨b',t⟩:=y
     rw[hq]at hg
     cases t with
     | true=>
      refine .inr ⟨_,rfl,?_⟩
      rw[← hg]
     | false=>
      left
      refine⟨((seats.length:Int),((r+1:Nat):Int),0,f',b',(n:Int),seats,rows,hold,vain,pool),?_,⟨r+1,f',b',by omega,rfl,hg⟩,by show seats.length-((r+1:Nat):Int).toNat < seats.length-((r:Nat):Int).toNat; simp only[Int.toNat_natCast]; omega⟩
      simp only[bind_some',elim_inr]
      rw[aE (aX (by omega))]
      rfl
   ·obtain rfl:r=seats.length:=by omega
    refine .inr ⟨Sum.inr (0,f,b,(n:Int),seats,rows,hold,vain,pool),?_,?_⟩
    ·unfold qO
     rw[bF,cond_false]
    ·rw[← hg,Nat.sub_self]
     rfl)
 obtain⟨y,h1,h2⟩:=key
 rw[← h2]
 exact h1
def nc (seats:List (List Int))(n:Nat):bV×Bool:=((nF seats n (gr seats n 0 seats.length) ((0,0,0,0),false)).1,(nF seats n (gr seats n 0 seats.length) ((0,0,0,0),false)).2.1)
theorem yb {n:Nat}{rows vain:List Int}{hold:Int}{seats:List (List Int)}{pool:List eu}(hl:∀ r,r < seats.length→(gt seats r).length≤1000)(hs:seats.length≤1000)(hn:n≤1000):
  pY ((n:Int),rows,hold,seats,vain,pool)=some ((nc seats n).1,(nc seats n).2,rows,hold,seats,vain,pool):=by
 have e:KD PYb (0,(0,0,0,0),false,(n:Int),rows,hold,seats,vain,pool)=some ((match nF seats n (gr seats n 0 seats.length) ((0,0,0,0),false)with
   | (f,b,true)=>(1,f,b,(n:Int),rows,hold,seats,vain,pool)
   | (f,b,false)=>(0,f,b,(n:Int),rows,hold,seats,vain,pool))):=by
  show q96 P97 PYb (yV PYb) 0 (0,0,0,0) false (n:Int) rows hold seats vain pool=_
  unfold q96
  rw[show(↑(List.length seats):Int)=(seats.length:Int)from rfl,GZ hl hs hn]
  cases nF seats n (gr seats n 0 seats.length) ((0,0,0,0),false)with
  | mk f y=>obtain⟨b,t⟩:=y; cases t <;> rfl
 unfold pY nc
 rw[e]
 cases nF seats n (gr seats n 0 seats.length) ((0,0,0,0),false)with
 | mk f y=>obtain⟨b,t⟩:=y; cases t <;> rfl
def pB (seats:List (List Int))(n:Nat)(g:Bool)(c:Nat×Nat):Bool:=BW (gt seats c.1) c.2 n&&(g||!gp (gt seats c.1) (c.2:Int) (n:Int))
theorem pD (seats:List (List Int))(n:Nat):∀ (cs:List (Nat×Nat)) (f:bV) (b:Bool),nF seats n cs (f,b)=(match cs.find? (pB seats n false)with
  | some c=>((0,(c.1:Int),(c.2:Int),(n:Int)),true,true)
  | none=>match b,cs.find? (pB seats n true)with
   | true,_=>(f,true,false)
   | false,some c=>((0,(c.1:Int),(c.2:Int),(n:Int)),true,false)
   | false,none=>(f,false,false))
 | [],f,b=>by cases b <;> rfl
 | (r,s)::cs,f,b=>by
  simp only[nF,List.find?_cons,pB,Bool.false_or,Bool.true_or,Bool.and_true]
  cases hp:BW (gt seats r) s n with
  | false=>simp only[cond_false,Bool.false_and]; rw[pD seats n cs]
  | true=>
   cases hq:gp (gt seats r) (s:Int) (n:Int)with
   | false=>simp
   | true=>
    simp only[cond_true,Bool.true_and,Bool.not_true]
    rw[pD seats n cs]
    cases cs.find? (pB seats n false)with
    | some c=>rfl
    | none=>cases b <;> rfl
theorem G0 (seats:List (List Int))(n:Nat):nc seats n=(match((gr seats n 0 seats.length).find? (pB seats n false)).or ((gr seats n 0 seats.length).find? (pB seats n true))with
  | some c=>((0,(c.1:Int),(c.2:Int),(n:Int)),true)
  | none=>((0,0,0,0),false)):=by
 unfold nc
 rw[pD]
 cases(gr seats n 0 seats.length).find? (pB seats n false)with
 | some c=>rfl
 | none=>cases(gr seats n 0 seats.length).find? (pB seats n true) <;> rfl
theorem SQ:P107 ([-1],1)=some (List.replicate 1 (-1)):=by kernel_rfl
theorem SR:P107 ([-1],2)=some (List.replicate 2 (-1)):=by kernel_rfl
theorem SS:P107 ([-1],3)=some (List.replicate 3 (-1)):=by kernel_rfl
theorem ST:P107 ([-1],4)=some (List.replicate 4 (-1)):=by kernel_rfl
theorem SU:P107 ([-1],5)=some (List.replicate 5 (-1)):=by kernel_rfl
theorem SW:P107 ([-1],6)=some (List.replicate 6 (-1)):=by kernel_rfl
theorem SX:P107 ([-1],7)=some (List.replicate 7 (-1)):=by kernel_rfl
theorem SY:P107 ([-1],8)=some (List.replicate 8 (-1)):=by kernel_rfl
theorem SZ:P107 ([-1],9)=some (List.replicate 9 (-1)):=by kernel_rfl
theorem J7:P107 ([-1],10)=some (List.replicate 10 (-1)):=by kernel_rfl
theorem J8:P107 ([-1],11)=some (List.replicate 11 (-1)):=by kernel_rfl
theorem J9:P107 ([-1],12)=some (List.replicate 12 (-1)):=by kernel_rfl
theorem Ka {n:Nat}(h1:1≤n)(h2:n≤12):P107 ([-1],(n:Int))=some (List.replicate n (-1)):=by
 have:n=1∨n=2∨n=3∨n=4∨n=5∨n=6∨n=7∨n=8∨n=9∨n=10∨n=11∨n=12:=by omega
 rcases this with rfl | rfl | rfl | rfl | rfl | rfl | rfl | rfl | rfl | rfl | rfl | rfl
 ·exact SQ
 ·exact SR
 ·exact SS
 ·exact ST
 ·exact SU
 ·exact SW
 ·exact SX
 ·exact SY
 ·exact SZ
 ·exact J7
 ·exact J8
 ·exact J9
def ew (l:List Int):List (List Int):=l.map fun n=>List.replicate n.toNat (-1)
theorem yc {l:List Int}{k:Nat}(h:k < l.length):ew (l.take (k+1))=ew (l.take k)++[List.replicate (gt l k).toNat (-1)]:=by
 unfold ew
 rw[List.take_add_one,List.getElem?_eq_getElem h,cC h,List.map_append]
 rfl
theorem S4 {l:List Int}{hold:Int}(hl:l.length≤1000)(hr:∀ k,k < l.length→1≤gt l k∧gt l k≤12):Bo (l,hold)=some (l,hold,ew l,[]):=by
 show q77 P107 ux (l,hold)=_
 unfold q77
 have e:ux (l,(l.length:Int),0,l,hold,[],[])=some (l,hold,[],ew l):=by
  refine bT (step:=fun x=>KQ x.1 x.2.1 x.2.2.1 x.2.2.2.1 x.2.2.2.2.1 x.2.2.2.2.2.1 x.2.2.2.2.2.2) l.length (fun k=>(l,(l.length:Int),(k:Int),l,hold,ew (l.take k),[])) _ (fun k hk=>?_) ?_ (by omega)
  ·show qR P107 l (l.length:Int) (k:Int) l hold (ew (l.take k)) []=_
   unfold qR
   have h:=hr k hk
   have e1:P107 ([-1],ix l (k:Int))=some (List.replicate (gt l k).toNat (-1)):=by
    rw[cz,show gt l k=(((gt l k).toNat:Nat):Int)by omega]
    exact Ka (by omega) (by omega)
   rw[bg hk,cond_true,aE (aN hk),e1,bind_some',aE (dC (by simp[ew]; omega)),aE (aX (by omega)),yc hk]
   rfl
  ·show qR P107 l (l.length:Int) (l.length:Int) l hold (ew (l.take l.length)) []=_
   unfold qR
   rw[bF,cond_false,List.take_length]
 rw[show(↑(List.length ((l,hold):List Int×Int).1):Int)=(l.length:Int)from rfl]
 show(ux (l,(l.length:Int),0,l,hold,[],[])).bind _=_
 rw[e]
 rfl
def prt {α:Type}(f:α→α)(l:List α)(k:Nat):List α:=(l.take k).map f++l.drop k
theorem G1 {α:Type}[Inhabited α](l:List α){k:Nat}(h:k < l.length):l.set k (gt l k)=l:=by
 rw[cC h]; exact List.set_getElem_self h
def Hb (n v:Int):Int:=if v=n then -1 else v
def nG (n:Int)(seats:List (List Int)):List (List Int):=seats.map fun l=>l.map (Hb n)
abbrev vI:Type:=Int×Int×Int×Int
def Sq (hold minute:Int)(pl:List vI)(sn:List Int)(i:Nat):Bool:=decide ((gt pl i).1=2)&&decide (gt sn i+hold≤minute)
def Gr (d:Nat→Bool)(pl:List vI)(k:Nat):List vI:=(List.range pl.length).map fun i=>if i < k∧d i=true then(4,-1,-1,(gt pl i).2.2.2)else gt pl i
theorem Gs (d:Nat→Bool)(pl:List vI)(k:Nat):(Gr d pl k).length=pl.length:=by simp[Gr]
theorem JT (d:Nat→Bool)(pl:List vI){k i:Nat}(h:i < pl.length):gt (Gr d pl k) i=if i < k∧d i=true then(4,-1,-1,(gt pl i).2.2.2)else gt pl i:=by
 simp only[gt,Gr,List.getD_eq_getElem?_getD]
 simp[h]
abbrev fo:Type:=Int×Int×Int×Int×Int
theorem jJ {α:Type}:∀ (l:List (Int×α)) (k:Int) (x y:α),dI (dI l k x) k y=dI l k y
 | [],k,x,y=>by simp[dI]
 | (k',u)::l,k,x,y=>by
  simp only[dI]
  by_cases h:k'=k
  ·rw[if_pos h,if_pos h]; simp[dI]
  ·rw[if_neg h,if_neg h]
   simp only[dI]
   rw[if_neg h,jJ l k x y]
theorem rq {α:Type}(l:List α)(s:Nat)(v:α):cS l s 0 v=l:=by simp[cS]
theorem vc {α:Type}(l:List α){s k:Nat}(v:α)(h:s+k < l.length):(cS l s k v).set (s+k) v=cS l s (k+1) v:=by
 unfold cS
 rw[List.set_append,if_neg (by simp; omega),List.length_take,show s+k-min s l.length=k by omega,List.set_append,if_neg (by simp),List.length_replicate,Nat.sub_self,List.drop_eq_getElem_cons (show s+k < l.length from h)]
 simp only[List.set_cons_zero]
 rw[List.replicate_succ',List.append_assoc]
 rfl
theorem clrL_len' {α:Type}(l:List α)(s k:Nat)(v:α)(h:s+k≤l.length):(cS l s k v).length=l.length:=by
 unfold cS; simp; omega
theorem BO {n st:Int}{st0 since:Int}{row seat sz:Nat}{rows vain:List Int}{hold:Int}{seats:List (List Int)}{pool:List eu}(ho:aP pool n=some (st0,(row:Int),(seat:Int),(sz:Int),since))
  (hr:row < seats.length) (hs:seat+sz≤(gt seats row).length) (hl:(gt seats row).length≤1000) :
  sK (n,st,(sz:Int),0,rows,hold,pool,seats,vain)=some (n,st,rows,hold,pool,seats.set row (cS (gt seats row) seat sz (-1)),vain):=by
 have hset:∀ x,gt (seats.set row x) row=x:=fun x=>by rw[gj _ _ _ _ hr,if_pos rfl]
 have hrl:∀ x,row < (seats.set row x).length:=fun x=>by rw[List.length_set]; exact hr
 have key:=bT (step:=fun x=>E6 x.1 x.2.1 x.2.2.1 x.2.2.2.1 x.2.2.2.2.1 x.2.2.2.2.2.1 x.2.2.2.2.2.2.1 x.2.2.2.2.2.2.2.1 x.2.2.2.2.2.2.2.2) sz (fun k=>(n,st,(sz:Int),(k:Int),rows,hold,pool,seats.set row (cS (gt seats row) seat k (-1)),vain)) (n,st,rows,hold,pool,seats.set row (cS (gt seats row) seat sz (-1)),vain)
  (fun k hk=>by
   show mG n st (sz:Int) (k:Int) rows hold pool (seats.set row (cS (gt seats row) seat k (-1))) vain=_
   unfold mG
   try unfold Gl
   try unfold Gk
   try unfold Ch
   try unfold Cg
   try unfold xQ
   try unfold pd
   have hcl:(cS (gt seats row) seat k (-1)).length=(gt seats row).length:=clrL_len' _ _ _ _ (by omega)
   have e1:(wn (aP pool n) (0,(0,(0,(0,0))))).2.1=(row:Int):=by rw[ho]; rfl
   have e2:(wn (aP pool n) (0,(0,(0,(0,0))))).2.2.1=(seat:Int):=by rw[ho]; rfl
   rw[bg hk,cond_true,e1,e2,aE (aN (hrl _)),aE (bY (by omega) (by omega)),cz,hset,show((seat:Int)+(k:Int))=((seat+k:Nat):Int)by omega,aE (aN (by rw[hcl]; omega)),aE (aX (by omega)),show((row:Int).toNat)=row from rfl,show(((seat+k:Nat):Int).toNat)=seat+k from rfl,vc _ _ (by omega),List.set_set]
   rfl)
  (by
   show mG n st (sz:Int) (sz:Int) rows hold pool (seats.set row (cS (gt seats row) seat sz (-1))) vain=_
   unfold mG
   try unfold Gl
   try unfold Gk
   try unfold Ch
   try unfold Cg
   try unfold xQ
   try unfold pd
   rw[bF,cond_false])
  (by omega)
 simp only[rq,G1 _ hr]at key
 exact key
theorem At {n st:Int}{st0 since:Int}{row seat sz:Nat}{rows vain:List Int}{hold:Int}{seats:List (List Int)}{pool:List eu}(ho:aP pool n=some (st0,(row:Int),(seat:Int),(sz:Int),since))
  (hr:row < seats.length) (hs:seat+sz≤(gt seats row).length) (hl:(gt seats row).length≤1000) :
  P111 (n,st,rows,hold,pool,seats,vain)=some (rows,hold,dI pool n (st,-1,-1,(sz:Int),since),seats.set row (cS (gt seats row) seat sz (-1)),vain):=by
 show IG sK n st rows hold pool seats vain=_
 unfold IG
 try unfold Gl
 try unfold Gk
 try unfold Ch
 try unfold Cg
 try unfold xQ
 try unfold pd
 have e:(wn (aP pool n) (0,(0,(0,(0,0))))).2.2.2.1=(sz:Int):=by rw[ho]; rfl
 rw[e,BO ho hr hs hl,bind_some']
 simp only[ef,if_true,ho,jJ]
 rfl
theorem Au {α:Type}[Inhabited α](l:List α){s k i:Nat}(v:α)(h:s+k≤l.length)(hi:i < l.length):gt (cS l s k v) i=if s≤i∧i < s+k then v else gt l i:=by
 simp only[gt,cS,List.getD_eq_getElem?_getD,List.getElem?_append,List.length_take,List.length_replicate,List.getElem?_replicate]
 by_cases h1:i < s
 ·rw[if_pos (by omega),if_neg (by omega)]
  simp[List.getElem?_take,h1]
 ·rw[if_neg (by omega),show min s l.length=s by omega]
  by_cases h2:i < s+k
  ·rw[if_pos (by omega),if_pos (by omega),if_pos (by omega)]; rfl
  ·rw[if_neg (by omega),if_neg (by omega),List.getElem?_drop]
   congr 2
   omega
def Owns (seats:List (List Int))(n:Int)(R S Z:Nat):Prop:=
 R < seats.length∧S+Z≤(gt seats R).length∧∀ r i,r < seats.length→i < (gt seats r).length→(gt (gt seats r) i=n↔r=R∧S≤i∧i < S+Z)
theorem clrV_len (n:Int)(seats:List (List Int)):(nG n seats).length=seats.length:=by simp[nG]
theorem jo (n:Int)(seats:List (List Int)){r:Nat}(h:r < seats.length):gt (nG n seats) r=(gt seats r).map (Hb n):=by
 rw[cC (by rw[clrV_len]; exact h),cC h]
 simp[nG]
theorem po (f:Int→Int)(l:List Int){i:Nat}(h:i < l.length):gt (l.map f) i=f (gt l i):=by
 rw[cC (by rw[List.length_map]; exact h),cC h]
 simp
theorem Gt {seats:List (List Int)}{n:Int}{R S Z:Nat}(h:Owns seats n R S Z):seats.set R (cS (gt seats R) S Z (-1))=nG n seats:=by
 obtain⟨h1,h2,h3⟩:=h
 refine mA (by rw[List.length_set,clrV_len]) fun r hr=>?_
 rw[List.length_set]at hr
 rw[gj _ _ _ _ h1,jo n seats hr]
 by_cases e:R=r
 ·subst e
  rw[if_pos rfl]
  refine mA (by rw[clrL_len' _ _ _ _ h2,List.length_map]) fun i hi=>?_
  rw[clrL_len' _ _ _ _ h2]at hi
  rw[Au _ _ h2 hi,po _ _ hi]
  unfold Hb
  have:=h3 R i hr hi
  by_cases hc:S≤i∧i < S+Z
  ·rw[if_pos hc,if_pos (this.2 ⟨rfl,hc⟩)]
  ·rw[if_neg hc,if_neg fun he=>hc (this.1 he).2]
 ·rw[if_neg e]
  refine mA (by rw[List.length_map]) fun i hi=>?_
  rw[po _ _ hi]
  unfold Hb
  rw[if_neg fun he=>e ((h3 r i hr hi).1 he).1.symm]
theorem Owns.clr {seats:List (List Int)}{n m:Int}{R S Z:Nat}(h:Owns seats n R S Z)(hne:n≠m)(hn:n ≠ -1):Owns (nG m seats) n R S Z:=by
 obtain⟨h1,h2,h3⟩:=h
 refine⟨by rw[clrV_len]; exact h1,by rw[jo m seats h1,List.length_map]; exact h2,fun r i hr hi=>?_⟩
 rw[clrV_len]at hr
 rw[jo m seats hr,List.length_map]at hi
 rw[jo m seats hr,po _ _ hi,← h3 r i hr hi]
 unfold Hb
 by_cases e:gt (gt seats r) i=m
 ·rw[if_pos e]
  constructor
  ·intro he; exact absurd he.symm hn
  ·intro he; exact absurd (he.symm.trans e) hne
 ·rw[if_neg e]
structure Inv (seats:List (List Int)) (pool:List eu):Prop where
 rows:∀ r,r < seats.length→(gt seats r).length≤1000
 own:∀ n o,aP pool n=some o→(o.1=2∨o.1=3)→n ≠ -1∧∃ R S Z:Nat,o.2.1=(R:Int)∧o.2.2.1=(S:Int)∧o.2.2.2.1=(Z:Int)∧Owns seats n R S Z
 since:∀ n o,aP pool n=some o→0≤o.2.2.2.2∧o.2.2.2.2≤100000
def dh (hold minute:Int)(o:fo):Bool:=decide (o.1=2)&&decide (o.2.2.2.2+hold≤minute)
def gU (o:fo):fo:=(4,-1,-1,o.2.2.2.1,o.2.2.2.2)
theorem Inv.step {seats:List (List Int)}{pool:List eu}(h:Inv seats pool){e:Int}{o:fo}(he:aP pool e=some o)(o':fo)(h1:o'.1≠2)(h2:o'.1≠3)(h3:o'.2.2.2.2=o.2.2.2.2):Inv (nG e seats) (dI pool e o'):=by
 refine⟨fun r hr=>?_,fun n q hq hs=>?_,fun n q hq=>?_⟩
 ·rw[clrV_len]at hr; rw[jo e seats hr,List.length_map]; exact h.rows r hr
 ·rw[ef]at hq
  by_cases hne:e=n
  ·rw[if_pos hne]at hq; cases hq; rcases hs with hs | hs
   ·exact absurd hs h1
   ·exact absurd hs h2
  ·rw[if_neg hne]at hq
   obtain⟨g1,R,S,Z,g2,g3,g4,g5⟩:=h.own n q hq hs
   exact⟨g1,R,S,Z,g2,g3,g4,g5.clr (Ne.symm hne) g1⟩
 ·rw[ef]at hq
  by_cases hne:e=n
  ·rw[if_pos hne]at hq; cases hq; rw[h3]; exact h.since e o he
  ·rw[if_neg hne]at hq; exact h.since n q hq
theorem Gu {minute hold:Int}{rows vain:List Int}{seats:List (List Int)}{pool:List eu}(h:Inv seats pool)(hh:0≤hold∧hold≤100000){e:Int}{o:fo}(he:aP pool e=some o):
  qS minute rows hold seats vain pool e=some (cond (dh hold minute o) (minute,rows,hold,nG e seats,vain,dI pool e (gU o)) (minute,rows,hold,seats,vain,pool)):=by
 show zA P111 minute rows hold seats vain pool e=_
 unfold zA dh
 try unfold Gl
 try unfold Gk
 try unfold Ch
 try unfold Cg
 try unfold xQ
 try unfold pd
 have hs:=h.since e o he
 have d1:(wn (aP pool e) (0,(0,(0,(0,0)))))=o:=by rw[he]; rfl
 rw[d1]
 cases hd:decide (o.1=2)with
 | false=>rfl
 | true=>
  rw[cond_true,aE (bY (by omega) (by omega)),Bool.true_and]
  cases decide (o.2.2.2.2+hold≤minute)with
  | false=>rfl
  | true=>
   obtain⟨g1,R,S,Z,g2,g3,g4,g5⟩:=h.own e o he (.inl (of_decide_eq_true hd))
   have heo:aP pool e=some (o.1,(R:Int),(S:Int),(Z:Int),o.2.2.2.2):=by rw[he,← g2,← g3,← g4]
   rw[cond_true,At heo g5.1 g5.2.1 (h.rows R g5.1),Gt g5,bind_some']
   unfold gU
   rw[g4]
   rfl
def fO (d:Int→Bool)(q:List Int)(seats:List (List Int)):List (List Int):=seats.map fun l=>l.map fun v=>if v∈q∧d v=true then -1 else v
def dA (d:Int→Bool)(q:List Int)(pool:List eu):List eu:=pool.map fun x=>(x.1,if x.1∈q∧d x.1=true then gU x.2 else x.2)
theorem BP (d:Int→Bool)(q:List Int)(e:Int)(seats:List (List Int))(h1:e ≠ -1):fO d (q++[e]) seats=cond (d e) (nG e (fO d q seats)) (fO d q seats):=by
 unfold fO nG
 cases hd:d e with
 | true=>
  rw[cond_true,List.map_map]
  refine List.map_congr_left fun l _=>?_
  simp only[Function.comp,List.map_map]
  refine List.map_congr_left fun v _=>?_
  simp only[Function.comp,Hb]
  by_cases hq:v∈q∧d v=true
  ·rw[if_pos hq,if_pos ⟨List.mem_append_left _ hq.1,hq.2⟩,if_neg (Ne.symm h1)]
  ·rw[if_neg hq]
   by_cases hv:v=e
   ·rw[if_pos hv,if_pos ⟨by rw[hv]; simp,by rw[hv]; exact hd⟩]
   ·rw[if_neg hv,if_neg]
    rintro⟨a,b⟩
    rcases List.mem_append.1 a with a | a
    ·exact hq ⟨a,b⟩
    ·exact hv (by simpa using a)
 | false=>
  rw[cond_false]
  refine List.map_congr_left fun l _=>List.map_congr_left fun v _=>?_
  by_cases hq:v∈q∧d v=true
  ·rw[if_pos hq,if_pos ⟨List.mem_append_left _ hq.1,hq.2⟩]
  ·rw[if_neg hq,if_neg]
   rintro⟨a,b⟩
   rcases List.mem_append.1 a with a | a
   ·exact hq ⟨a,b⟩
   ·rw[List.mem_singleton.1 a,hd]at b; cases b
theorem jK (d:Int→Bool)(q:List Int):∀ (pool:List eu) (n:Int),aP (dA d q pool) n=(aP pool n).map fun o=>if n∈q∧d n=true then gU o else o
 | [],n=>rfl
 | (k,o)::l,n=>by
  show aP ((k,if k∈q∧d k=true then gU o else o)::dA d q l) n=_
  rw[aU,aU]
  by_cases h:k=n
  ·subst h; rw[if_pos rfl,if_pos rfl]; rfl
  ·rw[if_neg h,if_neg h]; exact jK d q l n
theorem rt (d:Int→Bool)(q:List Int)(e:Int):∀ (pool:List eu) (o:fo),(pool.map (·.1)).Nodup→aP pool e=some o→e∉q→dA d (q++[e]) pool=cond (d e) (dI (dA d q pool) e (gU o)) (dA d q pool)
 | [],o,_,h,_=>by cases h
 | (k,u)::l,o,hn,h,hq=>by
  rw[aU]at h
  have hn1:k∉l.map (·.1)∧(l.map (·.1)).Nodup:=by simpa using hn
  show(k,if k∈q++[e]∧d k=true then gU u else u)::dA d (q++[e]) l=cond (d e) (dI ((k,if k∈q∧d k=true then gU u else u)::dA d q l) e (gU o)) ((k,if k∈q∧d k=true then gU u else u)::dA d q l)
  by_cases hk:k=e
  ·subst hk
   rw[if_pos rfl]at h
   cases h
   have hrest:dA d (q++[k]) l=dA d q l:=by
    unfold dA
    refine List.map_congr_left fun x hx=>?_
    have hne:x.1≠k:=fun e=>hn1.1 (by rw[← e]; exact List.mem_map_of_mem hx)
    by_cases c:x.1∈q∧d x.1=true
    ·rw[if_pos c,if_pos ⟨List.mem_append_left _ c.1,c.2⟩]
    ·rw[if_neg c,if_neg]
     rintro⟨a,b⟩
     rcases List.mem_append.1 a with a | a
     ·exact c ⟨a,b⟩
     ·exact hne (by simpa using a)
   rw[hrest]
   simp only[dI,if_true]
   cases hd:d k with
   | true=>simp
   | false=>simp
  ·rw[if_neg hk]at h
   have ih:=rt d q e l o hn1.2 h hq
   have hkk:(k∈q++[e]∧d k=true)↔(k∈q∧d k=true):=by
    simp[hk]
   rw[ih]
   simp only[dI,hkk]
   rw[if_neg hk]
   cases d e <;> rfl
def cF (hold minute:Int)(pool:List eu)(n:Int):Bool:=match aP pool n with
 | some o=>dh hold minute o
 | none=>false
theorem xS {minute hold:Int}{rows vain:List Int}{seats:List (List Int)}{pool:List eu}(hh:0≤hold∧hold≤100000)(hn:(pool.map (·.1)).Nodup)(hm:∀ n o,aP pool n=some o→n ≠ -1):
  ∀ (p q:List Int),(q++p).Nodup→(∀ n∈p,∃ o,aP pool n=some o)→Inv (fO (cF hold minute pool) q seats) (dA (cF hold minute pool) q pool) →
  fe (fun(x:Int×(List Int)×Int×(List (List Int))×(List Int)×(List eu)) e=>qS x.1 x.2.1 x.2.2.1 x.2.2.2.1 x.2.2.2.2.1 x.2.2.2.2.2 e) p (minute,rows,hold,fO (cF hold minute pool) q seats,vain,dA (cF hold minute pool) q pool) =
   some (minute,rows,hold,fO (cF hold minute pool) (q++p) seats,vain,dA (cF hold minute pool) (q++p) pool)∧Inv (fO (cF hold minute pool) (q++p) seats) (dA (cF hold minute pool) (q++p) pool)
 | [],q,_,_,hI=>by rw[List.append_nil]; exact⟨rfl,hI⟩
 | e::p,q,hq,hp,hI=>by
  obtain⟨o,ho⟩:=hp e (by simp)
  have heq:e∉q:=fun h=>by
   have:=List.nodup_append.1 hq
   exact this.2.2 e h e (by simp) rfl
  have hg:aP (dA (cF hold minute pool) q pool) e=some o:=by
   rw[jK,ho]
   show some (if e∈q∧_ then _ else _)=_
   rw[if_neg fun h=>heq h.1]
  have hde:cF hold minute pool e=dh hold minute o:=by unfold cF; rw[ho]
  have hsA:=BP (cF hold minute pool) q e seats (hm e o ho)
  have hsL:=rt (cF hold minute pool) q e pool o hn ho heq
  have hstep:qS minute rows hold (fO (cF hold minute pool) q seats) vain (dA (cF hold minute pool) q pool) e=some (minute,rows,hold,fO (cF hold minute pool) (q++[e]) seats,vain,dA (cF hold minute pool) (q++[e]) pool):=by
   rw[Gu hI hh hg,hsA,hsL,hde]
   cases dh hold minute o <;> rfl
  have hI':Inv (fO (cF hold minute pool) (q++[e]) seats) (dA (cF hold minute pool) (q++[e]) pool):=by
   rw[hsA,hsL]
   cases cF hold minute pool e with
   | false=>exact hI
   | true=>exact hI.step hg (gU o) (by show(4:Int)≠2; omega) (by show(4:Int)≠3; omega) rfl
  have ih:=xS (rows:=rows) (vain:=vain) hh hn hm p (q++[e]) (by rw[List.append_assoc]; exact hq) (fun n hn'=>hp n (List.mem_cons_of_mem _ hn')) hI'
  rw[List.append_assoc]at ih
  refine⟨?_,ih.2⟩
  show(qS minute rows hold (fO (cF hold minute pool) q seats) vain (dA (cF hold minute pool) q pool) e).bind _=_
  rw[hstep,bind_some']
  exact ih.1
theorem BQ (d:Int→Bool){p q:List Int}(h:p.Perm q)(seats:List (List Int)):fO d p seats=fO d q seats:=
 List.map_congr_left fun l _=>List.map_congr_left fun v _=>by simp only[h.mem_iff]
theorem BR (d:Int→Bool){p q:List Int}(h:p.Perm q)(pool:List eu):dA d p pool=dA d q pool:=
 List.map_congr_left fun x _=>by simp only[h.mem_iff]
theorem vd (d:Int→Bool)(seats:List (List Int)):fO d [] seats=seats:=by
 unfold fO
 simp
theorem ve (d:Int→Bool)(pool:List eu):dA d [] pool=pool:=by
 unfold dA
 simp
theorem Av {pool:List eu}{n:Int}(h:n∈pool.map (·.1)):∃ o,aP pool n=some o:=by
 cases hc:aP pool n with
 | some o=>exact⟨o,rfl⟩
 | none=>exact absurd h (jC hc)
theorem Sr {minute hold:Int}{rows vain:List Int}{seats:List (List Int)}{pool:List eu}(hI:Inv seats pool)(hh:0≤hold∧hold≤100000)(hn:(pool.map (·.1)).Nodup)(hm:∀ n o,aP pool n=some o→n ≠ -1):
  P83 (minute,rows,hold,seats,vain,pool)=some (rows,hold,fO (cF hold minute pool) (pool.map (·.1)) seats,vain,dA (cF hold minute pool) (pool.map (·.1)) pool) ∧
  Inv (fO (cF hold minute pool) (pool.map (·.1)) seats) (dA (cF hold minute pool) (pool.map (·.1)) pool):=by
 have hI0:Inv (fO (cF hold minute pool) [] seats) (dA (cF hold minute pool) [] pool):=by rw[vd,ve]; exact hI
 have key:∀ p:List Int,p.Perm (pool.map (·.1))→fe (fun(x:Int×(List Int)×Int×(List (List Int))×(List Int)×(List eu)) e=>qS x.1 x.2.1 x.2.2.1 x.2.2.2.1 x.2.2.2.2.1 x.2.2.2.2.2 e) p (minute,rows,hold,seats,vain,pool) =
   some (minute,rows,hold,fO (cF hold minute pool) (pool.map (·.1)) seats,vain,dA (cF hold minute pool) (pool.map (·.1)) pool):=fun p hp=>by
  have:=(xS (minute:=minute) (rows:=rows) (vain:=vain) (seats:=seats) hh hn hm p [] (by simpa using hp.nodup_iff.2 hn) (fun n hn'=>Av (hp.mem_iff.1 hn')) hI0).1
  rw[vd,ve,List.nil_append,BQ _ hp,BR _ hp]at this
  exact this
 have hfin:=(xS (minute:=minute) (rows:=rows) (vain:=vain) (seats:=seats) hh hn hm (pool.map (·.1)) [] (by simpa using hn) (fun n hn'=>Av hn') hI0).2
 rw[List.nil_append]at hfin
 refine⟨?_,hfin⟩
 show q83 P111 zB minute rows hold seats vain pool=_
 unfold q83
 have e:zB (pool.map (·.1)) (minute,rows,hold,seats,vain,pool)=some (minute,rows,hold,fO (cF hold minute pool) (pool.map (·.1)) seats,vain,dA (cF hold minute pool) (pool.map (·.1)) pool):=by
  show rngF _ _ _=_
  unfold rngF
  rw[if_pos fun p hp=>(key p hp).trans (key _ (List.Perm.refl _)).symm]
  exact key _ (List.Perm.refl _)
 rw[e]
 rfl
def pZ (pool:List eu)(n:Int):List eu:=if(aP pool n).isSome=true then pool else pool++[(n,(0,-1,-1,0,0))]
theorem pp (n:Int)(rows vain:List Int)(hold:Int)(seats:List (List Int))(pool:List eu):nu (n,rows,hold,seats,vain,pool)=some (n,rows,hold,seats,vain,pZ pool n):=by
 show q43 n rows hold seats vain pool=_
 unfold q43 pZ
 cases hc:(aP pool n).isSome with
 | true=>rfl
 | false=>rfl
theorem BS {n:Int}{s0 z0:Int}{row seat sz:Nat}{rows vain:List Int}{hold:Int}{seats:List (List Int)}{pool:List eu}
  (hr:row < seats.length) (hs:seat+sz≤(gt seats row).length) (hl:(gt seats row).length≤1000) :
  mI (n,(sz:Int),0,rows,hold,(s0,(row:Int),(seat:Int),z0),seats,vain,pool)=some (rows,hold,(s0,(row:Int),(seat:Int),z0),seats.set row (cS (gt seats row) seat sz n),vain,pool):=by
 have hset:∀ x,gt (seats.set row x) row=x:=fun x=>by rw[gj _ _ _ _ hr,if_pos rfl]
 have hrl:∀ x,row < (seats.set row x).length:=fun x=>by rw[List.length_set]; exact hr
 have key:=bT (step:=fun x=>Fa x.1 x.2.1 x.2.2.1 x.2.2.2.1 x.2.2.2.2.1 x.2.2.2.2.2.1 x.2.2.2.2.2.2.1 x.2.2.2.2.2.2.2.1 x.2.2.2.2.2.2.2.2) sz (fun k=>(n,(sz:Int),(k:Int),rows,hold,(s0,(row:Int),(seat:Int),z0),seats.set row (cS (gt seats row) seat k n),vain,pool)) (rows,hold,(s0,(row:Int),(seat:Int),z0),seats.set row (cS (gt seats row) seat sz n),vain,pool)
  (fun k hk=>by
   show mH nu pY n (sz:Int) (k:Int) rows hold (s0,(row:Int),(seat:Int),z0) (seats.set row (cS (gt seats row) seat k n)) vain pool=_
   unfold mH
   have hcl:(cS (gt seats row) seat k n).length=(gt seats row).length:=clrL_len' _ _ _ _ (by omega)
   rw[bg hk,cond_true]
   simp only
   rw[aE (aN (hrl _)),aE (bY (by omega) (by omega)),cz,hset,show((seat:Int)+(k:Int))=((seat+k:Nat):Int)by omega,aE (aN (by rw[hcl]; omega)),aE (aX (by omega)),show((row:Int).toNat)=row from rfl,show(((seat+k:Nat):Int).toNat)=seat+k from rfl,vc _ _ (by omega),List.set_set]
   rfl)
  (by
   show mH nu pY n (sz:Int) (sz:Int) rows hold (s0,(row:Int),(seat:Int),z0) (seats.set row (cS (gt seats row) seat sz n)) vain pool=_
   unfold mH
   rw[bF,cond_false])
  (by omega)
 simp only[rq,G1 _ hr]at key
 exact key
theorem Gv {n minute hold:Int}{sz:Nat}{rows vain:List Int}{seats:List (List Int)}{pool:List eu}{o:fo}(ho:aP (pZ pool n) n=some o)(h:o.1≠0):
  pR (n,(sz:Int),minute,rows,hold,seats,vain,pool)=some (rows,hold,seats,vain,pZ pool n):=by
 show uD nu pY mI n (sz:Int) minute rows hold seats vain pool=_
 unfold uD
 try unfold Gl
 try unfold Gk
 try unfold Ch
 try unfold Cg
 try unfold xQ
 try unfold pd
 rw[pp,bind_some']
 simp only[ho]
 rw[show decide ((wn (some o) ((0:Int),((0:Int),((0:Int),((0:Int),(0:Int)))))).1=0)=false from decide_eq_false h]
 rfl
theorem JU {n minute hold:Int}{sz:Nat}{rows vain:List Int}{seats:List (List Int)}{pool:List eu}{o:fo}(ho:aP (pZ pool n) n=some o)(h:o.1=0)
  (hl:∀ r,r < seats.length→(gt seats r).length≤1000) (hs:seats.length≤1000) (hn:sz≤1000) (hb:(nc seats sz).2=false) :
  pR (n,(sz:Int),minute,rows,hold,seats,vain,pool)=some (rows,hold,seats,vain,dI (pZ pool n) n (1,o.2.1,o.2.2.1,(sz:Int),minute)):=by
 show uD nu pY mI n (sz:Int) minute rows hold seats vain pool=_
 unfold uD
 try unfold Gl
 try unfold Gk
 try unfold Ch
 try unfold Cg
 try unfold xQ
 try unfold pd
 rw[pp,bind_some']
 simp only[ho]
 rw[show decide ((wn (some o) ((0:Int),((0:Int),((0:Int),((0:Int),(0:Int)))))).1=0)=true from decide_eq_true h,Bool.not_true,cond_false,yb hl hs hn,bind_some']
 simp only[hb,ho,ef,if_true,jJ]
 rfl
theorem Gw {n minute hold:Int}{sz r s:Nat}{rows vain:List Int}{seats:List (List Int)}{pool:List eu}{o:fo}(ho:aP (pZ pool n) n=some o)(h:o.1=0)
  (hl:∀ r,r < seats.length→(gt seats r).length≤1000) (hs:seats.length≤1000) (hn:sz≤1000) (hb:nc seats sz=((0,(r:Int),(s:Int),(sz:Int)),true)) (hr:r < seats.length) (hz:s+sz≤(gt seats r).length) :
  pR (n,(sz:Int),minute,rows,hold,seats,vain,pool)=some (rows,hold,seats.set r (cS (gt seats r) s sz n),vain,dI (pZ pool n) n (2,(r:Int),(s:Int),(sz:Int),minute)):=by
 show uD nu pY mI n (sz:Int) minute rows hold seats vain pool=_
 unfold uD
 try unfold Gl
 try unfold Gk
 try unfold Ch
 try unfold Cg
 try unfold xQ
 try unfold pd
 rw[pp,bind_some']
 simp only[ho]
 rw[show decide ((wn (some o) ((0:Int),((0:Int),((0:Int),((0:Int),(0:Int)))))).1=0)=true from decide_eq_true h,Bool.not_true,cond_false,yb hl hs hn,bind_some',hb]
 simp only[ho,ef,if_true,jJ]
 rw[Bool.not_true,cond_false,BS hr hz (hl r hr),bind_some']
 rfl
def vO:fo:=(0,-1,-1,0,0)
def eY (g:Int→fo)(n:Int)(o:fo):Int→fo:=fun m=>if m=n then o else g m
abbrev HM:Type:=List (List Int)×(Int→fo)×List Int
def pq (hold minute:Int)(g:Int→fo)(v:Int):Int:=if dh hold minute (g v)=true then -1 else v
def lapG (hold minute:Int)(g:Int→fo):Int→fo:=fun n=>if dh hold minute (g n)=true then gU (g n)else g n
def dR (hold minute:Int)(x:HM):HM:=(x.1.map fun l=>l.map (pq hold minute x.2.1),lapG hold minute x.2.1,x.2.2)
def bO (seats:List (List Int))(n:Nat):Option (Nat×Nat):=((gr seats n 0 seats.length).find? (pB seats n false)).or ((gr seats n 0 seats.length).find? (pB seats n true))
def sV (x:HM)(n:Int)(sz:Nat)(at':Int):HM:=
 if(x.2.1 n).1=0 then
  (match bO x.1 sz with
   | none=>(x.1,eY x.2.1 n (1,-1,-1,(sz:Int),at'),x.2.2)
   | some c=>(x.1.set c.1 (cS (gt x.1 c.1) c.2 sz n),eY x.2.1 n (2,(c.1:Int),(c.2:Int),(sz:Int),at'),x.2.2))
 else x
def pr (x:HM)(n:Int):HM:=if(x.2.1 n).1=2 then(x.1,eY x.2.1 n (3,(x.2.1 n).2),x.2.2)else(x.1,x.2.1,x.2.2++[n])
def held (o:fo):Prop:=o.1=2∨o.1=3
instance (o:fo):Decidable (held o):=inferInstanceAs (Decidable (_∨_))
def kN (x:HM)(n:Int):HM:=if held (x.2.1 n)then(nG n x.1,eY x.2.1 n (5,-1,-1,(x.2.1 n).2.2.2.1,(x.2.1 n).2.2.2.2),x.2.2)else x
def dD (x:HM)(c:aq):HM:=if c.2.2.1=1 then sV x c.2.2.2.1 c.2.2.2.2.toNat c.2.1 else if c.2.2.1=2 then pr x c.2.2.2.1 else kN x c.2.2.2.1
def aY (c:aq):Prop:=(0≤c.1∧c.1≤99)∧(0≤c.2.1∧c.2.1≤9999)∧(c.2.2.1=1∧1≤c.2.2.2.2∧c.2.2.2.2≤12∨(c.2.2.1=2∨c.2.2.1=3)∧c.2.2.2.2=0)∧(0≤c.2.2.2.1∧c.2.2.2.1≤99)
structure IM (lens:List Nat) (x:HM):Prop where
 shp:x.1.map List.length=lens
 own:∀ n,held (x.2.1 n)→∃ R S Z:Nat,(x.2.1 n).2.1=(R:Int)∧(x.2.1 n).2.2.1=(S:Int)∧(x.2.1 n).2.2.2.1=(Z:Int)∧Owns x.1 n R S Z∧1≤Z∧Z≤12
 occ:∀ r i,r < x.1.length→i < (gt x.1 r).length→gt (gt x.1 r) i = -1∨held (x.2.1 (gt (gt x.1 r) i))
 dom:∀ n,(n < 0∨99 < n)→x.2.1 n=vO
 st:∀ n,x.2.1 n=vO∨(1≤(x.2.1 n).1∧(x.2.1 n).1≤5∧(held (x.2.1 n)∨((x.2.1 n).2.1 = -1∧(x.2.1 n).2.2.1 = -1))∧0≤(x.2.1 n).2.2.2.2∧(x.2.1 n).2.2.2.2≤9999)
theorem gV {lens:List Nat}{x:HM}(h:IM lens x){n:Int}(hn:held (x.2.1 n)):0≤n∧n≤99:=by
 refine⟨?_,?_⟩
 ·by_cases c:0≤n
  ·exact c
  ·rw[h.dom n (.inl (by omega))]at hn; rcases hn with e | e <;> cases e
 ·by_cases c:n≤99
  ·exact c
  ·rw[h.dom n (.inr (by omega))]at hn; rcases hn with e | e <;> cases e
theorem n7 (f:Int→Int)(seats:List (List Int)){r:Nat}(h:r < seats.length):gt (seats.map fun l=>l.map f) r=(gt seats r).map f:=by
 rw[cC (by rw[List.length_map]; exact h),cC h]
 simp
theorem JV (f:Int→Int)(seats:List (List Int)):(seats.map fun l=>l.map f).map List.length=seats.map List.length:=by
 rw[List.map_map]
 exact List.map_congr_left fun l _=>by simp
theorem Owns.map {seats:List (List Int)}{n:Int}{R S Z:Nat}(h:Owns seats n R S Z){f:Int→Int}(hf:∀ v,f v=n↔v=n):Owns (seats.map fun l=>l.map f) n R S Z:=by
 obtain⟨h1,h2,h3⟩:=h
 refine⟨by rw[List.length_map]; exact h1,by rw[n7 f seats h1,List.length_map]; exact h2,fun r i hr hi=>?_⟩
 rw[List.length_map]at hr
 rw[n7 f seats hr,List.length_map]at hi
 rw[n7 f seats hr,po _ _ hi,hf,h3 r i hr hi]
theorem IM.mp {lens:List Nat}{x:HM}(h:IM lens x){f:Int→Int}{g:Int→fo}{vain:List Int}(h1:∀ n,held (g n)→held (x.2.1 n)∧(g n).2.1=(x.2.1 n).2.1∧(g n).2.2.1=(x.2.1 n).2.2.1∧(g n).2.2.2.1=(x.2.1 n).2.2.2.1∧∀ v,f v=n↔v=n)
  (h2:∀ v,held (x.2.1 v)→f v = -1∨(f v=v∧held (g v))) (h2':f (-1) = -1)
  (h3:∀ n,(n < 0∨99 < n)→g n=vO)
  (h4:∀ n,g n=vO∨(1≤(g n).1∧(g n).1≤5∧(held (g n)∨((g n).2.1 = -1∧(g n).2.2.1 = -1))∧0≤(g n).2.2.2.2∧(g n).2.2.2.2≤9999)):IM lens (x.1.map fun l=>l.map f,g,vain):=by
 refine⟨by rw[← h.shp]; exact JV f x.1,fun n hn=>?_,fun r i hr hi=>?_,h3,h4⟩
 ·obtain⟨q1,q2,q3,q4,q5⟩:=h1 n hn
  obtain⟨R,S,Z,e1,e2,e3,e4,e5⟩:=h.own n q1
  exact⟨R,S,Z,q2.trans e1,q3.trans e2,q4.trans e3,e4.map q5,e5⟩
 ·simp only[List.length_map]at hr
  simp only[n7 f x.1 hr,List.length_map]at hi ⊢
  rw[po _ _ hi]
  rcases h.occ r i hr hi with e | e
  ·left; rw[e,h2']
  ·rcases h2 _ e with q | ⟨q,q'⟩
   ·exact .inl q
   ·right; rw[q]; exact q'
theorem sW (o:fo):¬ held (gU o):=by
 rintro(e | e)
 ·exact absurd (show(4:Int)=2 from e) (by decide)
 ·exact absurd (show(4:Int)=3 from e) (by decide)
theorem BT {hold minute:Int}{o:fo}(h:dh hold minute o=true):o.1=2:=by
 unfold dh at h
 simp only[Bool.and_eq_true,decide_eq_true_eq]at h
 exact h.1
theorem pt (hold minute:Int):dh hold minute vO=false:=rfl
theorem IM.lap {lens:List Nat}{x:HM}(h:IM lens x)(hold minute:Int):IM lens (dR hold minute x):=by
 have hneg:x.2.1 (-1)=vO:=h.dom (-1) (.inl (by decide))
 refine h.mp (f:=pq hold minute x.2.1) (g:=lapG hold minute x.2.1) (fun n hn=>?_) (fun v hv=>?_) ?_ (fun n hn=>?_) (fun n=>?_)
 ·unfold lapG at hn ⊢
  cases hd:dh hold minute (x.2.1 n)with
  | true=>rw[hd,if_pos rfl]at hn; exact absurd hn (sW _)
  | false=>
   simp only[hd,Bool.false_eq_true,if_false]at hn ⊢
   refine⟨hn,trivial,trivial,trivial,fun v=>?_⟩
   have hd0:=gV h hn
   unfold pq
   by_cases c:dh hold minute (x.2.1 v)=true
   ·rw[if_pos c]
    exact⟨fun e=>by omega,fun e=>by rw[e,hd]at c; cases c⟩
   ·rw[if_neg c]
 ·unfold pq lapG
  by_cases c:dh hold minute (x.2.1 v)=true
  ·rw[if_pos c]; exact .inl rfl
  ·simp only[if_neg c]; exact .inr ⟨trivial,hv⟩
 ·unfold pq
  rw[hneg,pt]
  rfl
 ·show lapG hold minute x.2.1 n=vO
  unfold lapG
  rw[h.dom n hn,pt]
  rfl
 ·unfold lapG
  by_cases c:dh hold minute (x.2.1 n)=true
  ·simp only[if_pos c]
   rcases h.st n with e | ⟨e1,e2,e3,e4,e5⟩
   ·rw[e]at c; cases c
   ·right
    exact⟨by show(1:Int)≤4; omega,by show(4:Int)≤5; omega,.inr ⟨rfl,rfl⟩,e4,e5⟩
  ·simp only[if_neg c]; exact h.st n
theorem Gx (n:Int)(seats:List (List Int)):nG n seats=seats.map fun l=>l.map (Hb n):=rfl
theorem IM.drp {lens:List Nat}{x:HM}(h:IM lens x)(n:Int):IM lens (kN x n):=by
 unfold kN
 by_cases hh:held (x.2.1 n)
 ·rw[if_pos hh]
  have hd:=gV h hh
  have hne:∀ m,m≠n→eY x.2.1 n (5,-1,-1,(x.2.1 n).2.2.2.1,(x.2.1 n).2.2.2.2) m=x.2.1 m:=fun m hm=>if_neg hm
  have heq:eY x.2.1 n (5,-1,-1,(x.2.1 n).2.2.2.1,(x.2.1 n).2.2.2.2) n=(5,-1,-1,(x.2.1 n).2.2.2.1,(x.2.1 n).2.2.2.2):=if_pos rfl
  have hnh:¬ held ((5,-1,-1,(x.2.1 n).2.2.2.1,(x.2.1 n).2.2.2.2):fo):=by
   rintro(e | e)
   ·exact absurd (show(5:Int)=2 from e) (by decide)
   ·exact absurd (show(5:Int)=3 from e) (by decide)
  rw[Gx]
  refine h.mp (fun m hm=>?_) (fun v hv=>?_) (by unfold Hb; rw[if_neg (by omega)]) (fun m hm=>?_) (fun m=>?_)
  ·by_cases c:m=n
   ·subst c; rw[heq]at hm; exact absurd hm hnh
   ·rw[hne m c]at hm ⊢
    refine⟨hm,rfl,rfl,rfl,fun v=>?_⟩
    have:=gV h hm
    unfold Hb
    by_cases c2:v=n
    ·rw[if_pos c2]; omega
    ·rw[if_neg c2]
  ·unfold Hb
   by_cases c:v=n
   ·rw[if_pos c]; exact .inl rfl
   ·rw[if_neg c,hne v c]; exact .inr ⟨rfl,hv⟩
  ·rw[hne m (by omega)]; exact h.dom m hm
  ·by_cases c:m=n
   ·subst c
    rw[heq]
    rcases h.st m with e | ⟨e1,e2,e3,e4,e5⟩
    ·rw[e]at hh; rcases hh with e | e <;> cases e
    ·right
     exact⟨by show(1:Int)≤5; omega,by show(5:Int)≤5; omega,.inr ⟨rfl,rfl⟩,e4,e5⟩
   ·rw[hne m c]; exact h.st m
 ·rw[if_neg hh]; exact h
theorem IM.pay {lens:List Nat}{x:HM}(h:IM lens x)(n:Int):IM lens (pr x n):=by
 unfold pr
 by_cases hh:(x.2.1 n).1=2
 ·rw[if_pos hh]
  have hn:held (x.2.1 n):=.inl hh
  have hd:=gV h hn
  have hne:∀ m,m≠n→eY x.2.1 n (3,(x.2.1 n).2) m=x.2.1 m:=fun m hm=>if_neg hm
  have heq:eY x.2.1 n (3,(x.2.1 n).2) n=(3,(x.2.1 n).2):=if_pos rfl
  have hid:x.1=x.1.map fun l=>l.map id:=by simp
  have:=h.mp (f:=id) (g:=eY x.2.1 n (3,(x.2.1 n).2)) (vain:=x.2.2) (fun m hm=>?_) (fun v hv=>?_) rfl (fun m hm=>?_) (fun m=>?_)
  ·rw[← hid]at this; exact this
  ·by_cases c:m=n
   ·subst c; rw[heq]; exact⟨hn,rfl,rfl,rfl,fun v=>Iff.rfl⟩
   ·rw[hne m c]at hm ⊢; exact⟨hm,rfl,rfl,rfl,fun v=>Iff.rfl⟩
  ·right
   refine⟨rfl,?_⟩
   by_cases c:v=n
   ·subst c; rw[heq]; exact .inr rfl
   ·rw[hne v c]; exact hv
  ·rw[hne m (by omega)]; exact h.dom m hm
  ·by_cases c:m=n
   ·subst c
    rw[heq]
    rcases h.st m with e | ⟨e1,e2,e3,e4,e5⟩
    ·rw[e]at hh; cases hh
    ·right
     exact⟨by show(1:Int)≤3; omega,by show(3:Int)≤5; omega,.inl (.inr rfl),e4,e5⟩
   ·rw[hne m c]; exact h.st m
 ·rw[if_neg hh]; exact⟨h.shp,h.own,h.occ,h.dom,h.st⟩
theorem Gy {seats:List (List Int)}{n:Nat}{c:Nat×Nat}:c∈gr seats n 0 seats.length↔c.1 < seats.length∧c.2+n≤(gt seats c.1).length:=by
 obtain⟨r,s⟩:=c
 unfold gr pC
 simp only[List.mem_flatMap,List.mem_map,List.mem_range'_1,Prod.mk.injEq]
 constructor
 ·rintro⟨r',⟨_,h1⟩,s',⟨_,h2⟩,rfl,rfl⟩
  omega
 ·rintro⟨h1,h2⟩
  exact⟨r,by omega,s,by omega,rfl,rfl⟩
theorem JW {l:List Int}{s n:Nat}:BW l s n=true↔∀ i,s≤i→i < s+n→gt l i = -1:=by
 unfold BW
 rw[dc]
 constructor
 ·intro h i h1 h2
  have:=h (i-s) (by omega)
  rw[show s+(i-s)=i by omega]at this
  exact of_decide_eq_true this
 ·intro h k hk
  exact decide_eq_true (h (s+k) (by omega) (by omega))
theorem Aw {seats:List (List Int)}{n:Nat}{c:Nat×Nat}(h:bO seats n=some c):c.1 < seats.length∧c.2+n≤(gt seats c.1).length∧BW (gt seats c.1) c.2 n=true:=by
 unfold bO at h
 have key:∀ g,(gr seats n 0 seats.length).find? (pB seats n g)=some c→c.1 < seats.length∧c.2+n≤(gt seats c.1).length∧BW (gt seats c.1) c.2 n=true:=fun g hg=>by
  have h1:=Gy.1 (List.mem_of_find?_eq_some hg)
  have h2:=List.find?_some hg
  unfold pB at h2
  simp only[Bool.and_eq_true]at h2
  exact⟨h1.1,h1.2,h2.1⟩
 cases h1:(gr seats n 0 seats.length).find? (pB seats n false)with
 | some d=>rw[h1]at h; cases h; exact key false h1
 | none=>rw[h1]at h; exact key true h
theorem pu {seats:List (List Int)}{R S Z:Nat}{n:Int}(h1:R < seats.length)(h2:S+Z≤(gt seats R).length){r i:Nat}(hr:r < seats.length)(hi:i < (gt seats r).length):
  gt (gt (seats.set R (cS (gt seats R) S Z n)) r) i=if r=R∧S≤i∧i < S+Z then n else gt (gt seats r) i:=by
 rw[gj _ _ _ _ h1]
 by_cases c:R=r
 ·subst c
  rw[if_pos rfl,Au _ _ h2 hi]
  by_cases c2:S≤i∧i < S+Z
  ·rw[if_pos c2,if_pos ⟨rfl,c2⟩]
  ·rw[if_neg c2,if_neg fun e=>c2 e.2]
 ·rw[if_neg c,if_neg fun e=>c e.1.symm]
theorem jL {seats:List (List Int)}{R S Z:Nat}{n:Int}(h1:R < seats.length)(h2:S+Z≤(gt seats R).length)(r:Nat):
  (gt (seats.set R (cS (gt seats R) S Z n)) r).length=(gt seats r).length:=by
 rw[gj _ _ _ _ h1]
 by_cases c:R=r
 ·subst c; rw[if_pos rfl,clrL_len' _ _ _ _ h2]
 ·rw[if_neg c]
theorem xT {l:List (List Int)}{r:Nat}(h:r < l.length):gt (l.map List.length) r=(gt l r).length:=by
 rw[cC (by rw[List.length_map]; exact h),cC h]; simp
theorem JX {seats:List (List Int)}{R S Z:Nat}{n:Int}(h1:R < seats.length)(h2:S+Z≤(gt seats R).length):
  (seats.set R (cS (gt seats R) S Z n)).map List.length=seats.map List.length:=by
 refine mA (by simp) fun i hi=>?_
 simp only[List.length_map,List.length_set]at hi
 rw[xT (by simpa using hi),xT hi,jL h1 h2]
theorem IM.ask {lens:List Nat}{x:HM}(h:IM lens x){n:Int}{sz:Nat}{at':Int}(hn:0≤n∧n≤99)(hz:1≤sz∧sz≤12)(ha:0≤at'∧at'≤9999):IM lens (sV x n sz at'):=by
 unfold sV
 by_cases h0:(x.2.1 n).1=0
 ·rw[if_pos h0]
  have hnh:¬ held (x.2.1 n):=by
   rintro(e | e)
   ·rw[h0]at e; cases e
   ·rw[h0]at e; cases e
  cases hb:bO x.1 sz with
  | none=>
   simp only
   have hne:∀ m,m≠n→eY x.2.1 n (1,-1,-1,(sz:Int),at') m=x.2.1 m:=fun m hm=>if_neg hm
   have heq:eY x.2.1 n (1,-1,-1,(sz:Int),at') n=(1,-1,-1,(sz:Int),at'):=if_pos rfl
   have hnh2:¬ held ((1,-1,-1,(sz:Int),at'):fo):=by
    rintro(e | e)
    ·exact absurd (show(1:Int)=2 from e) (by decide)
    ·exact absurd (show(1:Int)=3 from e) (by decide)
   refine⟨h.shp,fun m hm=>?_,fun r i hr hi=>?_,fun m hm=>?_,fun m=>?_⟩
   ·by_cases c:m=n
    ·subst c; simp only[heq]at hm; exact absurd hm hnh2
    ·simp only[hne m c]at hm ⊢; exact h.own m hm
   ·rcases h.occ r i hr hi with e | e
    ·exact .inl e
    ·right
     simp only
     rw[hne _ fun c=>hnh (c▸e)]
     exact e
   ·simp only; rw[hne m (by omega)]; exact h.dom m hm
   ·by_cases c:m=n
    ·subst c
     simp only[heq]
     exact .inr ⟨by omega,by omega,.inr ⟨trivial,trivial⟩,ha.1,ha.2⟩
    ·simp only[hne m c]; exact h.st m
  | some c=>
   obtain⟨R,S⟩:=c
   simp only
   obtain⟨b1,b2,b3⟩:=Aw hb
   simp only at b1 b2 b3
   have hfree:=JW.1 b3
   have hne:∀ m,m≠n→eY x.2.1 n (2,(R:Int),(S:Int),(sz:Int),at') m=x.2.1 m:=fun m hm=>if_neg hm
   have heq:eY x.2.1 n (2,(R:Int),(S:Int),(sz:Int),at') n=(2,(R:Int),(S:Int),(sz:Int),at'):=if_pos rfl
   have hcell:∀ r i,r < x.1.length→i < (gt x.1 r).length→gt (gt x.1 r) i≠n:=fun r i hr hi e=>by
    rcases h.occ r i hr hi with q | q
    ·omega
    ·exact hnh (e▸q)
   refine⟨by rw[← h.shp]; exact JX b1 b2,fun m hm=>?_,fun r i hr hi=>?_,fun m hm=>?_,fun m=>?_⟩
   ·by_cases c:m=n
    ·subst c
     simp only[heq]
     refine⟨R,S,sz,rfl,rfl,rfl,⟨by rw[List.length_set]; exact b1,by rw[jL b1 b2]; exact b2,fun r i hr hi=>?_⟩,hz⟩
     rw[List.length_set]at hr
     rw[jL b1 b2]at hi
     rw[pu b1 b2 hr hi]
     by_cases q:r=R∧S≤i∧i < S+sz
     ·rw[if_pos q]; exact⟨fun _=>q,fun _=>rfl⟩
     ·rw[if_neg q]; exact⟨fun e=>absurd e (hcell r i hr hi),fun e=>absurd e q⟩
    ·simp only[hne m c]at hm ⊢
     obtain⟨R',S',Z',e1,e2,e3,⟨o1,o2,o3⟩,e5⟩:=h.own m hm
     have hm0:=gV h hm
     refine⟨R',S',Z',e1,e2,e3,⟨by rw[List.length_set]; exact o1,by rw[jL b1 b2]; exact o2,fun r i hr hi=>?_⟩,e5⟩
     rw[List.length_set]at hr
     rw[jL b1 b2]at hi
     rw[pu b1 b2 hr hi,← o3 r i hr hi]
     by_cases q:r=R∧S≤i∧i < S+sz
     ·rw[if_pos q]
      obtain⟨rfl,q2,q3⟩:=q
      rw[hfree i q2 q3]
      exact⟨fun e=>absurd e.symm c,fun e=>by omega⟩
     ·rw[if_neg q]
   ·rw[List.length_set]at hr
    simp only[jL b1 b2]at hi
    simp only[pu b1 b2 hr hi]
    by_cases q:r=R∧S≤i∧i < S+sz
    ·rw[if_pos q]; right; rw[heq]; exact .inl rfl
    ·rw[if_neg q]
     rcases h.occ r i hr hi with e | e
     ·exact .inl e
     ·right; rw[hne _ (hcell r i hr hi)]; exact e
   ·simp only; rw[hne m (by omega)]; exact h.dom m hm
   ·by_cases c:m=n
    ·subst c
     simp only[heq]
     exact .inr ⟨by omega,by omega,.inl (.inl rfl),ha.1,ha.2⟩
    ·simp only[hne m c]; exact h.st m
 ·rw[if_neg h0]; exact h
theorem IM.hear {lens:List Nat}{x:HM}(h:IM lens x){c:aq}(hc:aY c):IM lens (dD x c):=by
 unfold dD
 obtain⟨h1,h2,h3,h4⟩:=hc
 by_cases k1:c.2.2.1=1
 ·rw[if_pos k1]
  exact h.ask h4 (by omega) h2
 ·rw[if_neg k1]
  by_cases k2:c.2.2.1=2
  ·rw[if_pos k2]; exact h.pay _
  ·rw[if_neg k2]; exact h.drp _
def gP (pool:List eu)(n:Int):fo:=(aP pool n).getD vO
structure PK (pool:List eu) (g:Int→fo):Prop where
 nd:(pool.map (·.1)).Nodup
 eq:∀ n,gP pool n=g n
 pos:∀ n o,aP pool n=some o→0≤n
theorem IM.len {lens:List Nat}{x:HM}(h:IM lens x):x.1.length=lens.length:=by rw[← h.shp,List.length_map]
theorem IM.row {lens:List Nat}{x:HM}(h:IM lens x)(sm:∀ k∈lens,k≤12){r:Nat}(hr:r < x.1.length):(gt x.1 r).length≤12:=by
 rw[← xT hr,h.shp]
 exact sm _ (cU (by rw[← h.len]; exact hr))
theorem PK.get {pool:List eu}{g:Int→fo}(k:PK pool g){n:Int}{o:fo}(h:aP pool n=some o):g n=o:=by
 rw[← k.eq n]; unfold gP; rw[h]; rfl
theorem PK.inv {lens:List Nat}{x:HM}{pool:List eu}(h:IM lens x)(k:PK pool x.2.1)(sm:∀ k∈lens,k≤12):Inv x.1 pool:=by
 refine⟨fun r hr=>by have:=h.row sm hr; omega,fun n o ho hs=>?_,fun n o ho=>?_⟩
 ·have e:=k.get ho
  have hh:held (x.2.1 n):=by rw[e]; exact hs
  have hd:=gV h hh
  obtain⟨R,S,Z,e1,e2,e3,e4,e5⟩:=h.own n hh
  rw[e]at e1 e2 e3
  exact⟨by omega,R,S,Z,e1,e2,e3,e4⟩
 ·have e:=k.get ho
  rcases h.st n with q | ⟨q1,q2,q3,q4,q5⟩
  ·rw[← e,q]; exact⟨by decide,by decide⟩
  ·rw[e]at q4 q5; exact⟨q4,by omega⟩
theorem Ax (hold minute:Int)(pool:List eu)(n:Int):cF hold minute pool n=dh hold minute (gP pool n):=by
 unfold cF gP
 cases aP pool n with
 | some o=>rfl
 | none=>rfl
theorem vg {hold minute:Int}{pool:List eu}{n:Int}(h:cF hold minute pool n=true):n∈pool.map (·.1):=by
 unfold cF at h
 cases hc:aP pool n with
 | none=>rw[hc]at h; cases h
 | some o=>
  rw[aP]at hc
  obtain⟨x,h1,h2⟩:=Option.map_eq_some_iff.1 hc
  have:=List.find?_some h1
  have e:x.1=n:=of_decide_eq_true this
  rw[← e]
  exact List.mem_map_of_mem (List.mem_of_find?_eq_some h1)
theorem BU (d:Int→Bool)(q:List Int)(pool:List eu):(dA d q pool).map (·.1)=pool.map (·.1):=by
 unfold dA
 rw[List.map_map]
 rfl
theorem PK.lap {pool:List eu}{g:Int→fo}(k:PK pool g)(hold minute:Int):PK (dA (cF hold minute pool) (pool.map (·.1)) pool) (lapG hold minute g):=by
 refine⟨by rw[BU]; exact k.nd,fun n=>?_,fun n o ho=>?_⟩
 ·unfold lapG
  rw[← k.eq n]
  unfold gP
  rw[jK]
  have hk:=@vg hold minute pool n
  unfold cF at hk
  cases hc:aP pool n with
  | none=>rfl
  | some o=>
   rw[hc]at hk
   show(if n∈pool.map (·.1)∧cF hold minute pool n=true then gU o else o)=_
   rw[Ax]
   unfold gP
   rw[hc]
   by_cases c:dh hold minute o=true
   ·rw[if_pos ⟨hk c,c⟩]
    show gU o=if dh hold minute o=true then gU o else o
    rw[if_pos c]
   ·rw[if_neg fun e=>c e.2]
    show o=if dh hold minute o=true then gU o else o
    rw[if_neg c]
 ·rw[jK]at ho
  cases hc:aP pool n with
  | none=>rw[hc]at ho; cases ho
  | some o'=>exact k.pos n o' hc
theorem Ok {lens:List Nat}{x:HM}{pool:List eu}{rows:List Int}{hold minute:Int}(h:IM lens x)(k:PK pool x.2.1)(sm:∀ k∈lens,k≤12)(hh:0≤hold∧hold≤100000):
  ∃ pool',P83 (minute,rows,hold,x.1,x.2.2,pool)=some (rows,hold,(dR hold minute x).1,(dR hold minute x).2.2,pool')∧PK pool' (dR hold minute x).2.1:=by
 refine⟨dA (cF hold minute pool) (pool.map (·.1)) pool,?_,k.lap hold minute⟩
 rw[(Sr (k.inv h sm) hh k.nd (fun n o ho=>by have:=k.pos n o ho; omega)).1]
 have e:fO (cF hold minute pool) (pool.map (·.1)) x.1=(dR hold minute x).1:=by
  unfold fO dR
  refine List.map_congr_left fun l _=>List.map_congr_left fun v _=>?_
  unfold pq
  rw[← k.eq v,← Ax]
  by_cases c:cF hold minute pool v=true
  ·rw[if_pos ⟨vg c,c⟩,if_pos c]
  ·rw[if_neg fun e=>c e.2,if_neg c]
 rw[e]
 rfl
theorem sX {pool:List eu}{g:Int→fo}(k:PK pool g)(n:Int):aP (pZ pool n) n=some (g n):=by
 rw[← k.eq n]
 unfold pZ gP
 cases hc:aP pool n with
 | some o=>rw[if_pos (show(some o).isSome=true from rfl),hc]; rfl
 | none=>
  rw[if_neg (by decide),eg,hc,if_neg (by decide),aU,if_pos rfl]
  rfl
theorem n8 {pool:List eu}{g:Int→fo}(k:PK pool g)(n:Int):pZ (pZ pool n) n=pZ pool n:=by
 have:=sX k n
 show(if(aP (pZ pool n) n).isSome=true then pZ pool n else pZ pool n++[(n,(0,-1,-1,0,0))])=_
 rw[this]
 rfl
theorem PK.of {pool:List eu}{g:Int→fo}(k:PK pool g){n:Int}(hn:0≤n):PK (pZ pool n) g:=by
 unfold pZ
 cases hc:aP pool n with
 | some o=>rw[if_pos (show(some o).isSome=true from rfl)]; exact k
 | none=>
  rw[if_neg (by decide)]
  refine⟨?_,fun m=>?_,fun m o ho=>?_⟩
  ·rw[List.map_append,List.nodup_append]
   refine⟨k.nd,by simp,fun a ha b hb=>?_⟩
   simp only[List.map_cons,List.map_nil,List.mem_singleton]at hb
   subst hb
   intro e
   subst e
   exact jC hc ha
  ·rw[← k.eq m]
   unfold gP
   rw[eg]
   cases hm:aP pool m with
   | some o=>rfl
   | none=>
    rw[if_neg (by decide),aU]
    by_cases c:n=m
    ·rw[if_pos c]; rfl
    ·rw[if_neg c]; rfl
  ·rw[eg]at ho
   cases hm:aP pool m with
   | some o'=>exact k.pos m o' hm
   | none=>
    rw[hm,if_neg (by decide),aU]at ho
    by_cases c:n=m
    ·omega
    ·rw[if_neg c]at ho; cases ho
theorem PK.put {pool:List eu}{g:Int→fo}(k:PK pool g){n:Int}{o:fo}(h:aP pool n=some o)(o':fo):PK (dI pool n o') (eY g n o'):=by
 refine⟨by rw[mj _ _ _ (by rw[h]; rfl)]; exact k.nd,fun m=>?_,fun m q hq=>?_⟩
 ·unfold gP eY
  rw[ef]
  by_cases c:n=m
  ·rw[if_pos c,if_pos c.symm]; rfl
  ·rw[if_neg c,if_neg fun e=>c e.symm]; exact k.eq m
 ·rw[ef]at hq
  by_cases c:n=m
  ·rw[← c]; exact k.pos n o h
  ·rw[if_neg c]at hq; exact k.pos m q hq
theorem vh:P111v1=P111:=by
 unfold P111v1 P111 Ff Vx
 rfl
theorem Ss {lens:List Nat}{x:HM}{pool:List eu}{rows:List Int}{hold:Int}(h:IM lens x)(k:PK pool x.2.1)(sm:∀ k∈lens,k≤12){n:Int}(hn:held (x.2.1 n))(hp:aP pool n=some (x.2.1 n)):
  ∃ pool',P111v1 (n,5,rows,hold,pool,x.1,x.2.2)=some (rows,hold,pool',(kN x n).1,x.2.2)∧PK pool' (kN x n).2.1:=by
 obtain⟨R,S,Z,e1,e2,e3,e4,e5⟩:=h.own n hn
 have ho:aP pool n=some ((x.2.1 n).1,(R:Int),(S:Int),(Z:Int),(x.2.1 n).2.2.2.2):=by rw[hp,← e1,← e2,← e3]
 refine⟨_,by rw[vh,At ho e4.1 e4.2.1 (by have:=h.row sm e4.1; omega),Gt e4]; unfold kN; rw[if_pos hn],?_⟩
 have:=k.put hp (5,-1,-1,(Z:Int),(x.2.1 n).2.2.2.2)
 unfold kN
 rw[if_pos hn,e3]
 exact this
theorem vi (seats:List (List Int))(n:Nat):nc seats n=(match bO seats n with
  | some c=>((0,(c.1:Int),(c.2:Int),(n:Int)),true)
  | none=>((0,0,0,0),false)):=G0 seats n
theorem P84_M {lens:List Nat}{x:HM}{pool:List eu}{rows:List Int}{hold:Int}{c:aq}(h:IM lens x)(k:PK pool x.2.1)(sm:∀ k∈lens,k≤12)(sl:lens.length≤30)(hc:aY c)(hv:x.2.2.length≤1000):
  ∃ pool',P84 (c,rows,hold,x.1,x.2.2,pool)=some (rows,hold,(dD x c).1,(dD x c).2.2,pool')∧PK pool' (dD x c).2.1:=by
 obtain⟨id,at',kind,n,size⟩:=c
 obtain⟨h1,h2,h3,h4⟩:=hc
 simp only at h1 h2 h3 h4
 have hlen:=h.len
 have kO:=k.of h4.1 (n:=n)
 have hg:=sX k n
 have e:P84 ((id,at',kind,n,size),rows,hold,x.1,x.2.2,pool)=q84 nu pR P111v1 (id,at',kind,n,size) rows hold x.1 x.2.2 pool:=rfl
 rw[e]
 unfold q84 dD
 try unfold Gl
 try unfold Gk
 try unfold Ch
 try unfold Cg
 try unfold xQ
 try unfold pd
 have hd:wn (aP (pZ pool n) n) (0,(0,(0,(0,0))))=x.2.1 n:=by rw[hg]; rfl
 simp only[pp,bind_some',hd]
 rcases h3 with⟨rfl,z1,z2⟩ | ⟨hk,rfl⟩
 ·obtain⟨sz,rfl⟩:∃ sz:Nat,size=(sz:Int):=⟨size.toNat,by omega⟩
  simp only[decide_true,cond_true,if_true,Int.toNat_natCast]
  have hoo:aP (pZ (pZ pool n) n) n=some (x.2.1 n):=by rw[n8 k]; exact hg
  unfold sV
  by_cases h0:(x.2.1 n).1=0
  ·have hu:x.2.1 n=vO:=by
    rcases h.st n with q | ⟨q1,_⟩
    ·exact q
    ·omega
   rw[if_pos h0]
   have hbm:=vi x.1 sz
   cases hb:bO x.1 sz with
   | none=>
    rw[hb]at hbm
    rw[JU hoo h0 (fun r hr=>by have:=h.row sm hr; omega) (by omega) (by omega) (by rw[hbm]),bind_some',n8 k,hu]
    exact⟨_,rfl,kO.put hg _⟩
   | some c=>
    obtain⟨R,S⟩:=c
    rw[hb]at hbm
    obtain⟨b1,b2,_⟩:=Aw hb
    rw[Gw hoo h0 (fun r hr=>by have:=h.row sm hr; omega) (by omega) (by omega) hbm b1 b2,bind_some',n8 k]
    exact⟨_,rfl,kO.put hg _⟩
  ·rw[if_neg h0,Gv hoo h0,bind_some',n8 k]
   exact⟨_,rfl,kO⟩
 ·have k1:kind≠1:=by omega
  rw[decide_eq_false k1,cond_false,if_neg k1]
  rcases hk with rfl | rfl
  ·simp only[decide_true,cond_true,if_true]
   unfold pr
   by_cases hh:(x.2.1 n).1=2
   ·rw[if_pos hh,decide_eq_true hh,cond_true]
    exact⟨_,rfl,kO.put hg _⟩
   ·rw[if_neg hh,decide_eq_false hh,cond_false,aE (dC (by simp; omega))]
    exact⟨_,rfl,kO⟩
  ·rw[show decide ((3:Int)=2)=false from rfl,cond_false,cond_false,if_neg (by decide)]
   by_cases hh:held (x.2.1 n)
   ·obtain⟨pool',e1,e2⟩:=Ss (rows:=rows) (hold:=hold) h kO sm hh hg
    refine⟨pool',?_,e2⟩
    rw[e1]
    have hv:(kN x n).2.2=x.2.2:=by unfold kN; rw[if_pos hh]
    rw[hv]
    rcases hh with hh | hh
    ·rw[decide_eq_true hh]; rfl
    ·rw[hh]; rfl
   ·have n2:(x.2.1 n).1≠2:=fun e=>hh (.inl e)
    have n3:(x.2.1 n).1≠3:=fun e=>hh (.inr e)
    rw[decide_eq_false n2,decide_eq_false n3]
    unfold kN
    rw[if_neg hh]
    exact⟨_,rfl,kO⟩
def iJ (o:fo):vI:=(o.1,o.2.1,o.2.2.1,o.2.2.2.1)
structure RK (pl:List vI) (sn:List Int) (g:Int→fo):Prop where
 pln:pl.length=100
 snn:sn.length=100
 eq:∀ i:Nat,i < 100→gt pl i=iJ (g (i:Int))
 sne:∀ i:Nat,i < 100→(g (i:Int)).1=2→gt sn i=(g (i:Int)).2.2.2.2
 snb:∀ i:Nat,i < 100→0≤gt sn i∧gt sn i≤9999
theorem RK.due {pl:List vI}{sn:List Int}{g:Int→fo}(k:RK pl sn g)(hold minute:Int){i:Nat}(hi:i < 100):Sq hold minute pl sn i=dh hold minute (g (i:Int)):=by
 unfold Sq dh
 rw[k.eq i hi]
 show(decide ((g (i:Int)).1=2)&&_)=_
 by_cases c:(g (i:Int)).1=2
 ·rw[k.sne i hi c]
 ·rw[decide_eq_false c]; rfl
theorem RK.lap {lens:List Nat}{x:HM}(h:IM lens x){pl:List vI}{sn:List Int}(k:RK pl sn x.2.1)(hold minute:Int):RK (Gr (Sq hold minute pl sn) pl pl.length) sn (lapG hold minute x.2.1):=by
 refine⟨by rw[Gs]; exact k.pln,k.snn,fun i hi=>?_,fun i hi hs=>?_,k.snb⟩
 ·rw[JT _ _ (by rw[k.pln]; exact hi),k.due hold minute hi,k.eq i hi]
  unfold lapG
  by_cases c:dh hold minute (x.2.1 (i:Int))=true
  ·rw[if_pos ⟨by rw[k.pln]; exact hi,c⟩,if_pos c]; rfl
  ·rw[if_neg fun e=>c e.2,if_neg c]
 ·unfold lapG at hs ⊢
  by_cases c:dh hold minute (x.2.1 (i:Int))=true
  ·rw[if_pos c]at hs; exact absurd hs (by show ¬ ((4:Int)=2); decide)
  ·rw[if_neg c]at hs ⊢; exact k.sne i hi hs
theorem RK.put {pl:List vI}{sn:List Int}{g:Int→fo}(k:RK pl sn g){n:Nat}(hn:n < 100)(o:fo)(sn':List Int)(hs:sn'.length=100)(h1:∀ i,i < 100→i≠n→gt sn' i=gt sn i)(h2:o.1=2→gt sn' n=o.2.2.2.2)(h3:0≤gt sn' n∧gt sn' n≤9999):
  RK (pl.set n (iJ o)) sn' (eY g (n:Int) o):=by
 have hp:=k.pln
 refine⟨by rw[List.length_set]; exact k.pln,hs,fun i hi=>?_,fun i hi hst=>?_,fun i hi=>?_⟩
 ·rw[gj _ _ _ _ (by omega)]
  unfold eY
  by_cases c:n=i
  ·rw[if_pos c,if_pos (by omega)]
  ·rw[if_neg c,if_neg (by omega)]; exact k.eq i hi
 ·unfold eY at hst ⊢
  by_cases c:(i:Int)=(n:Int)
  ·rw[if_pos c]at hst ⊢
   obtain rfl:i=n:=by omega
   exact h2 hst
  ·rw[if_neg c]at hst ⊢
   rw[h1 i hi (by omega)]
   exact k.sne i hi hst
 ·by_cases c:i=n
  ·subst c; exact h3
  ·rw[h1 i hi c]; exact k.snb i hi
section
variable {α:Type} [Inhabited α] [DecidableEq α]
def iS (l:List α):Nat→List α
 | 0=>[]
 | n+1=>if 0 < n∧gt l n=gt l (n-1)then iS l n else iS l n++[gt l n]
theorem fP (l:List α){n:Nat}(h:n < l.length):l.take (n+1)=l.take n++[gt l n]:=by
 rw[List.take_add_one,List.getElem?_eq_getElem h,cC h]; rfl
theorem fQ (l:List α):∀ n,n≤l.length→(∀ k,k+1 < n→gt l (k+1)≠gt l k)→iS l n=l.take n
 | 0,_,_=>by simp[iS]
 | n+1,h,hd=>by
  rw[iS,if_neg,fQ l n (by omega) fun k hk=>hd k (by omega),fP l (by omega)]
  rintro⟨h0,e⟩
  have:=hd (n-1) (by omega)
  rw[show n-1+1=n by omega]at this
  exact this e
theorem sY (l:List α):∀ n,∀ x,x∈iS l n↔∃ k,k < n∧gt l k=x
 | 0,x=>by simp[iS]
 | n+1,x=>by
  rw[iS]
  split
  ·rename_i h
   rw[sY l n]
   constructor
   ·rintro⟨k,hk,e⟩; exact⟨k,by omega,e⟩
   ·rintro⟨k,hk,e⟩
    by_cases hkn:k=n
    ·subst hkn; exact⟨k-1,by omega,by rw[← h.2]; exact e⟩
    ·exact⟨k,by omega,e⟩
  ·rw[List.mem_append,sY l n,List.mem_singleton]
   constructor
   ·rintro(⟨k,hk,e⟩ | e)
    ·exact⟨k,by omega,e⟩
    ·exact⟨n,by omega,e.symm⟩
   ·rintro⟨k,hk,e⟩
    by_cases hkn:k=n
    ·subst hkn; exact .inr e.symm
    ·exact .inl ⟨k,by omega,e⟩
theorem na (l:List α)(x:α):x∈iS l l.length↔x∈l:=by
 rw[sY]
 constructor
 ·rintro⟨k,hk,rfl⟩; exact cU hk
 ·intro h; obtain⟨i,hi,e⟩:=eU h; exact⟨i,hi,e⟩
theorem ddN_asc (K:α→Int)(l:List α)(hs:Sd K l 0 l.length)(hk:∀ a∈l,∀ b∈l,K a=K b→a=b):
  ∀ n,n≤l.length→(iS l n).Pairwise (fun a b=>K a < K b)∧∀ x∈iS l n,K x≤K (gt l (n-1))
 | 0,_=>by simp[iS]
 | n+1,h=>by
  obtain⟨h1,h2⟩:=ddN_asc K l hs hk n (by omega)
  rw[iS,Nat.add_sub_cancel]
  split
  ·rename_i c
   exact⟨h1,fun x hx=>by rw[c.2]; exact h2 x hx⟩
  ·rename_i c
   have hlt:∀ x∈iS l n,K x < K (gt l n):=fun x hx=>by
    have hn:0 < n:=by
     cases n with
     | zero=>simp[iS]at hx
     | succ n=>omega
    have q1:=h2 x hx
    have q2:=hs (n-1) n (by omega) (by omega) (by omega)
    have q3:K (gt l (n-1))≠K (gt l n):=fun e=>c ⟨hn,(hk _ (cU (by omega)) _ (cU (by omega)) e).symm⟩
    omega
   refine⟨?_,fun x hx=>?_⟩
   ·rw[List.pairwise_append]
    refine⟨h1,by simp,fun a ha b hb=>?_⟩
    rw[List.mem_singleton.1 hb]
    exact hlt a ha
   ·rcases List.mem_append.1 hx with q | q
    ·exact Int.le_of_lt (hlt x q)
    ·rw[List.mem_singleton.1 q]; exact Int.le_refl _
theorem vj (l:List α)(w n:Nat)(z:α)(h:w≤l.length):(cS l w n z).take w=l.take w:=by
 unfold cS
 rw[List.take_append_of_le_length (by simp; omega),List.take_take,Nat.min_self]
theorem pw (K:α→Int):∀ {l m:List α},l.Pairwise (fun a b=>K a < K b)→m.Pairwise (fun a b=>K a < K b)→(∀ x,x∈l↔x∈m)→l=m
 | [],[],_,_,_=>rfl
 | [],b::m,_,_,h=>absurd ((h b).2 (by simp)) (by simp)
 | a::l,[],_,_,h=>absurd ((h a).1 (by simp)) (by simp)
 | a::l,b::m,hl,hm,h=>by
  rw[List.pairwise_cons]at hl hm
  have e:a=b:=by
   rcases List.mem_cons.1 ((h a).1 (by simp))with q | q
   ·exact q
   ·rcases List.mem_cons.1 ((h b).2 (by simp))with p | p
    ·exact p.symm
    ·have:=hl.1 b p
     have:=hm.1 a q
     omega
  subst e
  congr 1
  refine pw K hl.2 hm.2 fun x=>?_
  constructor
  ·intro hx
   rcases List.mem_cons.1 ((h x).1 (List.mem_cons_of_mem _ hx))with q | q
   ·subst q; have:=hl.1 _ hx; omega
   ·exact q
  ·intro hx
   rcases List.mem_cons.1 ((h x).2 (List.mem_cons_of_mem _ hx))with q | q
   ·subst q; have:=hm.1 _ hx; omega
   ·exact q
end
theorem Su (a b:aq):((((decide (a.1=b.1)&&decide (a.2.1=b.2.1))&&decide (a.2.2.1=b.2.2.1))&&decide (a.2.2.2.1=b.2.2.2.1))&&decide (a.2.2.2.2=b.2.2.2.2))=decide (a=b):=by
 obtain⟨a1,a2,a3,a4,a5⟩:=a
 obtain⟨b1,b2,b3,b4,b5⟩:=b
 simp only[Prod.mk.injEq]
 by_cases h1:a1=b1 <;> by_cases h2:a2=b2 <;> by_cases h3:a3=b3 <;> by_cases h4:a4=b4 <;> by_cases h5:a5=b5 <;> simp[h1,h2,h3,h4,h5]
theorem Gz (l:List (aq)){r:Nat}(hr:0 < r)(hl:r < l.length)(h1000:l.length≤1000)(he:gt l r=gt l (r-1))(hd:∀ k,k+1 < r→gt l (k+1)≠gt l k):
  ∃ y,E2 ((r:Int),(r:Int),((l.length-r:Nat):Int),1,l)=some y∧∃ w l1,y=(((w:Nat):Int),l1)∧l1.length=l.length∧w≤l.length∧l1.take w=iS l l.length:=by
 refine jI (l.length-r-1) (fun t s=>∃ w l1,s=(((w:Nat):Int),(r:Int),((l.length-r:Nat):Int),((t+1:Nat):Int),l1)∧l1.length=l.length∧w≤r+t∧l1.take w=iS l (r+t+1)∧∀ k,w≤k→gt l1 k=gt l k) _
  ⟨r,l,rfl,rfl,by omega,?_,fun _ _=>rfl⟩ (by omega) ?_ ?_
 ·show l.take r=iS l (r+0+1)
  rw[Nat.add_zero,iS,if_pos ⟨hr,he⟩,fQ l r (by omega) hd]
 ·rintro t s ht ⟨w,l1,rfl,h1,h2,h3,h4⟩
  have q:((t+1:Nat):Int)-1=((t:Nat):Int):=by omega
  have v1:=h4 (r+(t+1)) (by omega)
  have v2:=h4 (r+t) (by omega)
  simp only[EZ,zu,Int.toNat_natCast,bg (show t+1 < l.length-r by omega),cond_true,aN (show t+1 < l.length-r by omega),q,aN (show t < l.length-r by omega),uq (show(0:Int)≤((t:Nat):Int)by omega) (by omega),au,Dh,v1,v2,
   aN (show w < l1.length by omega),aX (show w < 9223372036854775807 by omega),aX (show t+1 < 9223372036854775807 by omega),Su]
  have e0:iS l (r+(t+1)+1)=if 0 < r+(t+1)∧gt l (r+(t+1))=gt l (r+t)then iS l (r+t+1)else iS l (r+t+1)++[gt l (r+(t+1))]:=rfl
  by_cases e:gt l (r+(t+1))=gt l (r+t)
  ·simp only[e,decide_true,Bool.not_true,cond_false]
   exact⟨_,rfl,w,l1,rfl,h1,by omega,by rw[e0,if_pos ⟨by omega,e⟩]; exact h3,h4⟩
  ·simp only[e,decide_false,Bool.not_false,cond_true]
   refine⟨_,rfl,w+1,l1.set w (gt l (r+(t+1))),by simp only[qL],by simpa using h1,by omega,?_,fun k hk=>?_⟩
   ·rw[e0,if_neg fun h=>e h.2,← h3,fP _ (by simp; omega),gj _ _ _ _ (by omega),if_pos rfl]
    congr 1
    exact List.take_set_of_le (Nat.le_refl _)
   ·rw[gj _ _ _ _ (by omega),if_neg (by omega)]; exact h4 k (by omega)
 ·rintro s ⟨w,l1,rfl,h1,h2,h3,h4⟩
  have q:l.length-r-1+1=l.length-r:=by omega
  simp only[EZ,zu,Int.toNat_natCast,q,bF,cond_false]
  refine⟨_,rfl,w,l1,rfl,h1,by omega,?_⟩
  rw[h3]; congr 1; omega
theorem Sv (l:List (aq))(hl:l.length≤1000):tj l=some (iS l l.length):=by
 by_cases hs:l.length < 2
 ·have d:decide ((l.length:Int) < 2)=true:=by simp; omega
  simp only[tj,p82,Vv,d,cond_true]
  rw[fQ l l.length (Nat.le_refl _) (fun k hk=>by omega),List.take_length]
 have d:decide ((l.length:Int) < 2)=false:=by simp; omega
 have h:=iA (step:=fun x=>zx x.1 x.2) (l.length-1) (fun k=>(((k+1:Nat):Int),l)) (fun k=>decide (gt l (k+1)=gt l k)) (fun _=>.inl (iS l l.length)) (.inr l)
  (fun k hk hp=>by
   have q:((k+1:Nat):Int)-1=((k:Nat):Int):=by omega
   simp only[zx,zw,bg (show k+1 < l.length by omega),cond_true,aN (show k+1 < l.length by omega),aN (show k < l.length by omega),q,uq (show(0:Int)≤((k:Nat):Int)by omega) (by omega),au,cz,aX (show k+1 < 9223372036854775807 by omega),Su]
   by_cases e:gt l (k+1)=gt l k
   ·have hd:∀ j,j+1 < k+1→gt l (j+1)≠gt l j:=fun j hj=>by simpa using hp j (by omega)
    obtain⟨y,y1,w,l1,rfl,y2,y3,y4⟩:=Gz l (r:=k+1) (by omega) (by omega) hl e hd
    have c1:(l.length:Int)-((k+1:Nat):Int)=((l.length-(k+1):Nat):Int):=by omega
    have c2:(l1.length:Int)-(w:Int)=((l1.length-w:Nat):Int):=by omega
    have b1:decide ((0:Int)≤((k+1:Nat):Int))=true:=by simp; omega
    have b2:decide (((k+1:Nat):Int)≤(l.length:Int))=true:=by simp; omega
    have b3:∀ n:Nat,decide ((n:Int)≤(n:Int))=true:=fun n=>by simp
    have b4:decide (0 < l.length)=true:=by simp; omega
    have b5:decide ((0:Int)≤(w:Int))=true:=by simp
    have b6:decide ((w:Int)≤(l1.length:Int))=true:=by simp; omega
    have b7:decide (0 < l1.length)=true:=by simp; omega
    simp only[e,decide_true,cond_true,b1,b2,b3,b4,au,c1,Int.toNat_natCast,y1,bind_some',b5,b6,b7,c2,clrL_len' l1 w (l1.length-w) _ (by omega),vj l1 w _ _ (by omega),y4]
   ·simp only[e,decide_false,cond_false]; rfl)
  (fun _=>by
   have d2:decide (((l.length-1+1:Nat):Int) < (l.length:Int))=false:=by simp; omega
   simp only[zx,zw,d2,cond_false]) (by omega)
 rcases h with⟨k,hk,h1,h2,h3⟩ | ⟨h2,h3⟩
 ·have e:zy (1,l)=some (.inl (iS l l.length)):=h3
  simp only[tj,p82,Vv,d,cond_false,e,bind_some',elim_inl]
 ·have e:zy (1,l)=some (.inr l):=h3
  simp only[tj,p82,Vv,d,cond_false,e,bind_some',elim_inr]
  rw[fQ l l.length (Nat.le_refl _) (fun k hk=>by simpa using h2 k (by omega)),List.take_length]
theorem GA (l:List (Int)){r:Nat}(hr:0 < r)(hl:r < l.length)(h1000:l.length≤1000)(he:gt l r=gt l (r-1))(hd:∀ k,k+1 < r→gt l (k+1)≠gt l k):
  ∃ y,F7 ((r:Int),(r:Int),((l.length-r:Nat):Int),1,l)=some y∧∃ w l1,y=(((w:Nat):Int),l1)∧l1.length=l.length∧w≤l.length∧l1.take w=iS l l.length:=by
 refine jI (l.length-r-1) (fun t s=>∃ w l1,s=(((w:Nat):Int),(r:Int),((l.length-r:Nat):Int),((t+1:Nat):Int),l1)∧l1.length=l.length∧w≤r+t∧l1.take w=iS l (r+t+1)∧∀ k,w≤k→gt l1 k=gt l k) _
  ⟨r,l,rfl,rfl,by omega,?_,fun _ _=>rfl⟩ (by omega) ?_ ?_
 ·show l.take r=iS l (r+0+1)
  rw[Nat.add_zero,iS,if_pos ⟨hr,he⟩,fQ l r (by omega) hd]
 ·rintro t s ht ⟨w,l1,rfl,h1,h2,h3,h4⟩
  have q:((t+1:Nat):Int)-1=((t:Nat):Int):=by omega
  have v1:=h4 (r+(t+1)) (by omega)
  have v2:=h4 (r+t) (by omega)
  simp only[F6,zR,Int.toNat_natCast,bg (show t+1 < l.length-r by omega),cond_true,aN (show t+1 < l.length-r by omega),q,aN (show t < l.length-r by omega),uq (show(0:Int)≤((t:Nat):Int)by omega) (by omega),au,Dh,v1,v2,
   aN (show w < l1.length by omega),aX (show w < 9223372036854775807 by omega),aX (show t+1 < 9223372036854775807 by omega),Su]
  have e0:iS l (r+(t+1)+1)=if 0 < r+(t+1)∧gt l (r+(t+1))=gt l (r+t)then iS l (r+t+1)else iS l (r+t+1)++[gt l (r+(t+1))]:=rfl
  by_cases e:gt l (r+(t+1))=gt l (r+t)
  ·simp only[e,decide_true,Bool.not_true,cond_false]
   exact⟨_,rfl,w,l1,rfl,h1,by omega,by rw[e0,if_pos ⟨by omega,e⟩]; exact h3,h4⟩
  ·simp only[e,decide_false,Bool.not_false,cond_true]
   refine⟨_,rfl,w+1,l1.set w (gt l (r+(t+1))),by simp only[qL],by simpa using h1,by omega,?_,fun k hk=>?_⟩
   ·rw[e0,if_neg fun h=>e h.2,← h3,fP _ (by simp; omega),gj _ _ _ _ (by omega),if_pos rfl]
    congr 1
    exact List.take_set_of_le (Nat.le_refl _)
   ·rw[gj _ _ _ _ (by omega),if_neg (by omega)]; exact h4 k (by omega)
 ·rintro s ⟨w,l1,rfl,h1,h2,h3,h4⟩
  have q:l.length-r-1+1=l.length-r:=by omega
  simp only[F6,zR,Int.toNat_natCast,q,bF,cond_false]
  refine⟨_,rfl,w,l1,rfl,h1,by omega,?_⟩
  rw[h3]; congr 1; omega
theorem Sw (l:List (Int))(hl:l.length≤1000):Ca l=some (iS l l.length):=by
 by_cases hs:l.length < 2
 ·have d:decide ((l.length:Int) < 2)=true:=by simp; omega
  simp only[Ca,p45,WM,d,cond_true]
  rw[fQ l l.length (Nat.le_refl _) (fun k hk=>by omega),List.take_length]
 have d:decide ((l.length:Int) < 2)=false:=by simp; omega
 have h:=iA (step:=fun x=>zT x.1 x.2) (l.length-1) (fun k=>(((k+1:Nat):Int),l)) (fun k=>decide (gt l (k+1)=gt l k)) (fun _=>.inl (iS l l.length)) (.inr l)
  (fun k hk hp=>by
   have q:((k+1:Nat):Int)-1=((k:Nat):Int):=by omega
   simp only[zT,zS,bg (show k+1 < l.length by omega),cond_true,aN (show k+1 < l.length by omega),aN (show k < l.length by omega),q,uq (show(0:Int)≤((k:Nat):Int)by omega) (by omega),au,cz,aX (show k+1 < 9223372036854775807 by omega),Su]
   by_cases e:gt l (k+1)=gt l k
   ·have hd:∀ j,j+1 < k+1→gt l (j+1)≠gt l j:=fun j hj=>by simpa using hp j (by omega)
    obtain⟨y,y1,w,l1,rfl,y2,y3,y4⟩:=GA l (r:=k+1) (by omega) (by omega) hl e hd
    have c1:(l.length:Int)-((k+1:Nat):Int)=((l.length-(k+1):Nat):Int):=by omega
    have c2:(l1.length:Int)-(w:Int)=((l1.length-w:Nat):Int):=by omega
    have b1:decide ((0:Int)≤((k+1:Nat):Int))=true:=by simp; omega
    have b2:decide (((k+1:Nat):Int)≤(l.length:Int))=true:=by simp; omega
    have b3:∀ n:Nat,decide ((n:Int)≤(n:Int))=true:=fun n=>by simp
    have b4:decide (0 < l.length)=true:=by simp; omega
    have b5:decide ((0:Int)≤(w:Int))=true:=by simp
    have b6:decide ((w:Int)≤(l1.length:Int))=true:=by simp; omega
    have b7:decide (0 < l1.length)=true:=by simp; omega
    simp only[e,decide_true,cond_true,b1,b2,b3,b4,au,c1,Int.toNat_natCast,y1,bind_some',b5,b6,b7,c2,clrL_len' l1 w (l1.length-w) _ (by omega),vj l1 w _ _ (by omega),y4]
   ·simp only[e,decide_false,cond_false]; rfl)
  (fun _=>by
   have d2:decide (((l.length-1+1:Nat):Int) < (l.length:Int))=false:=by simp; omega
   simp only[zT,zS,d2,cond_false]) (by omega)
 rcases h with⟨k,hk,h1,h2,h3⟩ | ⟨h2,h3⟩
 ·have e:zU (1,l)=some (.inl (iS l l.length)):=h3
  simp only[Ca,p45,WM,d,cond_false,e,bind_some',elim_inl]
 ·have e:zU (1,l)=some (.inr l):=h3
  simp only[Ca,p45,WM,d,cond_false,e,bind_some',elim_inr]
  rw[fQ l l.length (Nat.le_refl _) (fun k hk=>by simpa using h2 k (by omega)),List.take_length]
def kc (c:aq):Int:=c.2.1*100+c.1
theorem Ol {a b:aq}(ha:aY a)(hb:aY b):kc a < kc b↔a.2.1 < b.2.1∨(a.2.1=b.2.1∧a.1 < b.1):=by
 have h1:=ha.1
 have h2:=hb.1
 unfold kc
 omega
theorem GB {a b:aq}(ha:aY a)(hb:aY b)(h:kc a=kc b):a.1=b.1:=by
 have h1:=ha.1
 have h2:=hb.1
 unfold kc at h
 omega
theorem GC {l m:List aq}{i k:Nat}{at':Int}{kn:Bool}(hi:i < l.length)(hk:k < m.length)(hm:m.length≤1000)(ha:aY (gt m k))(hb:aY (gt l i)):
  rj l m (i:Int) at' kn (k:Int)=some (.inl (l,m,(i:Int),(if kc (gt m k) < kc (gt l i)then(k:Int)+1 else at'),(kn||decide (gt m k=gt l i)),(k:Int)+1)):=by
 unfold rj
 have f:ah .i64 ((k:Int)+1)=true:=aX (by omega)
 simp only[bg hk,cond_true,aN hk,aN hi,au,cz,f,Su]
 have hlt:=Ol ha hb
 by_cases h1:(gt m k).2.1 < (gt l i).2.1
 ·rw[if_pos (hlt.2 (.inl h1)),decide_eq_true h1]
  cases kn <;> rfl
 ·rw[decide_eq_false h1]
  by_cases h2:(gt m k).2.1=(gt l i).2.1
  ·rw[decide_eq_true h2]
   by_cases h3:(gt m k).1 < (gt l i).1
   ·rw[if_pos (hlt.2 (.inr ⟨h2,h3⟩)),decide_eq_true h3]
    cases kn <;> rfl
   ·rw[if_neg (fun h=>(hlt.1 h).elim h1 fun h=>h3 h.2),decide_eq_false h3]
    cases kn <;> rfl
  ·rw[if_neg (fun h=>(hlt.1 h).elim h1 fun h=>h2 h.1),decide_eq_false h2]
   cases kn <;> rfl
theorem GD {l m:List aq}{i:Nat}(hi:i < l.length)(hm:m.length≤1000)(ha:∀ x∈m,aY x)(hb:aY (gt l i))(hs:m.Pairwise (fun a b=>kc a < kc b)):
  ∃ w:Nat,∃ kn:Bool,L71_1 (l,m,(i:Int),0,false,0)=some (l,m,(i:Int),(w:Int),kn)∧w≤m.length∧(∀ j,j < m.length→(kc (gt m j) < kc (gt l i)↔j < w))∧(kn=true↔gt l i∈m):=by
 have key:=jI (step:=fun x=>Ni x.1 x.2.1 x.2.2.1 x.2.2.2.1 x.2.2.2.2.1 x.2.2.2.2.2) m.length
  (fun k s=>∃ w:Nat,∃ kn:Bool,s=(l,m,(i:Int),(w:Int),kn,(k:Int))∧w≤k∧(∀ j,j < k→(kc (gt m j) < kc (gt l i)↔j < w))∧(kn=true↔∃ j,j < k∧gt m j=gt l i))
  (fun y=>∃ w:Nat,∃ kn:Bool,y=(l,m,(i:Int),(w:Int),kn)∧w≤m.length∧(∀ j,j < m.length→(kc (gt m j) < kc (gt l i)↔j < w))∧(kn=true↔gt l i∈m))
  (x:=(l,m,(i:Int),0,false,0))
  ⟨0,false,rfl,Nat.le_refl _,fun j hj=>by omega,by constructor <;> simp⟩ (by omega)
  (by
   rintro k s hk ⟨w,kn,rfl,h1,h2,h3⟩
   refine⟨_,GC hi hk hm (ha _ (cU hk)) hb,(if kc (gt m k) < kc (gt l i)then k+1 else w),(kn||decide (gt m k=gt l i)),?_,?_,?_,?_⟩
   ·split <;> simp
   ·split <;> omega
   ·intro j hj
    by_cases c:kc (gt m k) < kc (gt l i)
    ·rw[if_pos c]
     refine⟨fun _=>hj,fun _=>?_⟩
     by_cases e:j=k
     ·rw[e]; exact c
     ·have:=List.pairwise_iff_getElem.1 hs j k (by omega) hk (by omega)
      rw[← cC (show j < m.length by omega),← cC hk]at this
      omega
    ·rw[if_neg c]
     by_cases e:j=k
     ·subst e; exact⟨fun h=>absurd h c,fun h=>by omega⟩
     ·exact h2 j (by omega)
   ·rw[Bool.or_eq_true,h3,decide_eq_true_eq]
    constructor
    ·rintro(⟨j,hj,e⟩ | e)
     ·exact⟨j,by omega,e⟩
     ·exact⟨k,by omega,e⟩
    ·rintro⟨j,hj,e⟩
     by_cases c:j=k
     ·subst c; exact .inr e
     ·exact .inl ⟨j,by omega,e⟩)
  (by
   rintro s ⟨w,kn,rfl,h1,h2,h3⟩
   refine⟨(l,m,(i:Int),(w:Int),kn),?_,w,kn,rfl,h1,h2,?_⟩
   ·show rj l m (i:Int) (w:Int) kn (m.length:Int)=_
    unfold rj
    rw[show decide ((m.length:Int) < (↑(List.length m):Int))=false from bF _,cond_false]
   ·rw[h3]
    constructor
    ·rintro⟨j,hj,e⟩; rw[← e]; exact cU hj
    ·intro h; obtain⟨j,hj,e⟩:=eU h; exact⟨j,hj,e⟩)
 obtain⟨y,h1,w,kn,rfl,h2⟩:=key
 exact⟨w,kn,h1,h2⟩
theorem J0 {m:List aq}{c:aq}{w:Nat}(hw:w≤m.length)(hs:m.Pairwise (fun a b=>kc a < kc b))(h1:∀ j,j < m.length→(kc (gt m j) < kc c↔j < w))(h2:∀ x∈m,kc x≠kc c):
  (m.take w++c::m.drop w).Pairwise (fun a b=>kc a < kc b):=by
 have hs':=hs
 rw[← List.take_append_drop w m,List.pairwise_append]at hs'
 obtain⟨p1,p2,p3⟩:=hs'
 have lo:∀ x∈m.take w,kc x < kc c:=fun x hx=>by
  obtain⟨j,hj,e⟩:=eU hx
  rw[List.length_take]at hj
  rw[ss _ _ _ (by omega)]at e
  rw[← e]
  exact(h1 j (by omega)).2 (by omega)
 have hi:∀ x∈m.drop w,kc c < kc x:=fun x hx=>by
  obtain⟨j,hj,e⟩:=eU hx
  rw[List.length_drop]at hj
  rw[Ia]at e
  have q:=h1 (w+j) (by omega)
  have q2:=h2 x (List.mem_of_mem_drop hx)
  rw[e]at q
  omega
 rw[List.pairwise_append]
 refine⟨p1,List.pairwise_cons.2 ⟨hi,p2⟩,fun a ha b hb=>?_⟩
 rcases List.mem_cons.1 hb with rfl | hb
 ·exact lo a ha
 ·exact p3 a ha b hb
theorem J1 {m:List aq}{c:aq}(w:Nat)(x:aq):x∈m.take w++c::m.drop w↔x=c∨x∈m:=by
 rw[List.mem_append,List.mem_cons]
 constructor
 ·rintro(h | h | h)
  ·exact .inr (List.mem_of_mem_take h)
  ·exact .inl h
  ·exact .inr (List.mem_of_mem_drop h)
 ·rintro(h | h)
  ·exact .inr (.inl h)
  ·rw[← List.take_append_drop w m,List.mem_append]at h
   rcases h with h | h
   ·exact .inl h
   ·exact .inr (.inr h)
def jp (l:List aq):Prop:=∀ a∈l,∀ b∈l,a.1=b.1→a=b
theorem Sx (l:List aq)(hl:l.length≤1000)(hv:∀ c∈l,aY c)(hk:jp l):
  ∃ m,xF l=some m∧m.Pairwise (fun a b=>kc a < kc b)∧(∀ x,x∈m↔x∈l)∧m.length≤l.length:=by
 have key:=jI (step:=fun x=>Nk x.1 x.2.1 x.2.2) l.length
  (fun k s=>∃ m,s=(l,m,(k:Int))∧m.length≤k∧m.Pairwise (fun a b=>kc a < kc b)∧∀ x,x∈m↔x∈l.take k)
  (fun y=>y.Pairwise (fun a b=>kc a < kc b)∧(∀ x,x∈y↔x∈l)∧y.length≤l.length)
  (x:=(l,[],0)) ⟨[],rfl,Nat.le_refl _,by simp,by simp⟩ (by omega)
  (by
   rintro k s hk' ⟨m,rfl,h1,h2,h3⟩
   have hml:∀ x∈m,x∈l:=fun x hx=>List.mem_of_mem_take ((h3 x).1 hx)
   obtain⟨w,kn,e1,e2,e3,e4⟩:=GD hk' (by omega) (fun x hx=>hv x (hml x hx)) (hv _ (cU hk')) h2
   have f:ah .i64 ((k:Int)+1)=true:=aX (by omega)
   have ht:=fP l hk'
   show ∃ s',q71_0 L71_1 l m (k:Int)=some (Sum.inl s')∧_
   unfold q71_0
   rw[show decide ((k:Int) < (↑(List.length l):Int))=true from bg hk',cond_true,e1,bind_some']
   cases kn with
   | true=>
    simp only[Bool.not_true,cond_false]
    rw[aE f]
    refine⟨_,rfl,m,rfl,by omega,h2,fun x=>?_⟩
    rw[h3,ht,List.mem_append,List.mem_singleton]
    constructor
    ·exact .inl
    ·rintro(h | h)
     ·exact h
     ·rw[h]; exact(h3 _).1 (e4.1 rfl)
   | false=>
    simp only[Bool.not_false,cond_true]
    have c1:oL m (w:Int) (m.length:Int)=m.drop w:=by
     unfold oL
     simp[List.take_of_length_le]
    have c2:oL m 0 (w:Int)=m.take w:=by
     unfold oL
     simp
    rw[aE (aN hk'),aE (decide_eq_true (by omega)),aE (decide_eq_true (show(w:Int)≤(↑(List.length m):Int)by omega)),aE (decide_eq_true (Int.le_refl _)),show oL m (w:Int) (↑(List.length m):Int)=m.drop w from c1,c2,cz,
     aE (dC (by simp; omega)),aE (decide_eq_true (Int.le_refl _)),aE (decide_eq_true (by omega)),aE (decide_eq_true (show(w:Int)≤(↑(List.length m):Int)by omega)),aE (dC (by simp; omega)),aE (dC (by simp; omega)),aE f]
    have hn:gt l k∉m:=fun h=>by have:=e4.2 h; cases this
    refine⟨_,rfl,m.take w++gt l k::m.drop w,rfl,by simp; omega,J0 e2 h2 e3 (fun x hx e=>hn ?_),fun x=>?_⟩
    ·rw[← hk x (hml x hx) _ (cU hk') (GB (hv x (hml x hx)) (hv _ (cU hk')) e)]
     exact hx
    ·rw[J1,h3,ht,List.mem_append,List.mem_singleton]
     exact Or.comm)
  (by
   rintro s ⟨m,rfl,h1,h2,h3⟩
   refine⟨m,?_,h2,by rw[List.take_length]at h3; exact h3,h1⟩
   show q71_0 L71_1 l m (l.length:Int)=_
   unfold q71_0
   rw[show decide ((l.length:Int) < (↑(List.length l):Int))=false from bF _,cond_false])
 obtain⟨m,h1,h2,h3⟩:=key
 refine⟨m,?_,h2,h3⟩
 show q71 zX l=_
 unfold q71
 rw[show zX (l,[],0)=some m from h1]
 rfl
namespace Pdq109
abbrev E:=aq
section
variable {β:Type} [Inhabited β] {v:β→E} {C:β→β→Int}
def lt (C:β→β→Int)(x y:β):Bool:=decide (C x y < 0)
theorem vP (x y:β):decide (C x y < 0)=lt C x y:=rfl
theorem eJ (a:Nat):∀ (j:Nat) (d:Array β),(Sort.insInner (lt C) a j d).size=d.size
 | 0,d=>by rw[Sort.insInner]
 | j+1,d=>by
  rw[Sort.insInner]
  split
  ·rw[eJ a j,aw]
  ·rfl
theorem eK (hi first:Nat):∀ (n root:Nat) (d:Array β),hi-root≤n→(Sort.siftDown (lt C) hi first root d).size=d.size:=by
 intro n
 induction n with
 | zero=>intro root d h; rw[Sort.siftDown,dif_pos (by omega)]
 | succ n ih=>
  intro root d h
  rw[Sort.siftDown]
  split
  ·rfl
  ·split
   ·split
    ·rfl
    ·rw[dif_pos (by rename_i h1 h2 h3; simp only[Bool.and_eq_true,decide_eq_true_eq]at h2; omega),ih _ _ (by omega),aw]
   ·split
    ·rfl
    ·rw[ih _ _ (by omega),aw]
theorem dK (hi first:Nat):∀ (k:Nat) (d:Array β),(Sort.heapBuild (lt C) hi first k d).size=d.size
 | 0,d=>rfl
 | k+1,d=>by rw[Sort.heapBuild,dK hi first k,eK hi first _ k d (Nat.le_refl _)]
variable (hC:∀ x y,P80 (v x,v y)=some (C x y))
include hC
theorem S6 {a b i:Nat}{j:Nat}{d:Array β}(h1:j < d.size)(h2:d.size≤250)(h3:a≤250):
  wE ((a:Int),(b:Int),(i:Int),(j:Int),MA v d)=some ((a:Int),(b:Int),(i:Int),MA v (Sort.insInner (lt C) a j d)):=by
 refine aK (fun s r n=>∃ (j:Nat) (d:Array β),j < d.size∧d.size≤250∧s=((a:Int),(b:Int),(i:Int),(j:Int),MA v d)∧r=((a:Int),(b:Int),(i:Int),MA v (Sort.insInner (lt C) a j d))∧n=j) ⟨j,d,h1,h2,rfl,rfl,rfl⟩ (by omega) ?_
 rintro s r n ⟨j,d,q1,q2,rfl,rfl,rfl⟩
 simp only[DE,wD]
 cases n with
 | zero=>left; simp(disch:=omega) only[iH,dF,cond_false,Sort.insInner]
 | succ j=>
  by_cases e:a < j+1
  ·simp(disch:=omega) only[iH,dT,cond_true,aH,au,p1,aI,aR,hC,bind_some',vP,Nat.add_sub_cancel,Int.toNat_natCast]
   cases hl:lt C d[j+1]! d[j]!
   ·left
    rw[show Sort.insInner (lt C) a (j+1) d=d by rw[Sort.insInner]; simp[hl]]
    simp only[cond_false]
   ·right
    rw[show Sort.insInner (lt C) a (j+1) d=Sort.insInner (lt C) a j (Sort.swp d (j+1) j)by rw[Sort.insInner]; simp[hl,e]]
    simp(disch:=omega) only[cond_true,bA,aV,bB,au]
    exact⟨_,j,rfl,⟨j,Sort.swp d (j+1) j,by rw[aw]; omega,by rwa [aw],rfl,rfl,rfl⟩,by omega⟩
  ·left
   rw[show Sort.insInner (lt C) a (j+1) d=d by rw[Sort.insInner]; simp[e]]
   simp(disch:=omega) only[iH,dF,cond_false]
theorem ins {a b:Nat}{d:Array β}(hb:b≤d.size)(hz:d.size≤250)(ha:a≤250):gJ ((a:Int),(b:Int),MA v d)=some (MA v (Sort.insertionSort (lt C) d a b)):=by
 have e:wG ((a:Int),(b:Int),((a+1:Nat):Int),MA v d)=some (MA v (Sort.insOuter (lt C) a b (a+1) d)):=by
  refine aK (fun s r n=>∃ (i:Nat) (d:Array β),b≤d.size∧d.size≤250∧s=((a:Int),(b:Int),(i:Int),MA v d)∧r=MA v (Sort.insOuter (lt C) a b i d)∧n=b-i) ⟨a+1,d,hb,hz,rfl,rfl,rfl⟩ (by omega) ?_
  rintro s r n ⟨i,d,q1,q2,rfl,rfl,rfl⟩
  simp only[DG,wF]
  rw[Sort.insOuter]
  by_cases e:i < b
  ·right
   simp(disch:=omega) only[iH,dT,cond_true,S6 hC,bind_some',aI,au,a1]
   exact⟨_,b-(i+1),rfl,⟨i+1,Sort.insInner (lt C) a i d,by rwa [eJ],by rwa [eJ],rfl,by rw[if_pos e],rfl⟩,by omega⟩
  ·left
   simp(disch:=omega) only[iH,dF,cond_false,if_neg e]
 simp(disch:=omega) only[gJ,UY,P7,aI,au,a1,e,bind_some',Sort.insertionSort]
theorem G2 {lo hi first:Nat}{d:Array β}(hs:first+hi≤d.size)(hl:lo < hi∨hi=0)(hz:d.size≤250)(h0:lo≤250):kH ((lo:Int),(hi:Int),(first:Int),MA v d)=some (MA v (Sort.siftDown (lt C) hi first lo d)):=by
 have key:∃ y,wI ((hi:Int),(first:Int),(lo:Int),MA v d)=some y∧Sum.elim id id y=MA v (Sort.siftDown (lt C) hi first lo d):=by
  refine iB (fun s n=>∃ (root:Nat) (d':Array β),first+hi≤d'.size∧(root < hi∨hi=0)∧d'.size≤250∧root≤250∧s=((hi:Int),(first:Int),(root:Int),MA v d')∧Sort.siftDown (lt C) hi first root d'=Sort.siftDown (lt C) hi first lo d∧n=hi-root) _
   ⟨lo,d,hs,hl,hz,h0,rfl,rfl,rfl⟩ (by omega) ?_
  rintro s n ⟨root,d',g1,g0,g2,g3,rfl,g4,rfl⟩
  rw[← g4]
  clear g4
  simp only[DK,wH]
  rw[Sort.siftDown]
  by_cases e:hi≤2*root+1
  ·left
   simp(disch:=omega) only[m2,aI,au,aI,a1,gY,dT,cond_true,dif_pos (show 2*root+1≥hi from e)]
   exact⟨_,rfl,rfl⟩
  ·simp(disch:=omega) only[m2,aI,au,aI,a1,gY,iH,dF,cond_false,dif_neg (show ¬ 2*root+1≥hi from e),an]
   by_cases e2:2*root+1+1 < hi
   ·simp(disch:=omega) only[dT,cond_true,aI,au,aH,aR,hC,bind_some',vP,Bool.true_and]
    cases hl1:lt C d'[first+(2*root+1)]! d'[first+(2*root+1)+1]!
    ·simp(disch:=omega) only[cond_false,aI,au,aH,aR,hC,bind_some',vP,Bool.false_eq_true,if_false]
     cases hl2:lt C d'[first+root]! d'[first+(2*root+1)]!
     ·left; simp only[Bool.not_false,cond_true,if_true]; exact⟨_,rfl,rfl⟩
     ·right
      simp(disch:=omega) only[Bool.not_true,cond_false,Bool.false_eq_true,if_false,aH,au,Int.toNat_natCast,bA,aV,bB]
      exact⟨_,hi-(2*root+1),rfl,⟨2*root+1,Sort.swp d' (first+root) (first+(2*root+1)),by rw[aw]; omega,by omega,by rw[aw]; omega,by omega,rfl,rfl,rfl⟩,by omega⟩
    ·simp(disch:=omega) only[cond_true,aI,au,aH,aR,hC,bind_some',vP,if_true]
     cases hl2:lt C d'[first+root]! d'[first+(2*root+1+1)]!
     ·left
      have hl2':lt C d'[first+root]! d'[first+(2*root+2)]! = false:=hl2
      simp only[Bool.not_false,cond_true,hl2',if_true]; exact⟨_,rfl,rfl⟩
     ·right
      have hl2':lt C d'[first+root]! d'[first+(2*root+2)]! = true:=hl2
      simp(disch:=omega) only[hl2',Bool.not_true,cond_false,Bool.false_eq_true,if_false,aH,au,Int.toNat_natCast,bA,aV,bB,dif_pos (show 2*root+2 < hi from e2)]
      exact⟨_,hi-(2*root+1+1),rfl,⟨2*root+1+1,Sort.swp d' (first+root) (first+(2*root+2)),by rw[aw]; omega,by omega,by rw[aw]; omega,by omega,rfl,rfl,rfl⟩,by omega⟩
   ·simp(disch:=omega) only[dF,cond_false,aI,au,aH,aR,hC,bind_some',vP,Bool.false_and,Bool.false_eq_true,if_false]
    cases hl2:lt C d'[first+root]! d'[first+(2*root+1)]!
    ·left; simp only[Bool.not_false,cond_true,if_true]; exact⟨_,rfl,rfl⟩
    ·right
     simp(disch:=omega) only[Bool.not_true,cond_false,Bool.false_eq_true,if_false,aH,au,Int.toNat_natCast,bA,aV,bB]
     exact⟨_,hi-(2*root+1),rfl,⟨2*root+1,Sort.swp d' (first+root) (first+(2*root+1)),by rw[aw]; omega,by omega,by rw[aw]; omega,by omega,rfl,rfl,rfl⟩,by omega⟩
 obtain⟨y,e1,e2⟩:=key
 simp only[kH,U0,Qb,e1,bind_some']
 cases y with
 | inl x=>simp only[Sum.elim_inl]; rw[← e2]; rfl
 | inr x=>simp only[Sum.elim_inr]; rw[← e2]; rfl
theorem heap {a b:Nat}{d:Array β}(hab:a < b)(hb:b≤d.size)(hz:d.size≤250):gK ((a:Int),(b:Int),MA v d)=some (MA v (Sort.heapSort (lt C) d a b)):=by
 have c0:∀ k:Nat,(0:Int)=((0:Nat):Int):=fun _=>rfl
 have e1:∀ (k:Nat),k≤b-a→wK ((a:Int),0,((b-a:Nat):Int),(k:Int)-1,MA v d)=some ((a:Int),0,((b-a:Nat):Int),MA v (Sort.heapBuild (lt C) (b-a) a k d)):=fun k hk=>by
  refine aK (fun s r n=>∃ (k:Nat) (d':Array β),k≤b-a∧d'.size=d.size∧s=((a:Int),0,((b-a:Nat):Int),(k:Int)-1,MA v d')∧r=((a:Int),0,((b-a:Nat):Int),MA v (Sort.heapBuild (lt C) (b-a) a k d'))∧n=k) ⟨k,d,hk,rfl,rfl,rfl,rfl⟩ (by omega) ?_
  rintro s r n ⟨k,d',q1,q2,rfl,rfl,rfl⟩
  simp only[DR,wJ]
  cases n with
  | zero=>left; rfl
  | succ k=>
   right
   have g1:((k+1:Nat):Int)-1=(k:Int):=by omega
   have g2:decide ((0:Int)≤(k:Int))=true:=by simp
   simp(disch:=omega) only[g1,g2,cond_true,G2 hC,bind_some',m9,au]
   exact⟨_,k,rfl,⟨k,Sort.siftDown (lt C) (b-a) a k d',by omega,by rw[eK _ _ _ _ _ (Nat.le_refl _),q2],rfl,rfl,rfl⟩,by omega⟩
 have e2:∀ (d:Array β) (k:Nat),k≤b-a→b≤d.size→d.size≤250→wM ((a:Int),0,(k:Int)-1,MA v d)=some (MA v (Sort.heapPop (lt C) a k d)):=fun d k hk hb hz=>by
  refine aK (fun s r n=>∃ (k:Nat) (d':Array β),k≤b-a∧d'.size=d.size∧s=((a:Int),0,(k:Int)-1,MA v d')∧r=MA v (Sort.heapPop (lt C) a k d')∧n=k) ⟨k,d,hk,rfl,rfl,rfl,rfl⟩ (by omega) ?_
  rintro s r n ⟨k,d',q1,q2,rfl,rfl,rfl⟩
  simp only[DT,wL]
  cases n with
  | zero=>left; rfl
  | succ k=>
   right
   have g1:((k+1:Nat):Int)-1=(k:Int):=by omega
   have g2:decide ((0:Int)≤(k:Int))=true:=by simp
   have g3:kH (0,(k:Int),(a:Int),MA v (Sort.swp d' a (a+k)))=some (MA v (Sort.siftDown (lt C) k a 0 (Sort.swp d' a (a+k)))):=G2 hC (lo:=0) (by rw[aw]; omega) (by omega) (by rw[aw]; omega) (by omega)
   simp(disch:=omega) only[g1,g2,cond_true,an,aI,au,aH,aR,Int.toNat_natCast,bA,aV,bB,g3,bind_some',m9]
   exact⟨_,k,rfl,⟨k,Sort.siftDown (lt C) k a 0 (Sort.swp d' a (a+k)),by omega,by rw[eK _ _ _ _ _ (Nat.le_refl _),aw,q2],rfl,rfl,rfl⟩,by omega⟩
 have t1:((b-a-1:Nat):Int)=(b:Int)-(a:Int)-1:=by omega
 have t2:Int.tdiv ((b-a-1:Nat):Int) 2=((b-a-1) / 2:Nat):=B6 _
 have e1':=e1 ((b-a-1) / 2+1) (by omega)
 rw[show(((b-a-1) / 2+1:Nat):Int)-1=(((b-a-1) / 2:Nat):Int)by omega]at e1'
 have e2':=e2 (Sort.heapBuild (lt C) (b-a) a ((b-a-1) / 2+1) d) (b-a) (Nat.le_refl _) (by rw[dK]; exact hb) (by rw[dK]; exact hz)
 simp(disch:=omega) only[gK,U2,Qg,pn,aI,au,p1,t2,e1',bind_some',m9]
 rw[show((b-a-1:Nat):Int)=((b-a:Nat):Int)-1 by omega]
 simp(disch:=omega) only[m9,au,e2',bind_some',Sort.heapSort]
omit hC
theorem G3 {n:Nat}(h:n < 256):P67 (n:Int)=some ((Sort.bitsLen n:Nat):Int):=by
 have f:ah .u8 (n:Int)=true:=by
  rw[ah,decide_eq_true_eq]
  have e2:(2:Int)^8=256:=by decide
  simp only[IntKind.wrap,IntKind.bits,IntKind.signed,Bool.false_and,e2,Bool.false_eq_true,if_false]
  omega
 have d1:decide ((4294967296:Int)≤(n:Int))=false:=by simp; omega
 have d2:decide ((65536:Int)≤(n:Int))=false:=by simp; omega
 have d3:decide ((256:Int)≤(n:Int))=false:=by simp; omega
 simp only[P67,p67,q67,P95,p95,q95,zc,Dx,zb,d1,cond_false,bind_some',d2,d3,f,au]
 have key:∀ m:Fin 256,∀ t:ByteArray,t=tb→aC (m.val:Int) t.size=true∧yB t (m.val:Int)=((Sort.bitsLen m.val:Nat):Int):=by
  intro m t ht
  subst ht
  constructor
  ·exact aN (by have:=m.isLt; exact this)
  ·revert m; decide +kernel
 obtain⟨k1,k2⟩:=key ⟨n,h⟩ _ rfl
 simp only at k1 k2
 have hl:=(Sort.bitsLen_le_iff n 8).2 (by omega)
 have z:(0:Int)+((Sort.bitsLen n:Nat):Int)=((Sort.bitsLen n:Nat):Int):=by omega
 simp(disch:=omega) only[k1,au,k2,z,aI,bind_some']
theorem npt {n:Nat}(h:n < 256):gL (n:Int)=some (((1 <<< Sort.bitsLen n:Nat)):Int):=by
 have hl:=(Sort.bitsLen_le_iff n 8).2 (by omega)
 have f:ah .u64 (n:Int)=true:=m8 (by omega) (by omega)
 have d:decide ((0:Int)≤((Sort.bitsLen n:Nat):Int))=true:=by simp
 have e:gi .u64 1 ((Sort.bitsLen n:Nat):Int)=((1 <<< Sort.bitsLen n:Nat):Int):=by
  have hm:min ((Sort.bitsLen n:Nat):Int).toNat (IntKind.bits .u64)=Sort.bitsLen n:=by show min (Sort.bitsLen n) 64=_; omega
  have h2:2^Sort.bitsLen n≤2^8:=Nat.pow_le_pow_right (by omega) hl
  unfold gi
  rw[hm,show((1:Int)*2^Sort.bitsLen n)=((2^Sort.bitsLen n:Nat):Int)by simp,yU (by omega),Nat.one_shiftLeft]
 simp only[gL,Qj,Iw,f,au,G3 h,bind_some',d,e]
theorem S7 (r:UInt64):gM (r.toNat:Int)=some (((Sort.xorNext r).toNat:Int),((Sort.xorNext r).toNat:Int)):=by
 have s13:∀ a:UInt64,gi .u64 (a.toNat:Int) 13=((a <<< 13).toNat:Int):=fun a=>Ib a 13 (by omega)
 have s7:∀ a:UInt64,bI .u64 (a.toNat:Int) 7=((a >>> 7).toNat:Int):=fun a=>UB a 7 (by omega)
 have s17:∀ a:UInt64,gi .u64 (a.toNat:Int) 17=((a <<< 17).toNat:Int):=fun a=>Ib a 17 (by omega)
 simp only[gM,Qm,Ix,s13,s7,s17,Kq,Sort.xorNext]
theorem brk {a b:Nat}{d:Array β}(hab:a≤b)(hb:b≤d.size)(hz:d.size≤250):gk ((a:Int),(b:Int),MA v d)=some (MA v (Sort.breakPatterns d a b)):=by
 unfold Sort.breakPatterns
 simp only[]
 by_cases h8:8≤b-a
 ·have g8:decide ((8:Int)≤((b-a:Nat):Int))=true:=by simp; omega
  have hm1:1 <<< Sort.bitsLen (b-a)≤2*(b-a):=by rw[Nat.one_shiftLeft]; exact Sort.two_pow_bitsLen_le (by omega)
  have hm0:0 < 1 <<< Sort.bitsLen (b-a):=by rw[Nat.one_shiftLeft]; exact Nat.two_pow_pos _
  generalize hm:1 <<< Sort.bitsLen (b-a)=m at *
  generalize hn:b-a=n at *
  let st:Nat→UInt64×Array β:=fun k=>Nat.rec (UInt64.ofNat n,d) (fun i s=>Sort.breakStep a n m s (a+n / 4*2-1+i)) k
  have hst:∀ k,(st k).2.size=d.size:=fun k=>by
   induction k with
   | zero=>rfl
   | succ k ih=>show(Sort.swp _ _ _).size=_; rw[aw]; exact ih
  have hrun:wO ((a:Int),(n:Int),(m:Int),((a+n / 4*2-1:Nat):Int),MA v d,(n:Int))=some (MA v (st 3).2,((st 3).1.toNat:Int)):=by
   have h0:((UInt64.ofNat n).toNat:Int)=(n:Int):=by rw[UInt64.toNat_ofNat']; omega
   refine bT 3 (fun k=>((a:Int),(n:Int),(m:Int),((a+n / 4*2-1+k:Nat):Int),MA v (st k).2,((st k).1.toNat:Int))) _ (fun k hk=>?_) ?_ (by omega) |> fun h=>by
    have e:((a:Int),(n:Int),(m:Int),((a+n / 4*2-1+0:Nat):Int),MA v (st 0).2,((st 0).1.toNat:Int))=((a:Int),(n:Int),(m:Int),((a+n / 4*2-1:Nat):Int),MA v d,(n:Int)):=by
     show(_,_,_,_,_,((UInt64.ofNat n).toNat:Int))=_
     rw[h0]; rfl
    rw[← e]; exact h
   ·have q4:Int.tdiv (n:Int) 4=((n / 4:Nat):Int):=B6 n
    have q5:((n / 4:Nat):Int)*2=((n / 4*2:Nat):Int):=by omega
    have hsz:=hst k
    generalize hr:st k=s at *
    have hnx:st (k+1)=Sort.breakStep a n m (st k) (a+n / 4*2-1+k):=rfl
    rw[hr]at hnx
    have hlt:=(Sort.xorNext s.1).toNat_lt
    have hbd:(Sort.xorNext s.1).toNat &&& (m-1)≤m-1:=Nat.and_le_right
    have fu:ah .u64 ((m-1:Nat):Int)=true:=m8 (by omega) (by omega)
    simp(disch:=omega) only[wN,sC,q4,aI,au,q5,an,a1,gY,dT,cond_true,S7,bind_some',fu,p1,Kp]
    rw[hnx]
    unfold Sort.breakStep
    simp only[]
    generalize (Sort.xorNext s.1).toNat &&& (m-1)=o at *
    by_cases ho:n≤o
    ·simp(disch:=omega) only[dT,cond_true,pn,aI,au,an,aH,aR,Int.toNat_natCast,bA,aV,bB,if_pos (show o≥n from ho),a1]
     rw[show a+n / 4*2-1+k+1=a+n / 4*2-1+(k+1)by omega]
    ·simp(disch:=omega) only[dF,cond_false,pn,aI,au,an,aH,aR,Int.toNat_natCast,bA,aV,bB,if_neg (show ¬ o≥n from ho),a1]
     rw[show a+n / 4*2-1+k+1=a+n / 4*2-1+(k+1)by omega]
   ·have q4:Int.tdiv (n:Int) 4=((n / 4:Nat):Int):=B6 n
    have q5:((n / 4:Nat):Int)*2=((n / 4*2:Nat):Int):=by omega
    simp(disch:=omega) only[wN,sC,q4,aI,au,q5,an,a1,gY,dF,cond_false]
  have q4:Int.tdiv (n:Int) 4=((n / 4:Nat):Int):=B6 n
  have q5:((n / 4:Nat):Int)*2=((n / 4*2:Nat):Int):=by omega
  have fu:ah .u64 (n:Int)=true:=m8 (by omega) (by omega)
  have hn':(b:Int)-(a:Int)=(n:Int):=by omega
  have hnp:=npt (n:=n) (by omega)
  rw[hm]at hnp
  have hst3:st 3=Sort.breakStep a n m (Sort.breakStep a n m (Sort.breakStep a n m (UInt64.ofNat n,d) (a+n / 4*2-1)) (a+n / 4*2-1+1)) (a+n / 4*2-1+2):=rfl
  rw[hst3]at hrun
  rw[if_pos (show n≥8 from h8)]
  simp(disch:=omega) only[gk,Qp,Iz,hn',aI,au,g8,cond_true,fu,hnp,bind_some',q4,q5,an,p1,hrun]
 ·have g8:decide ((8:Int)≤((b-a:Nat):Int))=false:=by simp; omega
  simp(disch:=omega) only[gk,Qp,Iz,pn,aI,au,g8,cond_false,if_neg (show ¬ b-a≥8 from h8)]
theorem rev {a b:Nat}{d:Array β}(hab:a≤b)(hb1:1≤b)(hb:b≤d.size)(hz:d.size≤250):gO ((a:Int),(b:Int),MA v d)=some (MA v (Sort.reverseRange d a b)):=by
 have e:wQ ((a:Int),((b-1:Nat):Int),MA v d)=some (MA v (Sort.reverseLoop a (b-1) d)):=by
  refine aK (fun s r n=>∃ (i j:Nat) (d:Array β),j < d.size∧d.size≤250∧i≤250∧s=((i:Int),(j:Int),MA v d)∧r=MA v (Sort.reverseLoop i j d)∧n=j-i) ⟨a,b-1,d,by omega,hz,by omega,rfl,rfl,rfl⟩ (by omega) ?_
  rintro s r n ⟨i,j,d,q1,q2,q3,rfl,rfl,rfl⟩
  simp only[Ea,wP]
  by_cases e:i < j
  ·right
   rw[show Sort.reverseLoop i j d=Sort.reverseLoop (i+1) (j-1) (Sort.swp d i j)by rw[Sort.reverseLoop,if_pos e]]
   simp(disch:=omega) only[iH,dT,cond_true,aH,aR,au,Int.toNat_natCast,bA,aV,bB,a1,aI,p1]
   exact⟨_,j-1-(i+1),rfl,⟨i+1,j-1,Sort.swp d i j,by rw[aw]; omega,by rwa [aw],by omega,rfl,rfl,rfl⟩,by omega⟩
  ·left
   rw[show Sort.reverseLoop i j d=d by rw[Sort.reverseLoop,if_neg e]]
   simp(disch:=omega) only[iH,dF,cond_false]
 simp(disch:=omega) only[gO,Vi,QE,p1,aI,au,e,bind_some',Sort.reverseRange]
include hC
theorem ord {a b s:Nat}{d:Array β}(ha:a < d.size)(hb:b < d.size)(hs:s≤250):pQ ((a:Int),(b:Int),MA v d,(s:Int))=some (((Sort.order2 (lt C) d a b s).1:Int),((Sort.order2 (lt C) d a b s).2.1:Int),MA v d,((Sort.order2 (lt C) d a b s).2.2:Int)):=by
 unfold Sort.order2
 simp(disch:=omega) only[pQ,U9,Qs,aH,au,aR,hC,bind_some',vP,a1,aI]
 cases lt C d[b]! d[a]! <;> rfl
theorem S8 {a b c s:Nat}{d:Array β}(ha:a < d.size)(hb:b < d.size)(hc:c < d.size)(hs:s≤200):mD ((a:Int),(b:Int),(c:Int),MA v d,(s:Int))=some (((Sort.median (lt C) d a b c s).1:Int),MA v d,((Sort.median (lt C) d a b c s).2:Int)):=by
 unfold Sort.median
 simp only[]
 have o1:=Sort.order2_mem (lt C) d a b s
 have n1:=Sort.order2_count (lt C) d a b s
 generalize g1:Sort.order2 (lt C) d a b s=r1 at *
 have o2:=Sort.order2_mem (lt C) d r1.2.1 c r1.2.2
 have n2:=Sort.order2_count (lt C) d r1.2.1 c r1.2.2
 generalize g2:Sort.order2 (lt C) d r1.2.1 c r1.2.2=r2 at *
 have e1:pQ ((a:Int),(b:Int),MA v d,(s:Int))=some ((r1.1:Int),(r1.2.1:Int),MA v d,(r1.2.2:Int)):=by rw[ord hC ha hb (by omega),g1]
 have e2:pQ ((r1.2.1:Int),(c:Int),MA v d,(r1.2.2:Int))=some ((r2.1:Int),(r2.2.1:Int),MA v d,(r2.2.2:Int)):=by rw[ord hC (by omega) hc (by omega),g2]
 have e3:=ord hC (d:=d) (a:=r1.1) (b:=r2.1) (s:=r2.2.2) (by omega) (by omega) (by omega)
 simp only[mD,Vb,Qv,e1,e2,e3,bind_some']
theorem S9 {a s:Nat}{d:Array β}(ha:1≤a)(hb:a+1 < d.size)(hz:d.size≤250)(hs:s≤200):sD ((a:Int),MA v d,(s:Int))=some (((Sort.medianAdjacent (lt C) d a s).1:Int),MA v d,((Sort.medianAdjacent (lt C) d a s).2:Int)):=by
 have e:=S8 hC (d:=d) (a:=a-1) (b:=a) (c:=a+1) (s:=s) (by omega) (by omega) hb hs
 unfold Sort.medianAdjacent
 simp(disch:=omega) only[sD,Ve,Qy,p1,aI,au,a1,e,bind_some']
omit hC
def hN:Sort.Hint→Int
 | .unknown=>0
 | .increasing=>1
 | .decreasing=>2
include hC
theorem chp {a b:Nat}{d:Array β}(hab:a < b)(hb:b≤d.size)(hz:d.size≤250):gN ((a:Int),(b:Int),MA v d)=some (((Sort.choosePivot (lt C) d a b).1:Int),hN (Sort.choosePivot (lt C) d a b).2,MA v d):=by
 unfold Sort.choosePivot
 simp only[]
 generalize hn:b-a=n at *
 have q4:Int.tdiv (n:Int) 4=((n / 4:Nat):Int):=B6 n
 have q1:((n / 4:Nat):Int)*1=((n / 4*1:Nat):Int):=by omega
 have q2:((n / 4:Nat):Int)*2=((n / 4*2:Nat):Int):=by omega
 have q3:((n / 4:Nat):Int)*3=((n / 4*3:Nat):Int):=by omega
 have hn':(b:Int)-(a:Int)=(n:Int):=by omega
 have hfin:∀ (p s:Nat),(cond (decide ((s:Int)=0)) (some ((p:Int),(1:Int),MA v d)) (cond (decide ((s:Int)=12)) (some ((p:Int),(2:Int),MA v d)) (some ((p:Int),(0:Int),MA v d)))) =
   some ((p:Int),hN (if s=0 then Sort.Hint.increasing else if s=12 then Sort.Hint.decreasing else Sort.Hint.unknown),MA v d):=fun p s=>by
  by_cases h0:s=0
  ·subst h0; rfl
  ·have d0:decide ((s:Int)=0)=false:=by simp; omega
   rw[d0,if_neg h0]
   by_cases h12:s=12
   ·subst h12; rfl
   ·have d1:decide ((s:Int)=12)=false:=by simp; omega
    rw[d1,if_neg h12]; rfl
 simp(disch:=omega) only[gN,Vg,QB,hn',aI,au,q4,q1,q2,q3,an]
 by_cases h8:8≤n
 ·have d8:decide ((8:Int)≤(n:Int))=true:=by simp; omega
  rw[d8,cond_true,if_pos (show n≥8 from h8)]
  by_cases h50:50≤n
  ·have d50:decide ((50:Int)≤(n:Int))=true:=by simp; omega
   rw[d50,cond_true,if_pos (show n≥50 from h50)]
   have m1:=Sort.medianAdjacent_mem (lt C) d (a+n / 4*1) 0
   have c1:=Sort.medianAdjacent_count (lt C) d (a+n / 4*1) 0
   have e1:=S9 hC (d:=d) (a:=a+n / 4*1) (s:=0) (by omega) (by omega) hz (by omega)
   generalize Sort.medianAdjacent (lt C) d (a+n / 4*1) 0=r1 at *
   have m2:=Sort.medianAdjacent_mem (lt C) d (a+n / 4*2) r1.2
   have c2:=Sort.medianAdjacent_count (lt C) d (a+n / 4*2) r1.2
   have e2:=S9 hC (d:=d) (a:=a+n / 4*2) (s:=r1.2) (by omega) (by omega) hz (by omega)
   generalize Sort.medianAdjacent (lt C) d (a+n / 4*2) r1.2=r2 at *
   have m3:=Sort.medianAdjacent_mem (lt C) d (a+n / 4*3) r2.2
   have c3:=Sort.medianAdjacent_count (lt C) d (a+n / 4*3) r2.2
   have e3:=S9 hC (d:=d) (a:=a+n / 4*3) (s:=r2.2) (by omega) (by omega) hz (by omega)
   generalize Sort.medianAdjacent (lt C) d (a+n / 4*3) r2.2=r3 at *
   have e4:=S8 hC (d:=d) (a:=r1.1) (b:=r2.1) (c:=r3.1) (s:=r3.2) (by omega) (by omega) (by omega) (by omega)
   have e1':sD (((a+n / 4*1:Nat):Int),MA v d,0)=some ((r1.1:Int),MA v d,(r1.2:Int)):=e1
   simp only[e1',e2,e3,e4,bind_some',hfin]
  ·have d50:decide ((50:Int)≤(n:Int))=false:=by simp; omega
   rw[d50,cond_false,if_neg (show ¬ n≥50 from h50)]
   have e4:mD (((a+n / 4*1:Nat):Int),((a+n / 4*2:Nat):Int),((a+n / 4*3:Nat):Int),MA v d,0)=some (((Sort.median (lt C) d (a+n / 4*1) (a+n / 4*2) (a+n / 4*3) 0).1:Int),MA v d,((Sort.median (lt C) d (a+n / 4*1) (a+n / 4*2) (a+n / 4*3) 0).2:Int)):=S8 hC (s:=0) (by omega) (by omega) (by omega) (by omega)
   simp only[e4,bind_some',hfin]
 ·have d8:decide ((8:Int)≤(n:Int))=false:=by simp; omega
  rw[d8,cond_false,if_neg (show ¬ n≥8 from h8)]
  rfl
omit hC
theorem pE (d:Array β)(b:Nat):∀ (n i:Nat),b-i≤n→i≤b→i≤Sort.scanSorted (lt C) d b i∧Sort.scanSorted (lt C) d b i≤b:=by
 intro n
 induction n with
 | zero=>intro i h1 h2; rw[Sort.scanSorted,if_neg (by simp; omega)]; omega
 | succ n ih=>
  intro i h1 h2
  rw[Sort.scanSorted]
  split
  ·rename_i h
   simp only[Bool.and_eq_true,decide_eq_true_eq]at h
   have:=ih (i+1) (by omega) (by omega)
   omega
  ·omega
theorem jr:∀ (j:Nat) (d:Array β),(Sort.shiftDown (lt C) j d).size=d.size
 | 0,d=>by rw[Sort.shiftDown]
 | j+1,d=>by
  rw[Sort.shiftDown]
  split
  ·rfl
  ·rw[jr j,aw]
theorem js (b:Nat):∀ (n j:Nat) (d:Array β),b-j≤n→(Sort.shiftUp (lt C) b j d).size=d.size:=by
 intro n
 induction n with
 | zero=>intro j d h; rw[Sort.shiftUp,if_neg (by omega)]
 | succ n ih=>
  intro j d h
  rw[Sort.shiftUp]
  split
  ·split
   ·rfl
   ·rw[ih _ _ (by omega),aw]
  ·rfl
include hC
theorem ps1 {a b i j:Nat}{d:Array β}(h1:1≤i)(hb:b≤d.size)(hz:d.size≤250)(hi:i≤250):wS ((a:Int),(b:Int),(i:Int),(j:Int),MA v d)=some ((a:Int),(b:Int),((Sort.scanSorted (lt C) d b i:Nat):Int),(j:Int),MA v d):=by
 refine aK (fun s r n=>∃ i:Nat,1≤i∧i≤251∧s=((a:Int),(b:Int),(i:Int),(j:Int),MA v d)∧r=((a:Int),(b:Int),((Sort.scanSorted (lt C) d b i:Nat):Int),(j:Int),MA v d)∧n=b-i) ⟨i,h1,by omega,rfl,rfl,rfl⟩ (by omega) ?_
 rintro s r n ⟨i,q1,q2,rfl,rfl,rfl⟩
 simp only[Ej,wR]
 by_cases e:i < b
 ·simp(disch:=omega) only[iH,dT,cond_true,aH,au,p1,aI,aR,hC,bind_some',vP]
  cases hl:lt C d[i]! d[i-1]!
  ·right
   rw[show Sort.scanSorted (lt C) d b i=Sort.scanSorted (lt C) d b (i+1)by rw[Sort.scanSorted,if_pos (by simp[e,hl])]]
   simp(disch:=omega) only[Bool.not_false,cond_true,a1,aI,au]
   exact⟨_,b-(i+1),rfl,⟨i+1,by omega,by omega,rfl,rfl,rfl⟩,by omega⟩
  ·left
   rw[show Sort.scanSorted (lt C) d b i=i by rw[Sort.scanSorted,if_neg (by simp[hl])]]
   simp only[Bool.not_true,cond_false]
 ·left
  rw[show Sort.scanSorted (lt C) d b i=i by rw[Sort.scanSorted,if_neg (by simp[e])]]
  simp(disch:=omega) only[iH,dF,cond_false]
theorem ps3 {a b i j k:Nat}{d:Array β}(hk:k < d.size)(hz:d.size≤250):wU ((a:Int),(b:Int),(i:Int),(j:Int),(k:Int),MA v d)=some ((a:Int),(b:Int),(i:Int),(j:Int),MA v (Sort.shiftDown (lt C) k d)):=by
 refine aK (fun s r n=>∃ (k:Nat) (d:Array β),k < d.size∧d.size≤250∧s=((a:Int),(b:Int),(i:Int),(j:Int),(k:Int),MA v d)∧r=((a:Int),(b:Int),(i:Int),(j:Int),MA v (Sort.shiftDown (lt C) k d))∧n=k) ⟨k,d,hk,hz,rfl,rfl,rfl⟩ (by omega) ?_
 rintro s r n ⟨k,d,q1,q2,rfl,rfl,rfl⟩
 simp only[El,wT]
 cases n with
 | zero=>left; rw[Sort.shiftDown]; rfl
 | succ k=>
  have g1:decide ((1:Int)≤((k+1:Nat):Int))=true:=by simp; omega
  simp(disch:=omega) only[g1,cond_true,aH,au,p1,aI,aR,hC,bind_some',vP,Nat.add_sub_cancel]
  cases hl:lt C d[k+1]! d[k]!
  ·left
   rw[show Sort.shiftDown (lt C) (k+1) d=d by rw[Sort.shiftDown,if_pos (by simp[hl])]]
   simp only[Bool.not_false,cond_true]
  ·right
   rw[show Sort.shiftDown (lt C) (k+1) d=Sort.shiftDown (lt C) k (Sort.swp d (k+1) k)by rw[Sort.shiftDown,if_neg (by simp[hl])]]
   simp(disch:=omega) only[Bool.not_true,cond_false,aH,au,aR,Int.toNat_natCast,bA,aV,bB]
   exact⟨_,k,rfl,⟨k,Sort.swp d (k+1) k,by rw[aw]; omega,by rwa [aw],rfl,rfl,rfl⟩,by omega⟩
theorem ps2 {a b i j:Nat}{d:Array β}(ha:a≤i)(h1:1≤i)(hi:i≤d.size)(hz:d.size≤250):sE ((a:Int),(b:Int),(i:Int),(j:Int),MA v d)=some ((a:Int),(b:Int),(i:Int),(j:Int),MA v (if i-a≥2 then Sort.shiftDown (lt C) (i-1) d else d)):=by
 simp only[sE,Em,wV]
 by_cases e:2≤i-a
 ·have g1:decide ((2:Int)≤((i-a:Nat):Int))=true:=by simp; omega
  simp(disch:=omega) only[pn,aI,au,g1,cond_true,p1,ps3 hC,bind_some',if_pos (show i-a≥2 from e)]
 ·have g1:decide ((2:Int)≤((i-a:Nat):Int))=false:=by simp; omega
  simp(disch:=omega) only[pn,aI,au,g1,cond_false,if_neg (show ¬ i-a≥2 from e)]
theorem ps4 {a b i j k:Nat}{d:Array β}(h1:1≤k)(hk:k≤250)(hb:b≤d.size)(hz:d.size≤250):wX ((a:Int),(b:Int),(i:Int),(j:Int),(k:Int),MA v d)=some ((a:Int),(b:Int),(i:Int),(j:Int),MA v (Sort.shiftUp (lt C) b k d)):=by
 refine aK (fun s r n=>∃ (k:Nat) (d:Array β),1≤k∧k≤251∧b≤d.size∧d.size≤250∧s=((a:Int),(b:Int),(i:Int),(j:Int),(k:Int),MA v d)∧r=((a:Int),(b:Int),(i:Int),(j:Int),MA v (Sort.shiftUp (lt C) b k d))∧n=b-k) ⟨k,d,h1,by omega,hb,hz,rfl,rfl,rfl⟩ (by omega) ?_
 rintro s r n ⟨k,d,q1,q0,q2,q3,rfl,rfl,rfl⟩
 simp only[Eo,wW]
 by_cases e:k < b
 ·simp(disch:=omega) only[iH,dT,cond_true,aH,au,p1,aI,aR,hC,bind_some',vP]
  cases hl:lt C d[k]! d[k-1]!
  ·left
   rw[show Sort.shiftUp (lt C) b k d=d by rw[Sort.shiftUp,if_pos e,if_pos (by simp[hl])]]
   simp only[Bool.not_false,cond_true]
  ·right
   rw[show Sort.shiftUp (lt C) b k d=Sort.shiftUp (lt C) b (k+1) (Sort.swp d k (k-1))by rw[Sort.shiftUp,if_pos e,if_neg (by simp[hl])]]
   simp(disch:=omega) only[Bool.not_true,cond_false,aH,au,aR,Int.toNat_natCast,bA,aV,bB,a1,aI]
   exact⟨_,b-(k+1),rfl,⟨k+1,Sort.swp d k (k-1),by omega,by omega,by rwa [aw],by rwa [aw],rfl,rfl,rfl⟩,by omega⟩
 ·left
  rw[show Sort.shiftUp (lt C) b k d=d by rw[Sort.shiftUp,if_neg e]]
  simp(disch:=omega) only[iH,dF,cond_false]
theorem pis {a b:Nat}{d:Array β}(hab:a < b)(hb:b≤d.size)(hz:d.size≤250):gQ ((a:Int),(b:Int),MA v d)=some ((Sort.partialInsertionSort (lt C) d a b).2,MA v (Sort.partialInsertionSort (lt C) d a b).1):=by
 have key:∃ y,wZ ((a:Int),(b:Int),((a+1:Nat):Int),0,MA v d)=some y∧Sum.elim (fun y=>(y.2,y.1)) (fun y=>(y,false)) y=(MA v (Sort.partialInsertionSort (lt C) d a b).1,(Sort.partialInsertionSort (lt C) d a b).2):=by
  refine iB (fun s n=>∃ (t i:Nat) (d':Array β),t≤5∧a < i∧i≤b∧b≤d'.size∧d'.size≤250∧s=((a:Int),(b:Int),(i:Int),((5-t:Nat):Int),MA v d')∧Sort.partialIns (lt C) a b t i d'=Sort.partialInsertionSort (lt C) d a b∧n=t) _
   ⟨5,a+1,d,by omega,by omega,by omega,hb,hz,rfl,rfl,rfl⟩ (by omega) ?_
  rintro s n ⟨t,i,d',q1,q2,q3,q4,q5,rfl,q6,rfl⟩
  rw[← q6]
  clear q6
  simp only[Er,wY]
  cases n with
  | zero=>left; exact⟨_,rfl,rfl⟩
  | succ t=>
   have g0:decide (((5-(t+1):Nat):Int) < 5)=true:=by simp; omega
   have hs:=pE (C:=C) d' b _ i (Nat.le_refl _) q3
   rw[Sort.partialIns]
   simp(disch:=omega) only[g0,cond_true,ps1 hC,bind_some']
   generalize Sort.scanSorted (lt C) d' b i=i2 at *
   by_cases e:i2=b
   ·left
    have g1:decide ((i2:Int)=(b:Int))=true:=by simp; omega
    simp only[g1,cond_true,if_pos e]
    exact⟨_,rfl,rfl⟩
   ·have g1:decide ((i2:Int)=(b:Int))=false:=by simp; omega
    simp(disch:=omega) only[g1,cond_false,if_neg e,pn,aI,au]
    by_cases e5:b-a < 50
    ·left
     have g2:decide (((b-a:Nat):Int) < 50)=true:=by simp; omega
     simp only[g2,cond_true,if_pos e5]
     exact⟨_,rfl,rfl⟩
    ·right
     have g2:decide (((b-a:Nat):Int) < 50)=false:=by simp; omega
     have z1:(Sort.swp d' i2 (i2-1)).size=d'.size:=aw _ _ _
     simp(disch:=omega) only[g2,cond_false,if_neg e5,p1,aI,au,aH,aR,Int.toNat_natCast,bA,aV,bB,ps2 hC,bind_some',pn]
     generalize hd2:(if i2-a≥2 then Sort.shiftDown (lt C) (i2-1) (Sort.swp d' i2 (i2-1))else Sort.swp d' i2 (i2-1))=d2
     have z2:d2.size=d'.size:=by
      rw[← hd2]; split
      ·rw[jr,z1]
      ·exact z1
     by_cases e2:2≤b-i2
     ·have g3:decide ((2:Int)≤((b-i2:Nat):Int))=true:=by simp; omega
      simp(disch:=omega) only[g3,cond_true,a1,aI,au,ps4 hC,bind_some',if_pos (show b-i2≥2 from e2)]
      exact⟨_,t,rfl,⟨t,i2,Sort.shiftUp (lt C) b (i2+1) d2,by omega,by omega,by omega,by rw[js _ _ _ _ (Nat.le_refl _)]; omega,by rw[js _ _ _ _ (Nat.le_refl _)]; omega,by rw[show 5-(t+1)+1=5-t by omega],rfl,rfl⟩,by omega⟩
     ·have g3:decide ((2:Int)≤((b-i2:Nat):Int))=false:=by simp; omega
      simp(disch:=omega) only[g3,cond_false,a1,aI,au,if_neg (show ¬ b-i2≥2 from e2)]
      exact⟨_,t,rfl,⟨t,i2,d2,by omega,by omega,by omega,by omega,by omega,by rw[show 5-(t+1)+1=5-t by omega],rfl,rfl⟩,by omega⟩
 obtain⟨y,e1,e2⟩:=key
 simp(disch:=omega) only[gQ,Vk,QP,a1,aI,au,e1,bind_some']
 cases y with
 | inl x=>
  simp only[Sum.elim_inl,Prod.mk.injEq]at e2 ⊢
  rw[e2.1,e2.2]
 | inr x=>
  simp only[Sum.elim_inr,Prod.mk.injEq]at e2 ⊢
  rw[e2.1,e2.2]
theorem pe1 {a i j:Nat}{d:Array β}(ha:a < d.size)(hj:j < d.size)(hz:d.size≤250):w7 ((a:Int),(i:Int),(j:Int),MA v d)=some ((a:Int),((Sort.scanUp (fun x=>!lt C d[a]! x) d j i:Nat):Int),(j:Int),MA v d):=by
 refine aK (fun s r n=>∃ i:Nat,s=((a:Int),(i:Int),(j:Int),MA v d)∧r=((a:Int),((Sort.scanUp (fun x=>!lt C d[a]! x) d j i:Nat):Int),(j:Int),MA v d)∧n=j+1-i) ⟨i,rfl,rfl,rfl⟩ (by omega) ?_
 rintro s r n ⟨i,rfl,rfl,rfl⟩
 simp only[Ew,w6]
 by_cases e:i≤j
 ·simp(disch:=omega) only[gY,dT,cond_true,aH,au,aI,aR,hC,bind_some',vP]
  cases hl:lt C d[a]! d[i]!
  ·right
   rw[show Sort.scanUp (fun x=>!lt C d[a]! x) d j i=Sort.scanUp (fun x=>!lt C d[a]! x) d j (i+1)by rw[Sort.scanUp,if_pos (by simp[e,hl])]]
   simp(disch:=omega) only[Bool.not_false,cond_true,a1,aI,au]
   exact⟨_,j+1-(i+1),rfl,⟨i+1,rfl,rfl,rfl⟩,by omega⟩
  ·left
   rw[show Sort.scanUp (fun x=>!lt C d[a]! x) d j i=i by rw[Sort.scanUp,if_neg (by simp[hl])]]
   simp only[Bool.not_true,cond_false]
 ·left
  rw[show Sort.scanUp (fun x=>!lt C d[a]! x) d j i=i by rw[Sort.scanUp,if_neg (by simp[e])]]
  simp(disch:=omega) only[gY,dF,cond_false]
theorem pe2 {a i j:Nat}{d:Array β}(ha:a < d.size)(hi:1≤i)(hj:j < d.size)(hz:d.size≤250):xb ((a:Int),(i:Int),(j:Int),MA v d)=some ((a:Int),(i:Int),((Sort.scanDown (fun x=>lt C d[a]! x) d i j:Nat):Int),MA v d):=by
 refine aK (fun s r n=>∃ j:Nat,j < d.size∧s=((a:Int),(i:Int),(j:Int),MA v d)∧r=((a:Int),(i:Int),((Sort.scanDown (fun x=>lt C d[a]! x) d i j:Nat):Int),MA v d)∧n=j) ⟨j,hj,rfl,rfl,rfl⟩ (by omega) ?_
 rintro s r n ⟨j,q1,rfl,rfl,rfl⟩
 simp only[Ey,xa]
 cases n with
 | zero=>
  left
  rw[show Sort.scanDown (fun x=>lt C d[a]! x) d i 0=0 by rw[Sort.scanDown]]
  simp(disch:=omega) only[gY,dF,cond_false]
 | succ j=>
  by_cases e:i≤j+1
  ·simp(disch:=omega) only[gY,dT,cond_true,aH,au,aI,aR,hC,bind_some',vP]
   cases hl:lt C d[a]! d[j+1]!
   ·left
    rw[show Sort.scanDown (fun x=>lt C d[a]! x) d i (j+1)=j+1 by rw[Sort.scanDown,if_neg (by simp[hl])]]
    simp only[cond_false]
   ·right
    rw[show Sort.scanDown (fun x=>lt C d[a]! x) d i (j+1)=Sort.scanDown (fun x=>lt C d[a]! x) d i j by rw[Sort.scanDown,if_pos (by simp[e,hl])]]
    simp(disch:=omega) only[cond_true,p1,Nat.add_sub_cancel,aI,au]
    exact⟨_,j,rfl,⟨j,by omega,rfl,rfl,rfl⟩,by omega⟩
  ·left
   rw[show Sort.scanDown (fun x=>lt C d[a]! x) d i (j+1)=j+1 by rw[Sort.scanDown,if_neg (by simp[e])]]
   simp(disch:=omega) only[gY,dF,cond_false]
theorem pr0 {a i j:Nat}{d:Array β}(ha:a < d.size)(hj:j < d.size)(hz:d.size≤250):xg ((a:Int),(i:Int),(j:Int),MA v d)=some ((a:Int),((Sort.scanUp (fun x=>lt C x d[a]!) d j i:Nat):Int),(j:Int),MA v d):=by
 refine aK (fun s r n=>∃ i:Nat,s=((a:Int),(i:Int),(j:Int),MA v d)∧r=((a:Int),((Sort.scanUp (fun x=>lt C x d[a]!) d j i:Nat):Int),(j:Int),MA v d)∧n=j+1-i) ⟨i,rfl,rfl,rfl⟩ (by omega) ?_
 rintro s r n ⟨i,rfl,rfl,rfl⟩
 simp only[EH,xf]
 by_cases e:i≤j
 ·simp(disch:=omega) only[gY,dT,cond_true,aH,au,aI,aR,hC,bind_some',vP]
  cases hl:lt C d[i]! d[a]!
  ·left
   rw[show Sort.scanUp (fun x=>lt C x d[a]!) d j i=i by rw[Sort.scanUp,if_neg (by simp[hl])]]
   simp only[cond_false]
  ·right
   rw[show Sort.scanUp (fun x=>lt C x d[a]!) d j i=Sort.scanUp (fun x=>lt C x d[a]!) d j (i+1)by rw[Sort.scanUp,if_pos (by simp[e,hl])]]
   simp(disch:=omega) only[cond_true,a1,aI,au]
   exact⟨_,j+1-(i+1),rfl,⟨i+1,rfl,rfl,rfl⟩,by omega⟩
 ·left
  rw[show Sort.scanUp (fun x=>lt C x d[a]!) d j i=i by rw[Sort.scanUp,if_neg (by simp[e])]]
  simp(disch:=omega) only[gY,dF,cond_false]
theorem pr1 {a i j:Nat}{d:Array β}(ha:a < d.size)(hi:1≤i)(hj:j < d.size)(hz:d.size≤250):xi ((a:Int),(i:Int),(j:Int),MA v d)=some ((a:Int),(i:Int),((Sort.scanDown (fun x=>!lt C x d[a]!) d i j:Nat):Int),MA v d):=by
 refine aK (fun s r n=>∃ j:Nat,j < d.size∧s=((a:Int),(i:Int),(j:Int),MA v d)∧r=((a:Int),(i:Int),((Sort.scanDown (fun x=>!lt C x d[a]!) d i j:Nat):Int),MA v d)∧n=j) ⟨j,hj,rfl,rfl,rfl⟩ (by omega) ?_
 rintro s r n ⟨j,q1,rfl,rfl,rfl⟩
 simp only[EJ,xh]
 cases n with
 | zero=>
  left
  rw[show Sort.scanDown (fun x=>!lt C x d[a]!) d i 0=0 by rw[Sort.scanDown]]
  simp(disch:=omega) only[gY,dF,cond_false]
 | succ j=>
  by_cases e:i≤j+1
  ·simp(disch:=omega) only[gY,dT,cond_true,aH,au,aI,aR,hC,bind_some',vP]
   cases hl:lt C d[j+1]! d[a]!
   ·right
    rw[show Sort.scanDown (fun x=>!lt C x d[a]!) d i (j+1)=Sort.scanDown (fun x=>!lt C x d[a]!) d i j by rw[Sort.scanDown,if_pos (by simp[e,hl])]]
    simp(disch:=omega) only[Bool.not_false,cond_true,p1,Nat.add_sub_cancel,aI,au]
    exact⟨_,j,rfl,⟨j,by omega,rfl,rfl,rfl⟩,by omega⟩
   ·left
    rw[show Sort.scanDown (fun x=>!lt C x d[a]!) d i (j+1)=j+1 by rw[Sort.scanDown,if_neg (by simp[hl])]]
    simp only[Bool.not_true,cond_false]
  ·left
   rw[show Sort.scanDown (fun x=>!lt C x d[a]!) d i (j+1)=j+1 by rw[Sort.scanDown,if_neg (by simp[e])]]
   simp(disch:=omega) only[gY,dF,cond_false]
theorem pr3 {a i j:Nat}{d:Array β}(ha:a < d.size)(hj:j < d.size)(hz:d.size≤250):xl ((a:Int),(i:Int),(j:Int),MA v d)=some ((a:Int),((Sort.scanUp (fun x=>lt C x d[a]!) d j i:Nat):Int),(j:Int),MA v d):=by
 refine aK (fun s r n=>∃ i:Nat,s=((a:Int),(i:Int),(j:Int),MA v d)∧r=((a:Int),((Sort.scanUp (fun x=>lt C x d[a]!) d j i:Nat):Int),(j:Int),MA v d)∧n=j+1-i) ⟨i,rfl,rfl,rfl⟩ (by omega) ?_
 rintro s r n ⟨i,rfl,rfl,rfl⟩
 simp only[EL,xj]
 by_cases e:i≤j
 ·simp(disch:=omega) only[gY,dT,cond_true,aH,au,aI,aR,hC,bind_some',vP]
  cases hl:lt C d[i]! d[a]!
  ·left
   rw[show Sort.scanUp (fun x=>lt C x d[a]!) d j i=i by rw[Sort.scanUp,if_neg (by simp[hl])]]
   simp only[cond_false]
  ·right
   rw[show Sort.scanUp (fun x=>lt C x d[a]!) d j i=Sort.scanUp (fun x=>lt C x d[a]!) d j (i+1)by rw[Sort.scanUp,if_pos (by simp[e,hl])]]
   simp(disch:=omega) only[cond_true,a1,aI,au]
   exact⟨_,j+1-(i+1),rfl,⟨i+1,rfl,rfl,rfl⟩,by omega⟩
 ·left
  rw[show Sort.scanUp (fun x=>lt C x d[a]!) d j i=i by rw[Sort.scanUp,if_neg (by simp[e])]]
  simp(disch:=omega) only[gY,dF,cond_false]
theorem pr4 {a i j:Nat}{d:Array β}(ha:a < d.size)(hi:1≤i)(hj:j < d.size)(hz:d.size≤250):xn ((a:Int),(i:Int),(j:Int),MA v d)=some ((a:Int),(i:Int),((Sort.scanDown (fun x=>!lt C x d[a]!) d i j:Nat):Int),MA v d):=by
 refine aK (fun s r n=>∃ j:Nat,j < d.size∧s=((a:Int),(i:Int),(j:Int),MA v d)∧r=((a:Int),(i:Int),((Sort.scanDown (fun x=>!lt C x d[a]!) d i j:Nat):Int),MA v d)∧n=j) ⟨j,hj,rfl,rfl,rfl⟩ (by omega) ?_
 rintro s r n ⟨j,q1,rfl,rfl,rfl⟩
 simp only[EN,xm]
 cases n with
 | zero=>
  left
  rw[show Sort.scanDown (fun x=>!lt C x d[a]!) d i 0=0 by rw[Sort.scanDown]]
  simp(disch:=omega) only[gY,dF,cond_false]
 | succ j=>
  by_cases e:i≤j+1
  ·simp(disch:=omega) only[gY,dT,cond_true,aH,au,aI,aR,hC,bind_some',vP]
   cases hl:lt C d[j+1]! d[a]!
   ·right
    rw[show Sort.scanDown (fun x=>!lt C x d[a]!) d i (j+1)=Sort.scanDown (fun x=>!lt C x d[a]!) d i j by rw[Sort.scanDown,if_pos (by simp[e,hl])]]
    simp(disch:=omega) only[Bool.not_false,cond_true,p1,Nat.add_sub_cancel,aI,au]
    exact⟨_,j,rfl,⟨j,by omega,rfl,rfl,rfl⟩,by omega⟩
   ·left
    rw[show Sort.scanDown (fun x=>!lt C x d[a]!) d i (j+1)=j+1 by rw[Sort.scanDown,if_neg (by simp[hl])]]
    simp only[Bool.not_true,cond_false]
  ·left
   rw[show Sort.scanDown (fun x=>!lt C x d[a]!) d i (j+1)=j+1 by rw[Sort.scanDown,if_neg (by simp[e])]]
   simp(disch:=omega) only[gY,dF,cond_false]
theorem peq {a b p:Nat}{d:Array β}(ha:a < d.size)(hp:p < d.size)(hb:b≤d.size)(hb1:1≤b)(hz:d.size≤250):gR ((a:Int),(b:Int),(p:Int),MA v d)=some (((Sort.partitionEqual (lt C) d a b p).1:Int),MA v (Sort.partitionEqual (lt C) d a b p).2):=by
 have key:∀ {i j:Nat} {d:Array β},a < d.size→1≤i→j < d.size→d.size≤250→xe ((a:Int),(i:Int),(j:Int),MA v d)=some (((Sort.partEqLoop (lt C) a i j d).1:Int),MA v (Sort.partEqLoop (lt C) a i j d).2):=by
  intro i j d ha hi hj hz
  refine aK (fun s r n=>∃ (i j:Nat) (d:Array β),a < d.size∧1≤i∧j < d.size∧d.size≤250∧s=((a:Int),(i:Int),(j:Int),MA v d)∧r=(((Sort.partEqLoop (lt C) a i j d).1:Int),MA v (Sort.partEqLoop (lt C) a i j d).2)∧n=j+1-i) ⟨i,j,d,ha,hi,hj,hz,rfl,rfl,rfl⟩ (by omega) ?_
  rintro s r n ⟨i,j,d,q1,q2,q3,q4,rfl,rfl,rfl⟩
  have u1:=Sort.scanUp_ge (fun x=>!lt C d[a]! x) d j i
  have u2:=Sort.scanDown_le (fun x=>lt C d[a]! x) d (Sort.scanUp (fun x=>!lt C d[a]! x) d j i) j
  rw[Sort.partEqLoop_eq]
  simp(disch:=omega) only[EA,xd,pe1 hC,pe2 hC,bind_some']
  generalize Sort.scanUp (fun x=>!lt C d[a]! x) d j i=i2 at *
  generalize Sort.scanDown (fun x=>lt C d[a]! x) d i2 j=j2 at *
  by_cases e:j2 < i2
  ·left; simp(disch:=omega) only[iH,dT,cond_true,if_pos (show i2 > j2 from e)]
  ·right
   simp(disch:=omega) only[iH,dF,cond_false,if_neg (show ¬ i2 > j2 from e),aH,au,aR,Int.toNat_natCast,bA,aV,bB,a1,aI,p1]
   exact⟨_,j2-1+1-(i2+1),rfl,⟨i2+1,j2-1,Sort.swp d i2 j2,by rwa [aw],by omega,by rw[aw]; omega,by rwa [aw],rfl,rfl,rfl⟩,by omega⟩
 have k:=key (i:=a+1) (j:=b-1) (d:=Sort.swp d a p) (by rwa [aw]) (by omega) (by rw[aw]; omega) (by rwa [aw])
 simp(disch:=omega) only[gR,Vm,QW,aH,au,aR,Int.toNat_natCast,bA,aV,bB,a1,aI,p1,k,bind_some',Sort.partitionEqual]
omit hC
theorem G4 (a:Nat):∀ (n i j:Nat) (d:Array β),j+1-i≤n→(Sort.partLoop (lt C) a i j d).1≤j∧(Sort.partLoop (lt C) a i j d).2.size=d.size:=by
 intro n
 induction n with
 | zero=>
  intro i j d h
  have u1:=Sort.scanUp_ge (fun x=>lt C x d[a]!) d j i
  have u2:=Sort.scanDown_le (fun x=>!lt C x d[a]!) d (Sort.scanUp (fun x=>lt C x d[a]!) d j i) j
  rw[Sort.partLoop_eq,if_pos (by omega)]
  exact⟨u2,rfl⟩
 | succ n ih=>
  intro i j d h
  have u1:=Sort.scanUp_ge (fun x=>lt C x d[a]!) d j i
  have u2:=Sort.scanDown_le (fun x=>!lt C x d[a]!) d (Sort.scanUp (fun x=>lt C x d[a]!) d j i) j
  rw[Sort.partLoop_eq]
  split
  ·exact⟨u2,rfl⟩
  ·have:=ih (Sort.scanUp (fun x=>lt C x d[a]!) d j i+1) (Sort.scanDown (fun x=>!lt C x d[a]!) d (Sort.scanUp (fun x=>lt C x d[a]!) d j i) j-1) (Sort.swp d (Sort.scanUp (fun x=>lt C x d[a]!) d j i) (Sort.scanDown (fun x=>!lt C x d[a]!) d (Sort.scanUp (fun x=>lt C x d[a]!) d j i) j)) (by omega)
   exact⟨by omega,by rw[this.2,aw]⟩
include hC
theorem prt {a b p:Nat}{d:Array β}(ha:a < d.size)(hp:p < d.size)(hb:b≤d.size)(hb1:1≤b)(hz:d.size≤250):gm ((a:Int),(b:Int),(p:Int),MA v d)=some (((Sort.partition (lt C) d a b p).1:Int),(Sort.partition (lt C) d a b p).2.1,MA v (Sort.partition (lt C) d a b p).2.2):=by
 have key:∀ {i j:Nat} {d:Array β},a < d.size→1≤i→j < d.size→d.size≤250→xq ((a:Int),(i:Int),(j:Int),MA v d)=some ((a:Int),((Sort.partLoop (lt C) a i j d).1:Int),MA v (Sort.partLoop (lt C) a i j d).2):=by
  intro i j d ha hi hj hz
  refine aK (fun s r n=>∃ (i j:Nat) (d:Array β),a < d.size∧1≤i∧j < d.size∧d.size≤250∧s=((a:Int),(i:Int),(j:Int),MA v d)∧r=((a:Int),((Sort.partLoop (lt C) a i j d).1:Int),MA v (Sort.partLoop (lt C) a i j d).2)∧n=j+1-i) ⟨i,j,d,ha,hi,hj,hz,rfl,rfl,rfl⟩ (by omega) ?_
  rintro s r n ⟨i,j,d,q1,q2,q3,q4,rfl,rfl,rfl⟩
  have u1:=Sort.scanUp_ge (fun x=>lt C x d[a]!) d j i
  have u2:=Sort.scanDown_le (fun x=>!lt C x d[a]!) d (Sort.scanUp (fun x=>lt C x d[a]!) d j i) j
  rw[Sort.partLoop_eq]
  simp(disch:=omega) only[EP,xp,pr3 hC,pr4 hC,bind_some']
  generalize Sort.scanUp (fun x=>lt C x d[a]!) d j i=i2 at *
  generalize Sort.scanDown (fun x=>!lt C x d[a]!) d i2 j=j2 at *
  by_cases e:j2 < i2
  ·left; simp(disch:=omega) only[iH,dT,cond_true,if_pos (show i2 > j2 from e)]
  ·right
   simp(disch:=omega) only[iH,dF,cond_false,if_neg (show ¬ i2 > j2 from e),aH,au,aR,Int.toNat_natCast,bA,aV,bB,a1,aI,p1]
   exact⟨_,j2-1+1-(i2+1),rfl,⟨i2+1,j2-1,Sort.swp d i2 j2,by rwa [aw],by omega,by rw[aw]; omega,by rwa [aw],rfl,rfl,rfl⟩,by omega⟩
 unfold Sort.partition
 simp only[]
 have z1:(Sort.swp d a p).size=d.size:=aw _ _ _
 generalize hd:Sort.swp d a p=d1 at *
 have u1:=Sort.scanUp_ge (fun x=>lt C x d1[a]!) d1 (b-1) (a+1)
 have u2:=Sort.scanDown_le (fun x=>!lt C x d1[a]!) d1 (Sort.scanUp (fun x=>lt C x d1[a]!) d1 (b-1) (a+1)) (b-1)
 simp(disch:=omega) only[gm,Vo,Q7,aH,au,aR,Int.toNat_natCast,bA,aV,bB,hd,a1,aI,p1,pr0 hC,pr1 hC,bind_some']
 generalize Sort.scanUp (fun x=>lt C x d1[a]!) d1 (b-1) (a+1)=i2 at *
 generalize Sort.scanDown (fun x=>!lt C x d1[a]!) d1 i2 (b-1)=j2 at *
 by_cases e:j2 < i2
 ·simp(disch:=omega) only[iH,dT,cond_true,if_pos (show i2 > j2 from e),aH,au,aR,Int.toNat_natCast,bA,aV,bB]
 ·have z2:(Sort.swp d1 i2 j2).size=d1.size:=aw _ _ _
  have k:=key (i:=i2+1) (j:=j2-1) (d:=Sort.swp d1 i2 j2) (by omega) (by omega) (by omega) (by omega)
  have hl:=G4 (C:=C) a _ (i2+1) (j2-1) (Sort.swp d1 i2 j2) (Nat.le_refl _)
  simp(disch:=omega) only[iH,dF,cond_false,if_neg (show ¬ i2 > j2 from e),aH,au,aR,Int.toNat_natCast,bA,aV,bB,a1,aI,p1,k,bind_some']
theorem Ta (hS:Sort.SWO (lt C)):∀ (n f m a b limit:Nat) (wb wp:Bool) (d:Array β),n < f→n < m→n≤1000→b-a≤n→a≤b→b≤d.size→d.size≤250→limit≤250→Sort.Below (lt C) a b d →
  goF (fun x=>kJ (iO f) x.1 x.2.1 x.2.2.1 x.2.2.2.1 x.2.2.2.2.1 x.2.2.2.2.2) m ((a:Int),(b:Int),(limit:Int),wb,wp,MA v d)=some (MA v (Sort.pdq (lt C) d a b limit wb wp)):=by
 have small:∀ (f m a b limit:Nat) (wb wp:Bool) (d:Array β),0 < m→b-a≤12→a≤b→b≤d.size→d.size≤250→goF (fun x=>kJ (iO f) x.1 x.2.1 x.2.2.1 x.2.2.2.1 x.2.2.2.2.1 x.2.2.2.2.2) m ((a:Int),(b:Int),(limit:Int),wb,wp,MA v d)=some (MA v (Sort.pdq (lt C) d a b limit wb wp)):=by
  intro f m a b limit wb wp d hm h12 hab hb hz
  obtain⟨m,rfl⟩:∃ m',m=m'+1:=⟨m-1,by omega⟩
  have g:decide (((b-a:Nat):Int)≤12)=true:=by simp; omega
  rw[Sort.pdq,if_pos h12]
  simp(disch:=omega) only[goF,kJ,pf,pn,aI,au,g,cond_true,ins hC,bind_some']
 intro n
 induction n with
 | zero=>intro f m a b limit wb wp d h1 h2 hn h3 hab hb hz hl hB; exact small f m a b limit wb wp d h2 (by omega) hab hb hz
 | succ n ih=>
  intro f m a b limit wb wp d h1 h2 hn h3 hab hb hz hl hB
  by_cases h12:b-a≤12
  ·exact small f m a b limit wb wp d (by omega) h12 hab hb hz
  obtain⟨m,rfl⟩:∃ m',m=m'+1:=⟨m-1,by omega⟩
  obtain⟨f,rfl⟩:∃ f',f=f'+1:=⟨f-1,by omega⟩
  have g12:decide (((b-a:Nat):Int)≤12)=false:=by simp; omega
  rw[Sort.pdq,if_neg h12]
  by_cases h0:limit=0
  ·subst h0
   have g0:decide (((0:Nat):Int)=0)=true:=rfl
   simp(disch:=omega) only[goF,kJ,pf,pn,aI,au,g12,cond_false,g0,cond_true,heap hC,bind_some',if_true]
  have g0:decide ((limit:Int)=0)=false:=by simp; omega
  rw[if_neg h0]
  simp only[]
  have e1:pe (iO (f+1)) ((a:Int),(b:Int),(limit:Int),wb,wp,((b-a:Nat):Int),MA v d)=some ((a:Int),(b:Int),((if(!wb)=true then limit-1 else limit:Nat):Int),wb,wp,((b-a:Nat):Int),MA v (if(!wb)=true then Sort.breakPatterns d a b else d)):=by
   cases wb
   ·simp(disch:=omega) only[pe,xu,sG,Bool.not_false,cond_true,brk,bind_some',p1,aI,au,if_true]
   ·simp only[pe,xu,sG,Bool.not_true,cond_false,Bool.false_eq_true,if_false]
  have s1:Sort.PermIn a b d (if(!wb)=true then Sort.breakPatterns d a b else d):=by
   split
   ·exact Sort.breakPatterns_holds d a b hab hb
   ·exact Sort.permIn_refl _ _ _
  have hl1:(if(!wb)=true then limit-1 else limit)≤250:=by split <;> omega
  generalize (if(!wb)=true then Sort.breakPatterns d a b else d)=d1 at *
  generalize (if(!wb)=true then limit-1 else limit)=l1 at *
  have z1:d1.size=d.size:=s1.1
  have e2:=chp hC (d:=d1) (a:=a) (b:=b) (by omega) (by omega) (by omega)
  have hc0:=Sort.choosePivot_holds (lt C) d1 a b (by omega)
  generalize Sort.choosePivot (lt C) d1 a b=c at *
  have e3:sH (iO (f+1)) ((a:Int),(b:Int),(l1:Int),wb,wp,((b-a:Nat):Int),(c.1:Int),hN c.2,MA v d1)=some ((a:Int),(b:Int),(l1:Int),wb,wp,((b-a:Nat):Int),((if c.2 = .decreasing then(b-1)-(c.1-a)else c.1:Nat):Int),hN (if c.2 = .decreasing then Sort.Hint.increasing else c.2),MA v (if c.2 = .decreasing then Sort.reverseRange d1 a b else d1)):=by
   obtain⟨c1,c2⟩:=c
   simp only at hc0
   cases c2
   ·rfl
   ·rfl
   ·have g:decide (hN Sort.Hint.decreasing=2)=true:=rfl
    simp(disch:=omega) only[sH,EW,xw,g,cond_true,rev,bind_some',p1,aI,au,pn,if_true]
    rfl
  have s2:Sort.PermIn a b d1 (if c.2 = .decreasing then Sort.reverseRange d1 a b else d1):=by
   split
   ·exact Sort.reverseRange_holds d1 a b hab (by omega)
   ·exact Sort.permIn_refl _ _ _
  have hpv:a≤(if c.2 = .decreasing then(b-1)-(c.1-a)else c.1)∧(if c.2 = .decreasing then(b-1)-(c.1-a)else c.1) < b:=by split <;> omega
  generalize (if c.2 = .decreasing then Sort.reverseRange d1 a b else d1)=d2 at *
  generalize (if c.2 = .decreasing then(b-1)-(c.1-a)else c.1)=pv at *
  generalize (if c.2 = .decreasing then Sort.Hint.increasing else c.2)=hint at *
  have z2:d2.size=d1.size:=s2.1
  have B2:Sort.Below (lt C) a b d2:=(hB.perm hb s1).perm (by omega) s2
  have s3:Sort.PermIn a b d2 (if(wb&&wp&&decide (hint = .increasing))=true then Sort.partialInsertionSort (lt C) d2 a b else(d2,false)).1:=by
   split
   ·exact(Sort.partialInsertionSort_holds hS d2 a b (by omega) (by omega) B2).1
   ·exact Sort.permIn_refl _ _ _
  have e4:sI (iO (f+1)) ((a:Int),(b:Int),(l1:Int),wb,wp,((b-a:Nat):Int),(pv:Int),hN hint,MA v d2)=some (cond (if(wb&&wp&&decide (hint = .increasing))=true then Sort.partialInsertionSort (lt C) d2 a b else(d2,false)).2
    (.inl (MA v (if(wb&&wp&&decide (hint = .increasing))=true then Sort.partialInsertionSort (lt C) d2 a b else(d2,false)).1))
    (.inr ((a:Int),(b:Int),(l1:Int),wb,wp,((b-a:Nat):Int),(pv:Int),MA v (if(wb&&wp&&decide (hint = .increasing))=true then Sort.partialInsertionSort (lt C) d2 a b else(d2,false)).1))):=by
   have hpis:=pis hC (d:=d2) (a:=a) (b:=b) (by omega) (by omega) (by omega)
   cases wb
   ·rfl
   ·cases wp
    ·rfl
    ·cases hint
     ·rfl
     ·have g:decide (hN Sort.Hint.increasing=1)=true:=rfl
      simp only[sI,EX,xx,g,cond_true,hpis,bind_some',Bool.true_and,decide_true,if_true]
      cases(Sort.partialInsertionSort (lt C) d2 a b).2 <;> rfl
     ·rfl
  generalize (if(wb&&wp&&decide (hint = .increasing))=true then Sort.partialInsertionSort (lt C) d2 a b else(d2,false))=pi at *
  obtain⟨d3,fl⟩:=pi
  simp only at s3 e4 ⊢
  have z3:d3.size=d2.size:=s3.1
  have B3:Sort.Below (lt C) a b d3:=B2.perm (by omega) s3
  rw[goF]
  generalize hG:goF (fun x=>kJ (iO (f+1)) x.1 x.2.1 x.2.2.1 x.2.2.2.1 x.2.2.2.2.1 x.2.2.2.2.2) m=G
  simp(disch:=omega) only[kJ,pf,pn,aI,au,g12,cond_false,g0,e1,bind_some',e2,e3,e4]
  clear e1 e2 e3 e4
  cases fl
  ·simp only[cond_false,Sum.elim_inr,Bool.false_eq_true,if_false]
   have call:∀ (x y:Nat) (dd:Array β),x≤y→y-x≤n→y≤dd.size→dd.size≤250→Sort.Below (lt C) x y dd→iO (f+1) ((x:Int),(y:Int),(l1:Int),MA v dd)=some (MA v (Sort.pdq (lt C) dd x y l1 true true)):=fun x y dd k1 k2 k3 k4 k5=>by
    have:=ih f 18446744073709551616 x y l1 true true dd (by omega) (by omega) (by omega) k2 k1 k3 k4 hl1 k5
    have this':sJ (iO f) ((x:Int),(y:Int),(l1:Int),true,true,MA v dd)=some (MA v (Sort.pdq (lt C) dd x y l1 true true)):=this
    show Bv (iO f) _ _ _ _=_
    simp only[Bv,IB,this',bind_some']
   have part:∀ (mid:Nat) (ap:Bool) (d4:Array β),Sort.partition (lt C) d3 a b pv=(mid,ap,d4) →
     ∃ s',(((gm ((a:Int),(b:Int),(pv:Int),MA v d3)).bind fun r17=>ai (ah .i64 (r17.1-(a:Int))) (ai (ah .i64 ((b:Int)-r17.1)) (ai (ah .i64 (Int.tdiv ((b-a:Nat):Int) 8)) (cond (decide ((r17.1-(a:Int)) < ((b:Int)-r17.1)))
      ((iO (f+1) ((a:Int),r17.1,(l1:Int),r17.2.2)).bind fun r18=>ai (ah .i64 (r17.1+1)) (some (Sum.inl ((r17.1+1),(b:Int),(l1:Int),decide (Int.tdiv ((b-a:Nat):Int) 8≤(r17.1-(a:Int))),r17.2.1,r18))))
      (ai (ah .i64 (r17.1+1)) ((iO (f+1) ((r17.1+1),(b:Int),(l1:Int),r17.2.2)).bind fun r19=>some (Sum.inl ((a:Int),r17.1,(l1:Int),decide (Int.tdiv ((b-a:Nat):Int) 8≤((b:Int)-r17.1)),r17.2.1,r19))))))):Option ((Int×Int×Int×Bool×Bool×List E)⊕List E)))=some (Sum.inl s')∧G s'=some (MA v (if h:a≤mid∧mid < b then
       if mid-a < b-mid then Sort.pdq (lt C) (Sort.pdq (lt C) d4 a mid l1 true true) (mid+1) b l1 (decide (mid-a≥(b-a) / 8)) ap
       else Sort.pdq (lt C) (Sort.pdq (lt C) d4 (mid+1) b l1 true true) a mid l1 (decide (b-mid≥(b-a) / 8)) ap else d4)):=fun mid ap d4 hx=>by
    have hr:=prt hC (d:=d3) (a:=a) (b:=b) (p:=pv) (by omega) (by omega) (by omega) (by omega) (by omega)
    obtain⟨g1,g2,hs4,hBa,hBr,hleft,hright⟩:=Sort.round_part hS (Sort.partition_holds _) hpv.1 hpv.2 (by omega) B3 hx
    rw[hx]at hr
    simp only at hr
    have q8:Int.tdiv ((b-a:Nat):Int) 8=(((b-a) / 8:Nat):Int):=B6 _
    rw[dif_pos ⟨g1,g2⟩]
    simp(disch:=omega) only[hr,bind_some',pn,aI,au,q8,iH,gY,a1]
    by_cases hlt:mid-a < b-mid
    ·have k:=call a mid d4 g1 (by omega) (by omega) (by omega) hBa
     obtain⟨l1',l2'⟩:=Sort.pdq_sorts (lt C) hS d4 a mid l1 true true g1 (by omega) hBa
     have hB':=(hleft _ l1' l2').1
     simp(disch:=omega) only[dT,cond_true,k,bind_some',if_pos hlt]
     refine⟨_,rfl,?_⟩
     rw[← hG]
     exact ih (f+1) m (mid+1) b l1 _ ap _ (by omega) (by omega) (by omega) (by omega) (by omega) (by rw[l1'.1]; omega) (by rw[l1'.1]; omega) hl1 hB'
    ·have k:=call (mid+1) b d4 (by omega) (by omega) (by omega) (by omega) hBr
     obtain⟨l1',l2'⟩:=Sort.pdq_sorts (lt C) hS d4 (mid+1) b l1 true true (by omega) (by omega) hBr
     have hB':=(hright _ l1' l2').1
     simp(disch:=omega) only[dF,cond_false,k,bind_some',if_neg hlt]
     refine⟨_,rfl,?_⟩
     rw[← hG]
     exact ih (f+1) m a mid l1 _ ap _ (by omega) (by omega) (by omega) (by omega) (by omega) (by rw[l1'.1]; omega) (by rw[l1'.1]; omega) hl1 hB'
   by_cases ha0:0 < a
   ·have ga:decide ((0:Int) < (a:Int))=true:=by simp; omega
    simp(disch:=omega) only[ga,cond_true,p1,aI,au,aH,aR,hC,bind_some',vP]
    cases hq:lt C d3[a-1]! d3[pv]!
    ·simp only[Bool.not_false,cond_true,Bool.and_true,decide_eq_true_eq,if_pos (show a > 0 from ha0)]
     have hr:=peq hC (d:=d3) (a:=a) (b:=b) (p:=pv) (by omega) (by omega) (by omega) (by omega) (by omega)
     rcases hx:Sort.partitionEqual (lt C) d3 a b pv with⟨mid,d4⟩
     obtain⟨g1,g2,hs4,hB4,hfin⟩:=Sort.round_eq hS (Sort.partitionEqual_holds _) ha0 hpv.1 hpv.2 (by omega) B3 hq hx
     rw[hx]at hr
     simp only at hr
     simp only[hr,bind_some',dif_pos (And.intro g1 g2)]
     rw[← hG]
     exact ih (f+1) m mid b l1 wb wp d4 (by omega) (by omega) (by omega) (by omega) g2 (by omega) (by omega) hl1 hB4
    ·simp only[Bool.not_true,cond_false,Bool.and_false,Bool.false_eq_true,if_false]
     rcases hx:Sort.partition (lt C) d3 a b pv with⟨mid,ap,d4⟩
     obtain⟨s',k1,k2⟩:=part mid ap d4 hx
     rw[k1]
     exact k2
   ·have ga:decide ((0:Int) < (a:Int))=false:=by simp; omega
    have gn:decide (a > 0)=false:=by simp; omega
    simp only[ga,cond_false,gn,Bool.false_and,Bool.false_eq_true,if_false]
    rcases hx:Sort.partition (lt C) d3 a b pv with⟨mid,ap,d4⟩
    obtain⟨s',k1,k2⟩:=part mid ap d4 hx
    rw[k1]
    exact k2
  ·simp only[cond_true,Sum.elim_inl,if_true]
theorem top (hS:Sort.SWO (lt C)){d:Array β}(hz:d.size≤250):P109 (MA v d)=some (MA v (Sort.sort (lt C) d)):=by
 have hl:Sort.bitsLen d.size≤8:=(Sort.bitsLen_le_iff d.size 8).2 (by omega)
 have fu:ah .u64 (d.size:Int)=true:=m8 (by omega) (by omega)
 have k:=Ta hC hS 1000 18446744073709551615 18446744073709551616 0 d.size (Sort.bitsLen d.size) true true d (by omega) (by omega) (by omega) (by omega) (by omega) (Nat.le_refl _) hz (by omega) (.inl rfl)
 have k':sJ (iO 18446744073709551615) (0,(d.size:Int),((Sort.bitsLen d.size:Nat):Int),true,true,MA v d)=some (MA v (Sort.sort (lt C) d)):=k
 have e:P124 (0,(d.size:Int),((Sort.bitsLen d.size:Nat):Int),MA v d)=some (MA v (Sort.sort (lt C) d)):=by
  show Bv (iO 18446744073709551615) _ _ _ _=_
  simp only[Bv,IB,k',bind_some']
 simp(disch:=omega) only[P109,Vr,Rj,pb,fu,au,G3,bind_some',e]
end
theorem srt (K:E→Int)(gd:E→Prop)(x0:E)(h0:gd x0)(hK:∀ x y,gd x→gd y→∃ c:Int,P80 (x,y)=some c∧(decide (c < 0)=true↔K x < K y)){l:List E}(hl:∀ x∈l,gd x)(hz:l.length≤250):
  ∃ l',P109 l=some l'∧l'.Perm l∧Sd K l' 0 l'.length:=by
 letI:Inhabited {x:E // gd x}:=⟨⟨x0,h0⟩⟩
 let C:{x:E // gd x}→{x:E // gd x}→Int:=fun x y=>Classical.choose (hK x.1 y.1 x.2 y.2)
 have hC:∀ x y:{x:E // gd x},P80 (x.1,y.1)=some (C x y):=fun x y=>(Classical.choose_spec (hK x.1 y.1 x.2 y.2)).1
 have hlt:∀ x y:{x:E // gd x},lt C x y=true↔K x.1 < K y.1:=fun x y=>(Classical.choose_spec (hK x.1 y.1 x.2 y.2)).2
 have hlf:∀ x y:{x:E // gd x},lt C x y=false↔K y.1≤K x.1:=fun x y=>by rw[← Bool.not_eq_true,hlt]; omega
 have hS:Sort.SWO (lt C):=⟨fun x=>(hlf x x).2 (Int.le_refl _),fun x y z h1 h2=>(hlt _ _).2 (Int.lt_trans ((hlt _ _).1 h1) ((hlt _ _).1 h2)),fun x y z h1 h2=>(hlf _ _).2 (Int.le_trans ((hlf _ _).1 h2) ((hlf _ _).1 h1))⟩
 let d:Array {x:E // gd x}:=(l.attach.map fun x=>⟨x.1,hl x.1 x.2⟩).toArray
 have hd:MA (fun x:{x:E // gd x}=>x.1) d=l:=by
  simp only[MA,d,List.map_map]
  exact List.attach_map_subtype_val l
 have hds:d.size=l.length:=by simp[d]
 obtain⟨s1,s2⟩:=Sort.sort_sorts (lt C) hS d
 have ht:=top (v:=fun x:{x:E // gd x}=>x.1) hC hS (d:=d) (by omega)
 rw[hd]at ht
 refine⟨_,ht,?_,fun i j q1 q2 q3=>?_⟩
 ·have hp:=s1.2.2
  have e1:∀ r:Array {x:E // gd x},r.size=d.size→r.extract 0 d.size=r:=fun r hr=>by rw[← hr]; simp
  rw[e1 _ s1.1,show d.extract 0 d.size=d by simp]at hp
  have:=hp.map (fun x:{x:E // gd x}=>x.1)
  rw[← hd]
  exact this
 ·rw[pb]at q3
  have e:∀ k,k < (Sort.sort (lt C) d).size→gt (MA (fun x:{x:E // gd x}=>x.1) (Sort.sort (lt C) d)) k=((Sort.sort (lt C) d)[k]!).1:=fun k hk=>by rw[← cz,aR hk]
  rw[e i (by omega),e j q3]
  exact(hlf _ _).1 (s2 i j q1 q2 (by have:=s1.1; omega))
end Pdq109
theorem Sy (x y:Int):KX [x,y]=some (if x≠0 then x else y):=by
 have e:∃ z,ze (0,[x,y],2,0)=some z∧Sum.elim id id z=(if x≠0 then x else y):=by
  by_cases h1:x=0
  ·by_cases h2:y=0
   ·refine⟨Sum.inr 0,bT (step:=fun x=>zd x.1 x.2.1 x.2.2.1 x.2.2.2) 2 (fun k=>(0,[x,y],2,(k:Int))) (Sum.inr 0) (fun i hi=>?_) rfl (by omega),by rw[if_neg (by simpa using h1),h2]; rfl⟩
    subst h1; subst h2
    rcases(show i=0∨i=1 by omega)with rfl | rfl <;> rfl
   ·refine⟨Sum.inl y,bT (step:=fun x=>zd x.1 x.2.1 x.2.2.1 x.2.2.2) 1 (fun k=>(0,[x,y],2,(k:Int))) (Sum.inl y) (fun i hi=>?_) ?_ (by omega),by rw[if_neg (by simpa using h1)]; rfl⟩
    ·subst h1
     obtain rfl:i=0:=by omega
     rfl
    ·show cond (!decide (y=0)) (some (Sum.inr (Sum.inl y))) _=_
     rw[decide_eq_false h2]; rfl
  ·refine⟨Sum.inl x,bT (step:=fun x=>zd x.1 x.2.1 x.2.2.1 x.2.2.2) 0 (fun k=>(0,[x,y],2,(k:Int))) (Sum.inl x) (fun i hi=>by omega) ?_ (by omega),by rw[if_pos h1]; rfl⟩
   show cond (!decide (x=0)) (some (Sum.inr (Sum.inl x))) _=_
   rw[decide_eq_false h1]; rfl
 obtain⟨z,e1,e2⟩:=e
 show q81 ze [x,y]=_
 unfold q81
 rw[show(↑(List.length [x,y]):Int)=2 from rfl,e1,← e2]
 cases z <;> rfl
theorem Sz {a b:aq}(ha:aY a)(hb:aY b):∃ c:Int,P80 (a,b)=some c∧(decide (c < 0)=true↔kc a < kc b):=by
 have h1:=ha.1
 have h2:=ha.2.1
 have h3:=hb.1
 have h4:=hb.2.1
 refine⟨if a.2.1-b.2.1≠0 then a.2.1-b.2.1 else a.1-b.1,?_,?_⟩
 ·show q80 KX a b=_
  unfold q80
  rw[aE (bY (by omega) (by omega)),aE (bY (by omega) (by omega)),Sy]
  rfl
 ·rw[decide_eq_true_eq,Ol ha hb]
  split <;> omega
theorem J2 (l:List aq)(hl:l.length≤250)(hv:∀ c∈l,aY c)(hk:jp l):
  ∃ s m,zt l=some s∧tj s=some m∧m.Pairwise (fun a b=>kc a < kc b)∧∀ x,x∈m↔x∈l:=by
 obtain⟨s,e1,e2,e3⟩:=Pdq109.srt kc aY (0,0,1,0,1) ⟨⟨by decide,by decide⟩,⟨by decide,by decide⟩,.inl ⟨rfl,by decide,by decide⟩,⟨by decide,by decide⟩⟩ (fun x y hx hy=>Sz hx hy) hv hl
 refine⟨s,iS s s.length,?_,Sv s (by rw[e2.length_eq]; omega),?_,fun x=>?_⟩
 ·show q78 P108 P109 l=_
  unfold q78
  have e:P108 l=some l:=by
   show Is P123 l=_
   unfold Is
   rw[JZ l (by omega)]
   rfl
  rw[e,bind_some',e1]
  rfl
 ·refine(ddN_asc kc s e3 (fun a ha b hb h=>?_) s.length (Nat.le_refl _)).1
  have ha':=e2.mem_iff.1 ha
  have hb':=e2.mem_iff.1 hb
  exact hk a ha' b hb' (GB (hv a ha') (hv b hb') h)
 ·rw[na,e2.mem_iff]
noncomputable def hrd (l:List aq):List aq:=(xF l).getD []
theorem fR {l:List aq}(hl:l.length≤250)(hv:∀ c∈l,aY c)(hk:jp l):xF l=some (hrd l)∧(hrd l).Pairwise (fun a b=>kc a < kc b)∧(∀ x,x∈hrd l↔x∈l)∧(hrd l).length≤l.length:=by
 obtain⟨m,e1,e2,e3⟩:=Sx l (by omega) hv hk
 have e:hrd l=m:=by unfold hrd; rw[e1]; rfl
 rw[e]
 exact⟨e1,e2,e3⟩
theorem jq {l m:List aq}(hl:l.length≤250)(hv:∀ c∈l,aY c)(hk:jp l)(h1:m.Pairwise (fun a b=>kc a < kc b))(h2:∀ x,x∈m↔x∈l):m=hrd l:=by
 obtain⟨_,e2,e3,_⟩:=fR hl hv hk
 exact pw kc h1 e2 fun x=>by rw[h2,e3]
theorem GE (l:List aq)(hl:l.length≤250)(hv:∀ c∈l,aY c)(hk:jp l):∃ s,zt l=some s∧tj s=some (hrd l):=by
 obtain⟨s,m,e1,e2,e3,e4⟩:=J2 l hl hv hk
 refine⟨s,e1,?_⟩
 rw[e2,jq hl hv hk e3 e4]
def gW (hold minute:Int):List aq→HM→HM
 | [],x=>x
 | c::cs,x=>if minute < c.2.1 then x else gW hold minute cs (dD (dR hold c.2.1 x) c)
def GF (rows:List Int):HM:=(ew rows,fun _=>vO,[])
noncomputable def aF (h:List Int×Int)(l:List aq)(minute:Int):HM:=dR h.2 minute (gW h.2 minute (hrd l) (GF h.1))
def cL (h:List Int×Int):Prop:=(1≤h.1.length∧h.1.length≤6)∧(∀ n∈h.1,1≤n∧n≤12)∧(1≤h.2∧h.2≤600)
def kP (rows:List Int):List Nat:=rows.map Int.toNat
theorem n9 {h:List Int×Int}(hh:cL h):∀ k∈kP h.1,k≤12:=fun k hk=>by
 obtain⟨n,hn,rfl⟩:=List.mem_map.1 hk
 have:=hh.2.1 n hn
 omega
theorem sZ {h:List Int×Int}(hh:cL h):(kP h.1).length≤30:=by
 have:=hh.1
 unfold kP
 simp only[List.length_map]
 omega
theorem xU {rows:List Int}{r i:Nat}(hr:r < (ew rows).length)(hi:i < (gt (ew rows) r).length):gt (gt (ew rows) r) i = -1:=by
 have hr':r < rows.length:=by simpa [ew]using hr
 have e:gt (ew rows) r=List.replicate (gt rows r).toNat (-1):=by
  rw[cC hr,cC hr']
  simp[ew]
 rw[e]at hi ⊢
 rw[cC hi]
 simp
theorem IM0 (rows:List Int):IM (kP rows) (GF rows):=by
 have nh:¬ held vO:=by rintro(e | e) <;> cases e
 refine⟨?_,fun n hn=>absurd hn nh,fun r i hr hi=>.inl (xU hr hi),fun _ _=>rfl,fun _=>.inl rfl⟩
 show(ew rows).map List.length=kP rows
 unfold ew kP
 rw[List.map_map]
 exact List.map_congr_left fun n _=>by simp
theorem PK0 (rows:List Int):PK [] (GF rows).2.1:=⟨by simp,fun _=>rfl,fun n o h=>by cases h⟩
theorem rx (x:HM)(c:aq):(dD x c).2.2.length≤x.2.2.length+1:=by
 unfold dD sV pr kN
 split
 ·split
  ·split <;> simp
  ·omega
 ·split
  ·split <;> simp
  ·split <;> simp
theorem IM.go {lens:List Nat}(hold minute:Int):∀ (l:List aq) {x:HM},IM lens x→(∀ c∈l,aY c)→IM lens (gW hold minute l x)
 | [],_,h,_=>h
 | c::l,x,h,hc=>by
  unfold gW
  split
  ·exact h
  ·exact IM.go hold minute l ((h.lap hold c.2.1).hear (hc c (by simp))) fun d hd=>hc d (by simp[hd])
theorem SA {lens:List Nat}{rows:List Int}{hold minute:Int}{m:List aq}{x:HM}{pool:List eu}(hm:m.length≤250)(hc:∀ c∈m,aY c)(h:IM lens x)(k:PK pool x.2.1)(sm:∀ k∈lens,k≤12)(sl:lens.length≤30)(hh:0≤hold∧hold≤100000)(hv:x.2.2.length≤100):
  ∃ pool',L65_0 (minute,(m.length:Int),0,rows,hold,m,x.1,x.2.2,pool)=some (minute,rows,hold,m,(gW hold minute m x).1,(gW hold minute m x).2.2,pool')∧PK pool' (gW hold minute m x).2.1:=by
 have key:=eI (step:=fun x=>Lc x.1 x.2.1 x.2.2.1 x.2.2.2.1 x.2.2.2.2.1 x.2.2.2.2.2.1 x.2.2.2.2.2.2.1 x.2.2.2.2.2.2.2.1 x.2.2.2.2.2.2.2.2)
  (fun s=>m.length-s.2.2.1.toNat)
  (fun s=>∃ (i:Nat) (y:HM) (pool:List eu),i≤m.length∧s=(minute,(m.length:Int),(i:Int),rows,hold,m,y.1,y.2.2,pool)∧IM lens y∧PK pool y.2.1∧y.2.2.length≤100+i∧gW hold minute (m.drop i) y=gW hold minute m x)
  (fun y=>∃ pool',y=(minute,rows,hold,m,(gW hold minute m x).1,(gW hold minute m x).2.2,pool')∧PK pool' (gW hold minute m x).2.1)
  (x:=(minute,(m.length:Int),((0:Nat):Int),rows,hold,m,x.1,x.2.2,pool)) ⟨0,x,pool,Nat.zero_le _,rfl,h,k,by omega,rfl⟩ (by show m.length-_ < _; omega) (by
   rintro s ⟨i,y,pool,hi,rfl,hy,ky,vy,hg⟩
   show(∃ s',qT Bo Bp zt tj P83 P84 minute (m.length:Int) (i:Int) rows hold m y.1 y.2.2 pool=_∧_)∨∃ z,qT Bo Bp zt tj P83 P84 minute (m.length:Int) (i:Int) rows hold m y.1 y.2.2 pool=_∧_
   by_cases him:i < m.length
   ·have hd:m.drop i=gt m i::m.drop (i+1):=by rw[List.drop_eq_getElem_cons him,cC him]
    rw[hd,gW]at hg
    unfold qT
    rw[bg him,cond_true,aE (aN him),cz]
    by_cases c:minute < (gt m i).2.1
    ·rw[decide_eq_true c,cond_true]
     rw[if_pos c]at hg
     exact .inr ⟨_,rfl,pool,by rw[← hg],by rw[← hg]; exact ky⟩
    ·rw[decide_eq_false c,cond_false]
     rw[if_neg c]at hg
     left
     obtain⟨pool1,e1,k1⟩:=Ok (rows:=rows) (hold:=hold) (minute:=(gt m i).2.1) hy ky sm hh
     have hy1:=hy.lap hold (gt m i).2.1
     have vy1:(dR hold (gt m i).2.1 y).2.2.length≤100+i:=vy
     rw[e1,bind_some']
     obtain⟨pool2,e2,k2⟩:=P84_M (rows:=rows) (hold:=hold) hy1 k1 sm sl (hc _ (cU him)) (by omega)
     simp only
     rw[e2,bind_some']
     simp only
     rw[aE (aX (by omega))]
     have hvv:=rx (dR hold (gt m i).2.1 y) (gt m i)
     exact⟨_,rfl,⟨i+1,_,pool2,by omega,rfl,hy1.hear (hc _ (cU him)),k2,by omega,hg⟩,by show m.length-((i:Int)+1).toNat < m.length-((i:Nat):Int).toNat; omega⟩
   ·obtain rfl:i=m.length:=by omega
    rw[List.drop_length]at hg
    refine .inr ⟨_,?_,pool,rfl,?_⟩
    ·unfold qT
     rw[bF,cond_false,← hg]
     rfl
    ·rw[← hg]; exact ky)
 obtain⟨y,h1,pool',rfl,h2⟩:=key
 exact⟨pool',h1,h2⟩
def bC (l:List aq):Prop:=l.length≤40∧(∀ c∈l,aY c)∧jp l
theorem xV {l:List aq}(h:bC l):(∀ c∈hrd l,aY c)∧(hrd l).length≤250:=by
 obtain⟨h1,h2,h3⟩:=h
 obtain⟨e1,e2,e3,e4⟩:=fR (by omega) h2 h3
 exact⟨fun c hc=>h2 c ((e3 c).1 hc),by omega⟩
theorem BV {h:List Int×Int}(hh:cL h):∀ k,k < h.1.length→1≤gt h.1 k∧gt h.1 k≤12:=fun k hk=>hh.2.1 _ (cU hk)
theorem IM.after {h:List Int×Int}{l:List aq}(hl:bC l)(minute:Int):IM (kP h.1) (aF h l minute):=
 ((IM0 h.1).go h.2 minute (hrd l) (xV hl).1).lap h.2 minute
theorem P65_M {h:List Int×Int}{l:List aq}(minute:Int)(hh:cL h)(hl:bC l):
  ∃ pool,P65 (h,l,minute)=some (h.1,h.2,(aF h l minute).1,(aF h l minute).2.2,pool)∧PK pool (aF h l minute).2.1:=by
 obtain⟨rows,hold⟩:=h
 have hr:=BV hh
 have h6:=hh.1
 have hH:=hh.2.2
 simp only at hr h6 hH
 obtain⟨s,e1,e2⟩:=GE l (by have:=hl.1; omega) hl.2.1 hl.2.2
 obtain⟨c1,c2⟩:=xV hl
 obtain⟨p1,e3,k1⟩:=SA (rows:=rows) (hold:=hold) (minute:=minute) c2 c1 (IM0 rows) (PK0 rows) (n9 hh) (sZ hh) (by omega) (by simp[GF])
 obtain⟨p2,e4,k2⟩:=Ok (rows:=rows) (hold:=hold) (minute:=minute) ((IM0 rows).go hold minute (hrd l) c1) k1 (n9 hh) (by omega)
 refine⟨p2,?_,k2⟩
 show q65 Bo Bp zt tj P83 P84 L65_0 (rows,hold) l minute=_
 unfold q65
 rw[S4 (by omega) hr,bind_some',show Bp l=some l from rfl,bind_some',e1,bind_some',e2,bind_some']
 simp only
 rw[show L65_0 (minute,(↑(List.length (hrd l)):Int),0,rows,hold,hrd l,ew rows,[],[])=_ from e3,bind_some']
 simp only
 rw[e4]
 rfl
instance (c:aq):Decidable (aY c):=by unfold aY; infer_instance
instance (h:List Int×Int):Decidable (cL h):=by unfold cL; infer_instance
instance (l:List aq):Decidable (bC l):=by unfold bC jp; infer_instance
def kQ (h:List Int×Int)(l:List aq):Int:=if cL h then(if bC l then 0 else 41)else 40
theorem mO (x a b:Int):P60 (x,a,b)=some (wi x a b):=sr x a b
theorem xW (x a b:Int):P57 (x,a,b)=some (wi x a b):=sr x a b
theorem vk (c:aq):decide (aY c)=(wi c.1 0 99&&wi c.2.1 0 9999&&wi c.2.2.2.1 0 99&&(cond (decide (c.2.2.1=1)) (wi c.2.2.2.2 1 12) (cond (decide (c.2.2.1=2)) (decide (c.2.2.2.2=0)) (cond (decide (c.2.2.1=3)) (decide (c.2.2.2.2=0)) false)))):=by
 rw[Bool.eq_iff_iff,decide_eq_true_eq]
 unfold aY
 rw[Bool.and_eq_true,Bool.and_eq_true,Bool.and_eq_true,eH,eH,eH]
 by_cases k1:c.2.2.1=1
 ·rw[decide_eq_true k1,cond_true,eH]; omega
 ·rw[decide_eq_false k1,cond_false]
  by_cases k2:c.2.2.1=2
  ·rw[decide_eq_true k2,cond_true,decide_eq_true_eq]; omega
  ·rw[decide_eq_false k2,cond_false]
   by_cases k3:c.2.2.1=3
   ·rw[decide_eq_true k3,cond_true,decide_eq_true_eq]; omega
   ·rw[decide_eq_false k3,cond_false]
    refine⟨fun h=>by omega,fun h=>absurd h.2 (by decide)⟩
theorem SB (c:aq):P50 c=some (decide (aY c)):=by
 show q50 P57 c=_
 unfold q50
 rw[vk]
 simp only[xW,bind_some']
 cases wi c.1 0 99 with
 | false=>rfl
 | true=>
  cases wi c.2.1 0 9999 with
  | false=>rfl
  | true=>
   cases wi c.2.2.2.1 0 99 with
   | false=>rfl
   | true=>
    simp only[Bool.not_true,cond_false,Bool.true_and]
    cases decide (c.2.2.1=1)with
    | true=>rfl
    | false=>
     cases decide (c.2.2.1=2)with
     | true=>rfl
     | false=>cases decide (c.2.2.1=3) <;> rfl
theorem wi00 (x:Int):wi x 0 0=decide (x=0):=by
 rw[Bool.eq_iff_iff,eH,decide_eq_true_eq]; omega
theorem SC (c:aq):Bl c=some (decide (aY c)):=by
 show q49 P60 c=_
 unfold q49
 rw[vk]
 simp only[mO,bind_some',wi00]
 cases decide (c.2.2.1=1)with
 | true=>cases wi c.1 0 99 <;> cases wi c.2.1 0 9999 <;> cases wi c.2.2.2.1 0 99 <;> rfl
 | false=>
  cases decide (c.2.2.1=2)with
  | true=>cases wi c.1 0 99 <;> cases wi c.2.1 0 9999 <;> cases wi c.2.2.2.1 0 99 <;> rfl
  | false=>
   cases decide (c.2.2.1=3)with
   | true=>cases wi c.1 0 99 <;> cases wi c.2.1 0 9999 <;> cases wi c.2.2.2.1 0 99 <;> rfl
   | false=>cases wi c.1 0 99 <;> cases wi c.2.1 0 9999 <;> cases wi c.2.2.2.1 0 99 <;> rfl
theorem SD (n:Int):P69 n=some (!wi n 1 12):=by
 show q69 P60 n=_
 unfold q69
 rw[mO]
 rfl
theorem vl (h:List Int×Int):decide (cL h)=(fM h.1.length (fun k=>wi (gt h.1 k) 1 12)&&wi (h.1.length:Int) 1 6&&wi h.2 1 600):=by
 rw[Bool.eq_iff_iff,decide_eq_true_eq]
 unfold cL
 rw[Bool.and_eq_true,Bool.and_eq_true,eH,eH,PH (p:=fun n=>wi n 1 12)]
 simp only[eH]
 constructor
 ·rintro⟨a,b,c⟩; exact⟨⟨b,by omega⟩,c⟩
 ·rintro⟨⟨b,a⟩,c⟩; exact⟨by omega,b,c⟩
theorem SE (h:List Int×Int)(hl:h.1.length≤1000):P37 h=some (decide (cL h)):=by
 show q37 P57 zW h=_
 unfold q37
 have e:zW (0,h)=some (cond (fM h.1.length (fun k=>wi (gt h.1 k) 1 12)) (Sum.inr h) (Sum.inl (false,h))):=by
  refine jH (step:=fun x=>MO x.1 x.2) h.1.length (fun k=>((k:Int),h)) (fun k=>wi (gt h.1 k) 1 12) _ _ (fun k hk=>?_) ?_ (by omega)
  ·show rh P57 (k:Int) h=_
   unfold rh
   rw[show decide ((k:Int) < (↑(List.length h.1):Int))=true from bg hk,cond_true,aE (aN hk),cz,xW,bind_some']
   cases wi (gt h.1 k) 1 12 with
   | false=>rfl
   | true=>rw[Bool.not_true,cond_false,aE (aX (by omega))]; rfl
  ·show rh P57 (h.1.length:Int) h=_
   unfold rh
   rw[show decide ((h.1.length:Int) < (↑(List.length h.1):Int))=false from bF _,cond_false]
 rw[e,vl]
 cases fM h.1.length (fun k=>wi (gt h.1 k) 1 12)with
 | false=>rfl
 | true=>
  simp only[cond_true,bind_some',elim_inr,xW]
  rw[show((↑(List.length h.1):Int))=(h.1.length:Int)from rfl]
  cases wi (h.1.length:Int) 1 6 <;> rfl
theorem SF (h:List Int×Int)(hl:h.1.length≤1000):Bk h=some (decide (cL h)):=by
 have e74:∃ z,P74 h.1=some z∧decide (0≤z)=!fM h.1.length (fun k=>wi (gt h.1 k) 1 12):=by
  rcases iA (step:=fun x=>KI x.1 x.2.1 x.2.2) h.1.length (fun k=>(h.1,(h.1.length:Int),(k:Int))) (fun k=>!wi (gt h.1 k) 1 12) (fun k=>Sum.inl (k:Int)) (Sum.inr ())
   (fun k hk _=>by
    show qP P69 h.1 (h.1.length:Int) (k:Int)=_
    unfold qP
    rw[bg hk,cond_true,aE (aN hk),cz,SD,bind_some']
    cases wi (gt h.1 k) 1 12 with
    | false=>rfl
    | true=>rw[Bool.not_true,cond_false,aE (aX (by omega))]; rfl)
   (fun _=>by
    show qP P69 h.1 (h.1.length:Int) (h.1.length:Int)=_
    unfold qP
    rw[bF,cond_false]) (by omega)with⟨k,h1,h2,h3,h4⟩ | ⟨h3,h4⟩
  ·refine⟨(k:Int),?_,?_⟩
   ·show Tv P69 qQ h.1=_
    unfold Tv
    rw[show qQ (h.1,(↑(List.length h.1):Int),0)=_ from h4]
    rfl
   ·rw[decide_eq_true (by omega)]
    symm
    rw[Bool.not_eq_true',← Bool.not_eq_true]
    intro ha
    have:=dc.1 ha k h1
    rw[this]at h2
    cases h2
  ·refine⟨-1,?_,?_⟩
   ·show Tv P69 qQ h.1=_
    unfold Tv
    rw[show qQ (h.1,(↑(List.length h.1):Int),0)=_ from h4]
    rfl
   ·symm
    rw[show decide ((0:Int) ≤ -1)=false from rfl,Bool.not_eq_false']
    exact dc.2 fun k hk=>by have:=h3 k hk; simpa using this
 obtain⟨z,e1,e2⟩:=e74
 have e58:P58 h.1=some (!fM h.1.length (fun k=>wi (gt h.1 k) 1 12)):=by
  show q58 P74 h.1=_
  unfold q58
  rw[e1,bind_some',e2]
 show q48 P60 P58 h=_
 unfold q48
 rw[vl,mO,bind_some',e58]
 simp only[mO,bind_some']
 rw[show((↑(List.length h.1):Int))=(h.1.length:Int)from rfl]
 cases wi (h.1.length:Int) 1 6 <;> cases fM h.1.length (fun k=>wi (gt h.1 k) 1 12) <;> cases wi h.2 1 600 <;> rfl
def s6 (l:List aq):Prop:=(∀ c∈l,aY c)∧jp l
theorem vn {l:List aq}(h:s6 l)(n:Nat):s6 (l.take n):=⟨fun c hc=>h.1 c (List.mem_of_mem_take hc),fun a ha b hb=>h.2 a (List.mem_of_mem_take ha) b (List.mem_of_mem_take hb)⟩
theorem okL_snoc {l:List aq}{c:aq}:s6 (l++[c])↔s6 l∧aY c∧∀ a∈l,a.1=c.1→a=c:=by
 unfold s6 jp
 constructor
 ·rintro⟨h1,h2⟩
  exact⟨⟨fun x hx=>h1 x (by simp[hx]),fun a ha b hb=>h2 a (by simp[ha]) b (by simp[hb])⟩,h1 c (by simp),fun a ha e=>h2 a (by simp[ha]) c (by simp) e⟩
 ·rintro⟨⟨h1,h2⟩,h3,h4⟩
  refine⟨fun x hx=>?_,fun a ha b hb e=>?_⟩
  ·rcases List.mem_append.1 hx with q | q
   ·exact h1 x q
   ·rw[List.mem_singleton.1 q]; exact h3
  ·rcases List.mem_append.1 ha with q | q <;> rcases List.mem_append.1 hb with p | p
   ·exact h2 a q b p e
   ·rw[List.mem_singleton.1 p]at e ⊢; exact h4 a q e
   ·rw[List.mem_singleton.1 q]at e ⊢; exact(h4 b p e.symm).symm
   ·rw[List.mem_singleton.1 q,List.mem_singleton.1 p]
theorem GG {l:List aq}{i:Nat}(hi:i < l.length)(hl:l.length≤1000):∃ y,L27_1 (l,(i:Int),0)=some y∧((y = .inr (l,(i:Int))∧∀ a∈l.take i,a.1=(gt l i).1→a=gt l i)∨(y = .inl 41∧¬ ∀ a∈l.take i,a.1=(gt l i).1→a=gt l i)):=by
 rcases iA (step:=fun x=>MU x.1 x.2.1 x.2.2) i (fun k=>(l,(i:Int),(k:Int))) (fun k=>decide ((gt l k).1=(gt l i).1)&&!decide (gt l k=gt l i)) (fun _=>Sum.inl 41) (Sum.inr (l,(i:Int)))
  (fun k hk _=>by
   show ri P37 P50 l (i:Int) (k:Int)=_
   unfold ri
   have f:ah .i64 ((k:Int)+1)=true:=aX (by omega)
   simp only[bg hk,cond_true,aN (show k < l.length by omega),aN hi,au,cz,Su,f]
   cases decide ((gt l k).1=(gt l i).1)with
   | false=>rfl
   | true=>cases decide (gt l k=gt l i) <;> rfl)
  (fun _=>by
   show ri P37 P50 l (i:Int) (i:Int)=_
   unfold ri
   rw[bF,cond_false]) (by omega)with⟨k,h1,h2,h3,h4⟩ | ⟨h3,h4⟩
 ·refine⟨_,h4,.inr ⟨rfl,fun h=>?_⟩⟩
  simp only[Bool.and_eq_true,decide_eq_true_eq,Bool.not_eq_true',decide_eq_false_iff_not]at h2
  exact h2.2 (h _ (by rw[← ss l i k h1]; exact cU (by simp; omega)) h2.1)
 ·refine⟨_,h4,.inl ⟨rfl,fun a ha e=>?_⟩⟩
  obtain⟨j,hj,q⟩:=eU ha
  rw[List.length_take]at hj
  rw[ss _ _ _ (by omega)]at q
  have:=h3 j (by omega)
  rw[q]at this
  simpa [e]using this
theorem GH (l:List aq)(hl:l.length≤1000):(s6 l∧uP (l,0)=some (.inr ()))∨(¬ s6 l∧uP (l,0)=some (.inl 41)):=by
 have key:=eI (step:=fun x=>MW x.1 x.2)
  (fun s=>l.length-s.2.toNat)
  (fun s=>∃ i:Nat,i≤l.length∧s=(l,(i:Int))∧s6 (l.take i))
  (fun y=>(s6 l∧y=Sum.inr ())∨(¬ s6 l∧y=Sum.inl 41))
  (x:=(l,((0:Nat):Int))) ⟨0,Nat.zero_le _,rfl,by unfold s6 jp; simp⟩ (by show l.length-_ < _; omega) (by
   rintro s ⟨i,hi,rfl,ho⟩
   show(∃ s',q27_0 P37 P50 L27_1 l (i:Int)=_∧_)∨∃ z,q27_0 P37 P50 L27_1 l (i:Int)=_∧_
   unfold q27_0
   by_cases him:i < l.length
   ·have ht:=fP l him
    rw[show decide ((i:Int) < (↑(List.length l):Int))=true from bg him,cond_true,aE (aN him),cz,SB,bind_some']
    by_cases hc:aY (gt l i)
    ·rw[decide_eq_true hc,Bool.not_true,cond_false]
     obtain⟨y,e1,⟨rfl,e2⟩ | ⟨rfl,e2⟩⟩:=GG him hl
     ·left
      rw[e1,bind_some',elim_inr]
      simp only
      rw[aE (aX (by omega))]
      exact⟨_,rfl,⟨i+1,by omega,rfl,by rw[ht]; exact okL_snoc.2 ⟨ho,hc,e2⟩⟩,by show l.length-((i:Int)+1).toNat < l.length-((i:Nat):Int).toNat; omega⟩
     ·right
      rw[e1,bind_some',elim_inl]
      refine⟨_,rfl,.inr ⟨fun h=>e2 ?_,rfl⟩⟩
      have:=vn h (i+1)
      rw[ht]at this
      exact(okL_snoc.1 this).2.2
    ·right
     rw[decide_eq_false hc,Bool.not_false,cond_true]
     exact⟨_,rfl,.inr ⟨fun h=>hc (h.1 _ (cU him)),rfl⟩⟩
   ·obtain rfl:i=l.length:=by omega
    rw[List.take_length]at ho
    right
    rw[show decide ((l.length:Int) < (↑(List.length l):Int))=false from bF _,cond_false]
    exact⟨_,rfl,.inl ⟨ho,rfl⟩⟩)
 obtain⟨y,h1,⟨h2,rfl⟩ | ⟨h2,rfl⟩⟩:=key
 ·exact .inl ⟨h2,h1⟩
 ·exact .inr ⟨h2,h1⟩
theorem vo {h:List Int×Int}{l:List aq}(h1:cL h)(h2:40 < l.length):kQ h l=41:=by
 unfold kQ
 rw[if_pos h1,if_neg fun q=>by have:=q.1; omega]
theorem SG (h:List Int×Int)(l:List aq)(hh:h.1.length≤1000)(hl:l.length≤1000):vN (h,l)=some (kQ h l):=by
 show q27 P37 P50 uP h l=_
 unfold q27
 rw[SE h hh,bind_some']
 by_cases h1:cL h
 ·rw[decide_eq_true h1,Bool.not_true,cond_false]
  by_cases h2:40 < l.length
  ·rw[show decide (40 < (↑(List.length l):Int))=true from decide_eq_true (by omega),cond_true,vo h1 h2]
  ·rw[show decide (40 < (↑(List.length l):Int))=false from decide_eq_false (by omega),cond_false]
   unfold kQ
   rw[if_pos h1]
   rcases GH l hl with⟨e1,e2⟩ | ⟨e1,e2⟩
   ·rw[e2,if_pos ⟨by omega,e1.1,e1.2⟩]; rfl
   ·rw[e2,if_neg fun q=>e1 ⟨q.2.1,q.2.2⟩]; rfl
 ·rw[decide_eq_false h1,Bool.not_false,cond_true]
  unfold kQ
  rw[if_neg h1]
theorem GI (l:List aq)(hl:l.length≤1000):(s6 l∧∃ m,L26_0 (l,(l.length:Int),0,[])=some (.inr m))∨(¬ s6 l∧∃ m,L26_0 (l,(l.length:Int),0,[])=some (.inl (41,m))):=by
 have key:=eI (step:=fun x=>KM x.1 x.2.1 x.2.2.1 x.2.2.2)
  (fun s=>l.length-s.2.2.1.toNat)
  (fun s=>∃ (i:Nat) (m:List (List Int×aq)),i≤l.length∧s=(l,(l.length:Int),(i:Int),m)∧s6 (l.take i)∧(∀ n x,dk m [n]=some x→x∈l.take i∧x.1=n)∧∀ x∈l.take i,dk m [x.1]=some x)
  (fun y=>(s6 l∧∃ m,y=Sum.inr m)∨(¬ s6 l∧∃ m,y=Sum.inl (41,m)))
  (x:=(l,(l.length:Int),((0:Nat):Int),[])) ⟨0,[],Nat.zero_le _,rfl,by unfold s6 jp; simp,fun n x h=>(by cases h),by simp⟩ (by show l.length-_ < _; omega) (by
   rintro s ⟨i,m,hi,rfl,ho,hm1,hm2⟩
   show(∃ s',uv Bk Bl l (l.length:Int) (i:Int) m=_∧_)∨∃ z,uv Bk Bl l (l.length:Int) (i:Int) m=_∧_
   unfold uv
   by_cases him:i < l.length
   ·have ht:=fP l him
    rw[bg him,cond_true,aE (aN him),cz,SC,bind_some']
    have next:s6 (l.take i++[gt l i])→∃ s',(some (Sum.inl (l,(l.length:Int),(i:Int)+1,i8 m [(gt l i).1] (gt l i))):Option ((List aq×Int×Int×List (List Int×aq))⊕((Int×List (List Int×aq))⊕List (List Int×aq))))=some (.inl s') ∧
      (∃ (i:Nat) (m:List (List Int×aq)),i≤l.length∧s'=(l,(l.length:Int),(i:Int),m)∧s6 (l.take i)∧(∀ n x,dk m [n]=some x→x∈l.take i∧x.1=n)∧∀ x∈l.take i,dk m [x.1]=some x)∧l.length-s'.2.2.1.toNat < l.length-((i:Nat):Int).toNat:=fun hok=>by
     refine⟨_,rfl,⟨i+1,_,by omega,rfl,by rw[ht]; exact hok,fun n x hx=>?_,fun x hx=>?_⟩,by show l.length-((i:Int)+1).toNat < l.length-((i:Nat):Int).toNat; omega⟩
     ·rw[mB]at hx
      rw[ht,List.mem_append,List.mem_singleton]
      by_cases c:[n]=[(gt l i).1]
      ·rw[if_pos c]at hx
       have c':n=(gt l i).1:=by simpa using c
       cases hx
       exact⟨.inr rfl,c'.symm⟩
      ·rw[if_neg c]at hx
       exact⟨.inl (hm1 n x hx).1,(hm1 n x hx).2⟩
     ·rw[mB]
      rw[ht,List.mem_append,List.mem_singleton]at hx
      by_cases c:[x.1]=[(gt l i).1]
      ·rw[if_pos c]
       have c':x.1=(gt l i).1:=by simpa using c
       rcases hx with hx | hx
       ·rw[(okL_snoc.1 hok).2.2 x hx c']
       ·rw[hx]
      ·rw[if_neg c]
       rcases hx with hx | hx
       ·exact hm2 x hx
       ·exact absurd (by rw[hx]) c
    by_cases hc:aY (gt l i)
    ·rw[decide_eq_true hc,Bool.not_true,cond_false]
     have f:ah .i64 ((i:Int)+1)=true:=aX (by omega)
     cases hk:dk m [(gt l i).1]with
     | none=>
      left
      rw[show Option.isSome (none:Option aq)=false from rfl,cond_false,aE f]
      refine next (okL_snoc.2 ⟨ho,hc,fun a ha e=>?_⟩)
      have:=hm2 a ha
      rw[e,hk]at this
      cases this
     | some old=>
      rw[show Option.isSome (some old)=true from rfl,cond_true,show wn (some old) ((0:Int),((0:Int),((0:Int),((0:Int),(0:Int)))))=old from rfl,Su]
      obtain⟨g1,g2⟩:=hm1 _ old hk
      by_cases hq:old=gt l i
      ·left
       rw[decide_eq_true hq,Bool.not_true,cond_false,aE f]
       refine next (okL_snoc.2 ⟨ho,hc,fun a ha e=>?_⟩)
       have:=hm2 a ha
       rw[e,hk]at this
       cases this
       exact hq
      ·right
       rw[decide_eq_false hq,Bool.not_false,cond_true]
       refine⟨_,rfl,.inr ⟨fun h=>hq ?_,m,rfl⟩⟩
       have:=vn h (i+1)
       rw[ht]at this
       exact(okL_snoc.1 this).2.2 old g1 g2
    ·right
     rw[decide_eq_false hc,Bool.not_false,cond_true]
     exact⟨_,rfl,.inr ⟨fun h=>hc (h.1 _ (cU him)),m,rfl⟩⟩
   ·obtain rfl:i=l.length:=by omega
    rw[List.take_length]at ho
    right
    rw[bF,cond_false]
    exact⟨_,rfl,.inl ⟨ho,m,rfl⟩⟩)
 obtain⟨y,h1,⟨h2,m,rfl⟩ | ⟨h2,m,rfl⟩⟩:=key
 ·exact .inl ⟨h2,m,h1⟩
 ·exact .inr ⟨h2,m,h1⟩
theorem GJ (h:List Int×Int)(l:List aq)(hh:h.1.length≤1000)(hl:l.length≤1000):uw (h,l)=some (kQ h l):=by
 show q26 Bk Bl L26_0 h l=_
 unfold q26
 rw[SF h hh,bind_some']
 by_cases h1:cL h
 ·rw[decide_eq_true h1,Bool.not_true,cond_false]
  by_cases h2:40 < l.length
  ·rw[show decide (40 < (↑(List.length l):Int))=true from decide_eq_true (by omega),cond_true,vo h1 h2]
  ·rw[show decide (40 < (↑(List.length l):Int))=false from decide_eq_false (by omega),cond_false]
   unfold kQ
   rw[if_pos h1]
   rcases GI l hl with⟨e1,m,e2⟩ | ⟨e1,m,e2⟩
   ·rw[show L26_0 (l,(↑(List.length l):Int),0,[])=_ from e2,if_pos ⟨by omega,e1.1,e1.2⟩]; rfl
   ·rw[show L26_0 (l,(↑(List.length l):Int),0,[])=_ from e2,if_neg fun q=>e1 ⟨q.2.1,q.2.2⟩]; rfl
 ·rw[decide_eq_false h1,Bool.not_false,cond_true]
  unfold kQ
  rw[if_neg h1]
theorem lG {h:List Int×Int}{l:List aq}:kQ h l=0↔cL h∧bC l:=by
 unfold kQ
 by_cases h1:cL h
 ·by_cases h2:bC l
  ·simp[h1,h2]
  ·simp[h1,h2]
 ·simp[h1]
def iC (h:List Int×Int)(l:List aq)(minute order size:Int):Int:=if kQ h l=0 then(if wi minute 0 9999=true∧wi order 0 99=true∧wi size 1 12=true then 0 else 1)else kQ h l
theorem iD {h:List Int×Int}{l:List aq}{minute order size:Int}:iC h l minute order size=0↔(cL h∧bC l)∧(0≤minute∧minute≤9999)∧(0≤order∧order≤99)∧(1≤size∧size≤12):=by
 unfold iC
 simp only[eH]
 by_cases h1:kQ h l=0
 ·rw[if_pos h1]
  have:=lG.1 h1
  split
  ·rename_i q; exact⟨fun _=>⟨this,q⟩,fun _=>rfl⟩
  ·rename_i q; exact⟨fun e=>(by cases e),fun e=>absurd e.2 q⟩
 ·rw[if_neg h1]
  exact⟨fun e=>absurd e h1,fun e=>absurd (lG.2 e.1) h1⟩
theorem ta (h:List Int×Int)(l:List aq)(minute order size:Int)(hh:h.1.length≤1000)(hl:l.length≤1000):pg (h,l,minute,order,size)=(if iC h l minute order size=0 then none else some (iC h l minute order size)):=by
 show q42 uw P60 P65 h l minute order size=_
 unfold q42
 rw[GJ h l hh hl,bind_some']
 unfold iC
 by_cases h1:kQ h l=0
 ·rw[decide_eq_true h1,Bool.not_true,cond_false,if_pos h1]
  simp only[mO,bind_some']
  have hn:∀ o:Option (List Int×Int×List (List Int)×List Int×List eu),(o.bind fun _=>(none:Option Int))=none:=fun o=>by cases o <;> rfl
  cases wi minute 0 9999 <;> cases wi order 0 99 <;> cases wi size 1 12 <;> first | rfl | exact hn _
 ·rw[decide_eq_false h1,Bool.not_false,cond_true,if_neg h1,if_neg h1]
theorem lH {h:List Int×Int}{l:List aq}{minute order size:Int}(h0:iC h l minute order size=0):
  ∃ pool,P42v1 (h,l,minute,order,size)=some (0,h.1,h.2,(aF h l minute).1,(aF h l minute).2.2,pool)∧PK pool (aF h l minute).2.1:=by
 obtain⟨⟨c1,c2⟩,c3,c4,c5⟩:=iD.1 h0
 obtain⟨pool,e1,e2⟩:=P65_M minute c1 c2
 refine⟨pool,?_,e2⟩
 show zD uw P60 P65 h l minute order size=_
 unfold zD
 rw[GJ h l (by have:=c1.1; omega) (by have:=c2.1; omega),bind_some',lG.2 ⟨c1,c2⟩]
 simp only[mO,bind_some',eH.2 c3,eH.2 c4,eH.2 c5,e1]
 rfl
namespace Pdq44
abbrev E:=Int
section
variable {β:Type} [Inhabited β] {v:β→E} {C:β→β→Bool}
def lt (C:β→β→Bool)(x y:β):Bool:=C x y
theorem eJ (a:Nat):∀ (j:Nat) (d:Array β),(Sort.insInner (lt C) a j d).size=d.size
 | 0,d=>by rw[Sort.insInner]
 | j+1,d=>by
  rw[Sort.insInner]
  split
  ·rw[eJ a j,aw]
  ·rfl
theorem eK (hi first:Nat):∀ (n root:Nat) (d:Array β),hi-root≤n→(Sort.siftDown (lt C) hi first root d).size=d.size:=by
 intro n
 induction n with
 | zero=>intro root d h; rw[Sort.siftDown,dif_pos (by omega)]
 | succ n ih=>
  intro root d h
  rw[Sort.siftDown]
  split
  ·rfl
  ·split
   ·split
    ·rfl
    ·rw[dif_pos (by rename_i h1 h2 h3; simp only[Bool.and_eq_true,decide_eq_true_eq]at h2; omega),ih _ _ (by omega),aw]
   ·split
    ·rfl
    ·rw[ih _ _ (by omega),aw]
theorem dK (hi first:Nat):∀ (k:Nat) (d:Array β),(Sort.heapBuild (lt C) hi first k d).size=d.size
 | 0,d=>rfl
 | k+1,d=>by rw[Sort.heapBuild,dK hi first k,eK hi first _ k d (Nat.le_refl _)]
variable (hC:∀ x y,P91 (v x,v y)=some (lt C x y))
include hC
theorem S6 {a b i:Nat}{j:Nat}{d:Array β}(h1:j < d.size)(h2:d.size≤250)(h3:a≤250):
  Fk ((a:Int),(b:Int),(i:Int),(j:Int),MA v d)=some ((a:Int),(b:Int),(i:Int),MA v (Sort.insInner (lt C) a j d)):=by
 refine aK (fun s r n=>∃ (j:Nat) (d:Array β),j < d.size∧d.size≤250∧s=((a:Int),(b:Int),(i:Int),(j:Int),MA v d)∧r=((a:Int),(b:Int),(i:Int),MA v (Sort.insInner (lt C) a j d))∧n=j) ⟨j,d,h1,h2,rfl,rfl,rfl⟩ (by omega) ?_
 rintro s r n ⟨j,d,q1,q2,rfl,rfl,rfl⟩
 simp only[Li,Fj]
 cases n with
 | zero=>left; simp(disch:=omega) only[iH,dF,cond_false,Sort.insInner]
 | succ j=>
  by_cases e:a < j+1
  ·simp(disch:=omega) only[iH,dT,cond_true,aH,au,p1,aI,aR,hC,bind_some',Nat.add_sub_cancel,Int.toNat_natCast]
   cases hl:lt C d[j+1]! d[j]!
   ·left
    rw[show Sort.insInner (lt C) a (j+1) d=d by rw[Sort.insInner]; simp[hl]]
    simp only[cond_false]
   ·right
    rw[show Sort.insInner (lt C) a (j+1) d=Sort.insInner (lt C) a j (Sort.swp d (j+1) j)by rw[Sort.insInner]; simp[hl,e]]
    simp(disch:=omega) only[cond_true,bA,aV,bB,au]
    exact⟨_,j,rfl,⟨j,Sort.swp d (j+1) j,by rw[aw]; omega,by rwa [aw],rfl,rfl,rfl⟩,by omega⟩
  ·left
   rw[show Sort.insInner (lt C) a (j+1) d=d by rw[Sort.insInner]; simp[e]]
   simp(disch:=omega) only[iH,dF,cond_false]
theorem ins {a b:Nat}{d:Array β}(hb:b≤d.size)(hz:d.size≤250)(ha:a≤250):qU ((a:Int),(b:Int),MA v d)=some (MA v (Sort.insertionSort (lt C) d a b)):=by
 have e:Fm ((a:Int),(b:Int),((a+1:Nat):Int),MA v d)=some (MA v (Sort.insOuter (lt C) a b (a+1) d)):=by
  refine aK (fun s r n=>∃ (i:Nat) (d:Array β),b≤d.size∧d.size≤250∧s=((a:Int),(b:Int),(i:Int),MA v d)∧r=MA v (Sort.insOuter (lt C) a b i d)∧n=b-i) ⟨a+1,d,hb,hz,rfl,rfl,rfl⟩ (by omega) ?_
  rintro s r n ⟨i,d,q1,q2,rfl,rfl,rfl⟩
  simp only[Lk,Fl]
  rw[Sort.insOuter]
  by_cases e:i < b
  ·right
   simp(disch:=omega) only[iH,dT,cond_true,S6 hC,bind_some',aI,au,a1]
   exact⟨_,b-(i+1),rfl,⟨i+1,Sort.insInner (lt C) a i d,by rwa [eJ],by rwa [eJ],rfl,by rw[if_pos e],rfl⟩,by omega⟩
  ·left
   simp(disch:=omega) only[iH,dF,cond_false,if_neg e]
 simp(disch:=omega) only[qU,p85,q85,aI,au,a1,e,bind_some',Sort.insertionSort]
theorem G2 {lo hi first:Nat}{d:Array β}(hs:first+hi≤d.size)(hl:lo < hi∨hi=0)(hz:d.size≤250)(h0:lo≤250):kL ((lo:Int),(hi:Int),(first:Int),MA v d)=some (MA v (Sort.siftDown (lt C) hi first lo d)):=by
 have key:∃ y,xB ((hi:Int),(first:Int),(lo:Int),MA v d)=some y∧Sum.elim id id y=MA v (Sort.siftDown (lt C) hi first lo d):=by
  refine iB (fun s n=>∃ (root:Nat) (d':Array β),first+hi≤d'.size∧(root < hi∨hi=0)∧d'.size≤250∧root≤250∧s=((hi:Int),(first:Int),(root:Int),MA v d')∧Sort.siftDown (lt C) hi first root d'=Sort.siftDown (lt C) hi first lo d∧n=hi-root) _
   ⟨lo,d,hs,hl,hz,h0,rfl,rfl,rfl⟩ (by omega) ?_
  rintro s n ⟨root,d',g1,g0,g2,g3,rfl,g4,rfl⟩
  rw[← g4]
  clear g4
  simp only[Fs,xA]
  rw[Sort.siftDown]
  by_cases e:hi≤2*root+1
  ·left
   simp(disch:=omega) only[m2,aI,au,aI,a1,gY,dT,cond_true,dif_pos (show 2*root+1≥hi from e)]
   exact⟨_,rfl,rfl⟩
  ·simp(disch:=omega) only[m2,aI,au,aI,a1,gY,iH,dF,cond_false,dif_neg (show ¬ 2*root+1≥hi from e),an]
   by_cases e2:2*root+1+1 < hi
   ·simp(disch:=omega) only[dT,cond_true,aI,au,aH,aR,hC,bind_some',Bool.true_and]
    cases hl1:lt C d'[first+(2*root+1)]! d'[first+(2*root+1)+1]!
    ·simp(disch:=omega) only[cond_false,aI,au,aH,aR,hC,bind_some',Bool.false_eq_true,if_false]
     cases hl2:lt C d'[first+root]! d'[first+(2*root+1)]!
     ·left; simp only[Bool.not_false,cond_true,if_true]; exact⟨_,rfl,rfl⟩
     ·right
      simp(disch:=omega) only[Bool.not_true,cond_false,Bool.false_eq_true,if_false,aH,au,Int.toNat_natCast,bA,aV,bB]
      exact⟨_,hi-(2*root+1),rfl,⟨2*root+1,Sort.swp d' (first+root) (first+(2*root+1)),by rw[aw]; omega,by omega,by rw[aw]; omega,by omega,rfl,rfl,rfl⟩,by omega⟩
    ·simp(disch:=omega) only[cond_true,aI,au,aH,aR,hC,bind_some',if_true]
     cases hl2:lt C d'[first+root]! d'[first+(2*root+1+1)]!
     ·left
      have hl2':lt C d'[first+root]! d'[first+(2*root+2)]! = false:=hl2
      simp only[Bool.not_false,cond_true,hl2',if_true]; exact⟨_,rfl,rfl⟩
     ·right
      have hl2':lt C d'[first+root]! d'[first+(2*root+2)]! = true:=hl2
      simp(disch:=omega) only[hl2',Bool.not_true,cond_false,Bool.false_eq_true,if_false,aH,au,Int.toNat_natCast,bA,aV,bB,dif_pos (show 2*root+2 < hi from e2)]
      exact⟨_,hi-(2*root+1+1),rfl,⟨2*root+1+1,Sort.swp d' (first+root) (first+(2*root+2)),by rw[aw]; omega,by omega,by rw[aw]; omega,by omega,rfl,rfl,rfl⟩,by omega⟩
   ·simp(disch:=omega) only[dF,cond_false,aI,au,aH,aR,hC,bind_some',Bool.false_and,Bool.false_eq_true,if_false]
    cases hl2:lt C d'[first+root]! d'[first+(2*root+1)]!
    ·left; simp only[Bool.not_false,cond_true,if_true]; exact⟨_,rfl,rfl⟩
    ·right
     simp(disch:=omega) only[Bool.not_true,cond_false,Bool.false_eq_true,if_false,aH,au,Int.toNat_natCast,bA,aV,bB]
     exact⟨_,hi-(2*root+1),rfl,⟨2*root+1,Sort.swp d' (first+root) (first+(2*root+1)),by rw[aw]; omega,by omega,by rw[aw]; omega,by omega,rfl,rfl,rfl⟩,by omega⟩
 obtain⟨y,e1,e2⟩:=key
 simp only[kL,VQ,Ry,e1,bind_some']
 cases y with
 | inl x=>simp only[Sum.elim_inl]; rw[← e2]; rfl
 | inr x=>simp only[Sum.elim_inr]; rw[← e2]; rfl
theorem heap {a b:Nat}{d:Array β}(hab:a < b)(hb:b≤d.size)(hz:d.size≤250):qV ((a:Int),(b:Int),MA v d)=some (MA v (Sort.heapSort (lt C) d a b)):=by
 have c0:∀ k:Nat,(0:Int)=((0:Nat):Int):=fun _=>rfl
 have e1:∀ (k:Nat),k≤b-a→Fu ((a:Int),0,((b-a:Nat):Int),(k:Int)-1,MA v d)=some ((a:Int),0,((b-a:Nat):Int),MA v (Sort.heapBuild (lt C) (b-a) a k d)):=fun k hk=>by
  refine aK (fun s r n=>∃ (k:Nat) (d':Array β),k≤b-a∧d'.size=d.size∧s=((a:Int),0,((b-a:Nat):Int),(k:Int)-1,MA v d')∧r=((a:Int),0,((b-a:Nat):Int),MA v (Sort.heapBuild (lt C) (b-a) a k d'))∧n=k) ⟨k,d,hk,rfl,rfl,rfl,rfl⟩ (by omega) ?_
  rintro s r n ⟨k,d',q1,q2,rfl,rfl,rfl⟩
  simp only[Lq,Ft]
  cases n with
  | zero=>left; rfl
  | succ k=>
   right
   have g1:((k+1:Nat):Int)-1=(k:Int):=by omega
   have g2:decide ((0:Int)≤(k:Int))=true:=by simp
   simp(disch:=omega) only[g1,g2,cond_true,G2 hC,bind_some',m9,au]
   exact⟨_,k,rfl,⟨k,Sort.siftDown (lt C) (b-a) a k d',by omega,by rw[eK _ _ _ _ _ (Nat.le_refl _),q2],rfl,rfl,rfl⟩,by omega⟩
 have e2:∀ (d:Array β) (k:Nat),k≤b-a→b≤d.size→d.size≤250→Fw ((a:Int),0,(k:Int)-1,MA v d)=some (MA v (Sort.heapPop (lt C) a k d)):=fun d k hk hb hz=>by
  refine aK (fun s r n=>∃ (k:Nat) (d':Array β),k≤b-a∧d'.size=d.size∧s=((a:Int),0,(k:Int)-1,MA v d')∧r=MA v (Sort.heapPop (lt C) a k d')∧n=k) ⟨k,d,hk,rfl,rfl,rfl,rfl⟩ (by omega) ?_
  rintro s r n ⟨k,d',q1,q2,rfl,rfl,rfl⟩
  simp only[Ls,Fv]
  cases n with
  | zero=>left; rfl
  | succ k=>
   right
   have g1:((k+1:Nat):Int)-1=(k:Int):=by omega
   have g2:decide ((0:Int)≤(k:Int))=true:=by simp
   have g3:kL (0,(k:Int),(a:Int),MA v (Sort.swp d' a (a+k)))=some (MA v (Sort.siftDown (lt C) k a 0 (Sort.swp d' a (a+k)))):=G2 hC (lo:=0) (by rw[aw]; omega) (by omega) (by rw[aw]; omega) (by omega)
   simp(disch:=omega) only[g1,g2,cond_true,an,aI,au,aH,aR,Int.toNat_natCast,bA,aV,bB,g3,bind_some',m9]
   exact⟨_,k,rfl,⟨k,Sort.siftDown (lt C) k a 0 (Sort.swp d' a (a+k)),by omega,by rw[eK _ _ _ _ _ (Nat.le_refl _),aw,q2],rfl,rfl,rfl⟩,by omega⟩
 have t1:((b-a-1:Nat):Int)=(b:Int)-(a:Int)-1:=by omega
 have t2:Int.tdiv ((b-a-1:Nat):Int) 2=((b-a-1) / 2:Nat):=B6 _
 have e1':=e1 ((b-a-1) / 2+1) (by omega)
 rw[show(((b-a-1) / 2+1:Nat):Int)-1=(((b-a-1) / 2:Nat):Int)by omega]at e1'
 have e2':=e2 (Sort.heapBuild (lt C) (b-a) a ((b-a-1) / 2+1) d) (b-a) (Nat.le_refl _) (by rw[dK]; exact hb) (by rw[dK]; exact hz)
 simp(disch:=omega) only[qV,p86,q86,pn,aI,au,p1,t2,e1',bind_some',m9]
 rw[show((b-a-1:Nat):Int)=((b-a:Nat):Int)-1 by omega]
 simp(disch:=omega) only[m9,au,e2',bind_some',Sort.heapSort]
omit hC
theorem G3 {n:Nat}(h:n < 256):P67 (n:Int)=some ((Sort.bitsLen n:Nat):Int):=by
 have f:ah .u8 (n:Int)=true:=by
  rw[ah,decide_eq_true_eq]
  have e2:(2:Int)^8=256:=by decide
  simp only[IntKind.wrap,IntKind.bits,IntKind.signed,Bool.false_and,e2,Bool.false_eq_true,if_false]
  omega
 have d1:decide ((4294967296:Int)≤(n:Int))=false:=by simp; omega
 have d2:decide ((65536:Int)≤(n:Int))=false:=by simp; omega
 have d3:decide ((256:Int)≤(n:Int))=false:=by simp; omega
 simp only[P67,p67,q67,P95,p95,q95,zc,Dx,zb,d1,cond_false,bind_some',d2,d3,f,au]
 have key:∀ m:Fin 256,∀ t:ByteArray,t=tb→aC (m.val:Int) t.size=true∧yB t (m.val:Int)=((Sort.bitsLen m.val:Nat):Int):=by
  intro m t ht
  subst ht
  constructor
  ·exact aN (by have:=m.isLt; exact this)
  ·revert m; decide +kernel
 obtain⟨k1,k2⟩:=key ⟨n,h⟩ _ rfl
 simp only at k1 k2
 have hl:=(Sort.bitsLen_le_iff n 8).2 (by omega)
 have z:(0:Int)+((Sort.bitsLen n:Nat):Int)=((Sort.bitsLen n:Nat):Int):=by omega
 simp(disch:=omega) only[k1,au,k2,z,aI,bind_some']
theorem npt {n:Nat}(h:n < 256):gL (n:Int)=some (((1 <<< Sort.bitsLen n:Nat)):Int):=by
 have hl:=(Sort.bitsLen_le_iff n 8).2 (by omega)
 have f:ah .u64 (n:Int)=true:=m8 (by omega) (by omega)
 have d:decide ((0:Int)≤((Sort.bitsLen n:Nat):Int))=true:=by simp
 have e:gi .u64 1 ((Sort.bitsLen n:Nat):Int)=((1 <<< Sort.bitsLen n:Nat):Int):=by
  have hm:min ((Sort.bitsLen n:Nat):Int).toNat (IntKind.bits .u64)=Sort.bitsLen n:=by show min (Sort.bitsLen n) 64=_; omega
  have h2:2^Sort.bitsLen n≤2^8:=Nat.pow_le_pow_right (by omega) hl
  unfold gi
  rw[hm,show((1:Int)*2^Sort.bitsLen n)=((2^Sort.bitsLen n:Nat):Int)by simp,yU (by omega),Nat.one_shiftLeft]
 simp only[gL,Qj,Iw,f,au,G3 h,bind_some',d,e]
theorem S7 (r:UInt64):gM (r.toNat:Int)=some (((Sort.xorNext r).toNat:Int),((Sort.xorNext r).toNat:Int)):=by
 have s13:∀ a:UInt64,gi .u64 (a.toNat:Int) 13=((a <<< 13).toNat:Int):=fun a=>Ib a 13 (by omega)
 have s7:∀ a:UInt64,bI .u64 (a.toNat:Int) 7=((a >>> 7).toNat:Int):=fun a=>UB a 7 (by omega)
 have s17:∀ a:UInt64,gi .u64 (a.toNat:Int) 17=((a <<< 17).toNat:Int):=fun a=>Ib a 17 (by omega)
 simp only[gM,Qm,Ix,s13,s7,s17,Kq,Sort.xorNext]
theorem brk {a b:Nat}{d:Array β}(hab:a≤b)(hb:b≤d.size)(hz:d.size≤250):pU ((a:Int),(b:Int),MA v d)=some (MA v (Sort.breakPatterns d a b)):=by
 unfold Sort.breakPatterns
 simp only[]
 by_cases h8:8≤b-a
 ·have g8:decide ((8:Int)≤((b-a:Nat):Int))=true:=by simp; omega
  have hm1:1 <<< Sort.bitsLen (b-a)≤2*(b-a):=by rw[Nat.one_shiftLeft]; exact Sort.two_pow_bitsLen_le (by omega)
  have hm0:0 < 1 <<< Sort.bitsLen (b-a):=by rw[Nat.one_shiftLeft]; exact Nat.two_pow_pos _
  generalize hm:1 <<< Sort.bitsLen (b-a)=m at *
  generalize hn:b-a=n at *
  let st:Nat→UInt64×Array β:=fun k=>Nat.rec (UInt64.ofNat n,d) (fun i s=>Sort.breakStep a n m s (a+n / 4*2-1+i)) k
  have hst:∀ k,(st k).2.size=d.size:=fun k=>by
   induction k with
   | zero=>rfl
   | succ k ih=>show(Sort.swp _ _ _).size=_; rw[aw]; exact ih
  have hrun:Fy ((a:Int),(n:Int),(m:Int),((a+n / 4*2-1:Nat):Int),MA v d,(n:Int))=some (MA v (st 3).2,((st 3).1.toNat:Int)):=by
   have h0:((UInt64.ofNat n).toNat:Int)=(n:Int):=by rw[UInt64.toNat_ofNat']; omega
   refine bT 3 (fun k=>((a:Int),(n:Int),(m:Int),((a+n / 4*2-1+k:Nat):Int),MA v (st k).2,((st k).1.toNat:Int))) _ (fun k hk=>?_) ?_ (by omega) |> fun h=>by
    have e:((a:Int),(n:Int),(m:Int),((a+n / 4*2-1+0:Nat):Int),MA v (st 0).2,((st 0).1.toNat:Int))=((a:Int),(n:Int),(m:Int),((a+n / 4*2-1:Nat):Int),MA v d,(n:Int)):=by
     show(_,_,_,_,_,((UInt64.ofNat n).toNat:Int))=_
     rw[h0]; rfl
    rw[← e]; exact h
   ·have q4:Int.tdiv (n:Int) 4=((n / 4:Nat):Int):=B6 n
    have q5:((n / 4:Nat):Int)*2=((n / 4*2:Nat):Int):=by omega
    have hsz:=hst k
    generalize hr:st k=s at *
    have hnx:st (k+1)=Sort.breakStep a n m (st k) (a+n / 4*2-1+k):=rfl
    rw[hr]at hnx
    have hlt:=(Sort.xorNext s.1).toNat_lt
    have hbd:(Sort.xorNext s.1).toNat &&& (m-1)≤m-1:=Nat.and_le_right
    have fu:ah .u64 ((m-1:Nat):Int)=true:=m8 (by omega) (by omega)
    simp(disch:=omega) only[Fx,zI,q4,aI,au,q5,an,a1,gY,dT,cond_true,S7,bind_some',fu,p1,Kp]
    rw[hnx]
    unfold Sort.breakStep
    simp only[]
    generalize (Sort.xorNext s.1).toNat &&& (m-1)=o at *
    by_cases ho:n≤o
    ·simp(disch:=omega) only[dT,cond_true,pn,aI,au,an,aH,aR,Int.toNat_natCast,bA,aV,bB,if_pos (show o≥n from ho),a1]
     rw[show a+n / 4*2-1+k+1=a+n / 4*2-1+(k+1)by omega]
    ·simp(disch:=omega) only[dF,cond_false,pn,aI,au,an,aH,aR,Int.toNat_natCast,bA,aV,bB,if_neg (show ¬ o≥n from ho),a1]
     rw[show a+n / 4*2-1+k+1=a+n / 4*2-1+(k+1)by omega]
   ·have q4:Int.tdiv (n:Int) 4=((n / 4:Nat):Int):=B6 n
    have q5:((n / 4:Nat):Int)*2=((n / 4*2:Nat):Int):=by omega
    simp(disch:=omega) only[Fx,zI,q4,aI,au,q5,an,a1,gY,dF,cond_false]
  have q4:Int.tdiv (n:Int) 4=((n / 4:Nat):Int):=B6 n
  have q5:((n / 4:Nat):Int)*2=((n / 4*2:Nat):Int):=by omega
  have fu:ah .u64 (n:Int)=true:=m8 (by omega) (by omega)
  have hn':(b:Int)-(a:Int)=(n:Int):=by omega
  have hnp:=npt (n:=n) (by omega)
  rw[hm]at hnp
  have hst3:st 3=Sort.breakStep a n m (Sort.breakStep a n m (Sort.breakStep a n m (UInt64.ofNat n,d) (a+n / 4*2-1)) (a+n / 4*2-1+1)) (a+n / 4*2-1+2):=rfl
  rw[hst3]at hrun
  rw[if_pos (show n≥8 from h8)]
  simp(disch:=omega) only[pU,p87,q87,hn',aI,au,g8,cond_true,fu,hnp,bind_some',q4,q5,an,p1,hrun]
 ·have g8:decide ((8:Int)≤((b-a:Nat):Int))=false:=by simp; omega
  simp(disch:=omega) only[pU,p87,q87,pn,aI,au,g8,cond_false,if_neg (show ¬ b-a≥8 from h8)]
theorem rev {a b:Nat}{d:Array β}(hab:a≤b)(hb1:1≤b)(hb:b≤d.size)(hz:d.size≤250):qX ((a:Int),(b:Int),MA v d)=some (MA v (Sort.reverseRange d a b)):=by
 have e:FA ((a:Int),((b-1:Nat):Int),MA v d)=some (MA v (Sort.reverseLoop a (b-1) d)):=by
  refine aK (fun s r n=>∃ (i j:Nat) (d:Array β),j < d.size∧d.size≤250∧i≤250∧s=((i:Int),(j:Int),MA v d)∧r=MA v (Sort.reverseLoop i j d)∧n=j-i) ⟨a,b-1,d,by omega,hz,by omega,rfl,rfl,rfl⟩ (by omega) ?_
  rintro s r n ⟨i,j,d,q1,q2,q3,rfl,rfl,rfl⟩
  simp only[Ly,Fz]
  by_cases e:i < j
  ·right
   rw[show Sort.reverseLoop i j d=Sort.reverseLoop (i+1) (j-1) (Sort.swp d i j)by rw[Sort.reverseLoop,if_pos e]]
   simp(disch:=omega) only[iH,dT,cond_true,aH,aR,au,Int.toNat_natCast,bA,aV,bB,a1,aI,p1]
   exact⟨_,j-1-(i+1),rfl,⟨i+1,j-1,Sort.swp d i j,by rw[aw]; omega,by rwa [aw],by omega,rfl,rfl,rfl⟩,by omega⟩
  ·left
   rw[show Sort.reverseLoop i j d=d by rw[Sort.reverseLoop,if_neg e]]
   simp(disch:=omega) only[iH,dF,cond_false]
 simp(disch:=omega) only[qX,p89,q89,p1,aI,au,e,bind_some',Sort.reverseRange]
include hC
theorem ord {a b s:Nat}{d:Array β}(ha:a < d.size)(hb:b < d.size)(hs:s≤250):pV ((a:Int),(b:Int),MA v d,(s:Int))=some (((Sort.order2 (lt C) d a b s).1:Int),((Sort.order2 (lt C) d a b s).2.1:Int),MA v d,((Sort.order2 (lt C) d a b s).2.2:Int)):=by
 unfold Sort.order2
 simp(disch:=omega) only[pV,VZ,RB,aH,au,aR,hC,bind_some',a1,aI]
 cases lt C d[b]! d[a]! <;> rfl
theorem S8 {a b c s:Nat}{d:Array β}(ha:a < d.size)(hb:b < d.size)(hc:c < d.size)(hs:s≤200):mK ((a:Int),(b:Int),(c:Int),MA v d,(s:Int))=some (((Sort.median (lt C) d a b c s).1:Int),MA v d,((Sort.median (lt C) d a b c s).2:Int)):=by
 unfold Sort.median
 simp only[]
 have o1:=Sort.order2_mem (lt C) d a b s
 have n1:=Sort.order2_count (lt C) d a b s
 generalize g1:Sort.order2 (lt C) d a b s=r1 at *
 have o2:=Sort.order2_mem (lt C) d r1.2.1 c r1.2.2
 have n2:=Sort.order2_count (lt C) d r1.2.1 c r1.2.2
 generalize g2:Sort.order2 (lt C) d r1.2.1 c r1.2.2=r2 at *
 have e1:pV ((a:Int),(b:Int),MA v d,(s:Int))=some ((r1.1:Int),(r1.2.1:Int),MA v d,(r1.2.2:Int)):=by rw[ord hC ha hb (by omega),g1]
 have e2:pV ((r1.2.1:Int),(c:Int),MA v d,(r1.2.2:Int))=some ((r2.1:Int),(r2.2.1:Int),MA v d,(r2.2.2:Int)):=by rw[ord hC (by omega) hc (by omega),g2]
 have e3:=ord hC (d:=d) (a:=r1.1) (b:=r2.1) (s:=r2.2.2) (by omega) (by omega) (by omega)
 simp only[mK,V1,RG,e1,e2,e3,bind_some']
theorem S9 {a s:Nat}{d:Array β}(ha:1≤a)(hb:a+1 < d.size)(hz:d.size≤250)(hs:s≤200):sM ((a:Int),MA v d,(s:Int))=some (((Sort.medianAdjacent (lt C) d a s).1:Int),MA v d,((Sort.medianAdjacent (lt C) d a s).2:Int)):=by
 have e:=S8 hC (d:=d) (a:=a-1) (b:=a) (c:=a+1) (s:=s) (by omega) (by omega) hb hs
 unfold Sort.medianAdjacent
 simp(disch:=omega) only[sM,V4,RJ,p1,aI,au,a1,e,bind_some']
omit hC
def hN:Sort.Hint→Int
 | .unknown=>0
 | .increasing=>1
 | .decreasing=>2
include hC
theorem chp {a b:Nat}{d:Array β}(hab:a < b)(hb:b≤d.size)(hz:d.size≤250):qW ((a:Int),(b:Int),MA v d)=some (((Sort.choosePivot (lt C) d a b).1:Int),hN (Sort.choosePivot (lt C) d a b).2,MA v d):=by
 unfold Sort.choosePivot
 simp only[]
 generalize hn:b-a=n at *
 have q4:Int.tdiv (n:Int) 4=((n / 4:Nat):Int):=B6 n
 have q1:((n / 4:Nat):Int)*1=((n / 4*1:Nat):Int):=by omega
 have q2:((n / 4:Nat):Int)*2=((n / 4*2:Nat):Int):=by omega
 have q3:((n / 4:Nat):Int)*3=((n / 4*3:Nat):Int):=by omega
 have hn':(b:Int)-(a:Int)=(n:Int):=by omega
 have hfin:∀ (p s:Nat),(cond (decide ((s:Int)=0)) (some ((p:Int),(1:Int),MA v d)) (cond (decide ((s:Int)=12)) (some ((p:Int),(2:Int),MA v d)) (some ((p:Int),(0:Int),MA v d)))) =
   some ((p:Int),hN (if s=0 then Sort.Hint.increasing else if s=12 then Sort.Hint.decreasing else Sort.Hint.unknown),MA v d):=fun p s=>by
  by_cases h0:s=0
  ·subst h0; rfl
  ·have d0:decide ((s:Int)=0)=false:=by simp; omega
   rw[d0,if_neg h0]
   by_cases h12:s=12
   ·subst h12; rfl
   ·have d1:decide ((s:Int)=12)=false:=by simp; omega
    rw[d1,if_neg h12]; rfl
 simp(disch:=omega) only[qW,p88,q88,hn',aI,au,q4,q1,q2,q3,an]
 by_cases h8:8≤n
 ·have d8:decide ((8:Int)≤(n:Int))=true:=by simp; omega
  rw[d8,cond_true,if_pos (show n≥8 from h8)]
  by_cases h50:50≤n
  ·have d50:decide ((50:Int)≤(n:Int))=true:=by simp; omega
   rw[d50,cond_true,if_pos (show n≥50 from h50)]
   have m1:=Sort.medianAdjacent_mem (lt C) d (a+n / 4*1) 0
   have c1:=Sort.medianAdjacent_count (lt C) d (a+n / 4*1) 0
   have e1:=S9 hC (d:=d) (a:=a+n / 4*1) (s:=0) (by omega) (by omega) hz (by omega)
   generalize Sort.medianAdjacent (lt C) d (a+n / 4*1) 0=r1 at *
   have m2:=Sort.medianAdjacent_mem (lt C) d (a+n / 4*2) r1.2
   have c2:=Sort.medianAdjacent_count (lt C) d (a+n / 4*2) r1.2
   have e2:=S9 hC (d:=d) (a:=a+n / 4*2) (s:=r1.2) (by omega) (by omega) hz (by omega)
   generalize Sort.medianAdjacent (lt C) d (a+n / 4*2) r1.2=r2 at *
   have m3:=Sort.medianAdjacent_mem (lt C) d (a+n / 4*3) r2.2
   have c3:=Sort.medianAdjacent_count (lt C) d (a+n / 4*3) r2.2
   have e3:=S9 hC (d:=d) (a:=a+n / 4*3) (s:=r2.2) (by omega) (by omega) hz (by omega)
   generalize Sort.medianAdjacent (lt C) d (a+n / 4*3) r2.2=r3 at *
   have e4:=S8 hC (d:=d) (a:=r1.1) (b:=r2.1) (c:=r3.1) (s:=r3.2) (by omega) (by omega) (by omega) (by omega)
   have e1':sM (((a+n / 4*1:Nat):Int),MA v d,0)=some ((r1.1:Int),MA v d,(r1.2:Int)):=e1
   simp only[e1',e2,e3,e4,bind_some',hfin]
  ·have d50:decide ((50:Int)≤(n:Int))=false:=by simp; omega
   rw[d50,cond_false,if_neg (show ¬ n≥50 from h50)]
   have e4:mK (((a+n / 4*1:Nat):Int),((a+n / 4*2:Nat):Int),((a+n / 4*3:Nat):Int),MA v d,0)=some (((Sort.median (lt C) d (a+n / 4*1) (a+n / 4*2) (a+n / 4*3) 0).1:Int),MA v d,((Sort.median (lt C) d (a+n / 4*1) (a+n / 4*2) (a+n / 4*3) 0).2:Int)):=S8 hC (s:=0) (by omega) (by omega) (by omega) (by omega)
   simp only[e4,bind_some',hfin]
 ·have d8:decide ((8:Int)≤(n:Int))=false:=by simp; omega
  rw[d8,cond_false,if_neg (show ¬ n≥8 from h8)]
  rfl
omit hC
theorem pE (d:Array β)(b:Nat):∀ (n i:Nat),b-i≤n→i≤b→i≤Sort.scanSorted (lt C) d b i∧Sort.scanSorted (lt C) d b i≤b:=by
 intro n
 induction n with
 | zero=>intro i h1 h2; rw[Sort.scanSorted,if_neg (by simp; omega)]; omega
 | succ n ih=>
  intro i h1 h2
  rw[Sort.scanSorted]
  split
  ·rename_i h
   simp only[Bool.and_eq_true,decide_eq_true_eq]at h
   have:=ih (i+1) (by omega) (by omega)
   omega
  ·omega
theorem jr:∀ (j:Nat) (d:Array β),(Sort.shiftDown (lt C) j d).size=d.size
 | 0,d=>by rw[Sort.shiftDown]
 | j+1,d=>by
  rw[Sort.shiftDown]
  split
  ·rfl
  ·rw[jr j,aw]
theorem js (b:Nat):∀ (n j:Nat) (d:Array β),b-j≤n→(Sort.shiftUp (lt C) b j d).size=d.size:=by
 intro n
 induction n with
 | zero=>intro j d h; rw[Sort.shiftUp,if_neg (by omega)]
 | succ n ih=>
  intro j d h
  rw[Sort.shiftUp]
  split
  ·split
   ·rfl
   ·rw[ih _ _ (by omega),aw]
  ·rfl
include hC
theorem ps1 {a b i j:Nat}{d:Array β}(h1:1≤i)(hb:b≤d.size)(hz:d.size≤250)(hi:i≤250):FC ((a:Int),(b:Int),(i:Int),(j:Int),MA v d)=some ((a:Int),(b:Int),((Sort.scanSorted (lt C) d b i:Nat):Int),(j:Int),MA v d):=by
 refine aK (fun s r n=>∃ i:Nat,1≤i∧i≤251∧s=((a:Int),(b:Int),(i:Int),(j:Int),MA v d)∧r=((a:Int),(b:Int),((Sort.scanSorted (lt C) d b i:Nat):Int),(j:Int),MA v d)∧n=b-i) ⟨i,h1,by omega,rfl,rfl,rfl⟩ (by omega) ?_
 rintro s r n ⟨i,q1,q2,rfl,rfl,rfl⟩
 simp only[LI,FB]
 by_cases e:i < b
 ·simp(disch:=omega) only[iH,dT,cond_true,aH,au,p1,aI,aR,hC,bind_some']
  cases hl:lt C d[i]! d[i-1]!
  ·right
   rw[show Sort.scanSorted (lt C) d b i=Sort.scanSorted (lt C) d b (i+1)by rw[Sort.scanSorted,if_pos (by simp[e,hl])]]
   simp(disch:=omega) only[Bool.not_false,cond_true,a1,aI,au]
   exact⟨_,b-(i+1),rfl,⟨i+1,by omega,by omega,rfl,rfl,rfl⟩,by omega⟩
  ·left
   rw[show Sort.scanSorted (lt C) d b i=i by rw[Sort.scanSorted,if_neg (by simp[hl])]]
   simp only[Bool.not_true,cond_false]
 ·left
  rw[show Sort.scanSorted (lt C) d b i=i by rw[Sort.scanSorted,if_neg (by simp[e])]]
  simp(disch:=omega) only[iH,dF,cond_false]
theorem ps3 {a b i j k:Nat}{d:Array β}(hk:k < d.size)(hz:d.size≤250):FE ((a:Int),(b:Int),(i:Int),(j:Int),(k:Int),MA v d)=some ((a:Int),(b:Int),(i:Int),(j:Int),MA v (Sort.shiftDown (lt C) k d)):=by
 refine aK (fun s r n=>∃ (k:Nat) (d:Array β),k < d.size∧d.size≤250∧s=((a:Int),(b:Int),(i:Int),(j:Int),(k:Int),MA v d)∧r=((a:Int),(b:Int),(i:Int),(j:Int),MA v (Sort.shiftDown (lt C) k d))∧n=k) ⟨k,d,hk,hz,rfl,rfl,rfl⟩ (by omega) ?_
 rintro s r n ⟨k,d,q1,q2,rfl,rfl,rfl⟩
 simp only[LK,FD]
 cases n with
 | zero=>left; rw[Sort.shiftDown]; rfl
 | succ k=>
  have g1:decide ((1:Int)≤((k+1:Nat):Int))=true:=by simp; omega
  simp(disch:=omega) only[g1,cond_true,aH,au,p1,aI,aR,hC,bind_some',Nat.add_sub_cancel]
  cases hl:lt C d[k+1]! d[k]!
  ·left
   rw[show Sort.shiftDown (lt C) (k+1) d=d by rw[Sort.shiftDown,if_pos (by simp[hl])]]
   simp only[Bool.not_false,cond_true]
  ·right
   rw[show Sort.shiftDown (lt C) (k+1) d=Sort.shiftDown (lt C) k (Sort.swp d (k+1) k)by rw[Sort.shiftDown,if_neg (by simp[hl])]]
   simp(disch:=omega) only[Bool.not_true,cond_false,aH,au,aR,Int.toNat_natCast,bA,aV,bB]
   exact⟨_,k,rfl,⟨k,Sort.swp d (k+1) k,by rw[aw]; omega,by rwa [aw],rfl,rfl,rfl⟩,by omega⟩
theorem ps2 {a b i j:Nat}{d:Array β}(ha:a≤i)(h1:1≤i)(hi:i≤d.size)(hz:d.size≤250):zL ((a:Int),(b:Int),(i:Int),(j:Int),MA v d)=some ((a:Int),(b:Int),(i:Int),(j:Int),MA v (if i-a≥2 then Sort.shiftDown (lt C) (i-1) d else d)):=by
 simp only[zL,LL,FF]
 by_cases e:2≤i-a
 ·have g1:decide ((2:Int)≤((i-a:Nat):Int))=true:=by simp; omega
  simp(disch:=omega) only[pn,aI,au,g1,cond_true,p1,ps3 hC,bind_some',if_pos (show i-a≥2 from e)]
 ·have g1:decide ((2:Int)≤((i-a:Nat):Int))=false:=by simp; omega
  simp(disch:=omega) only[pn,aI,au,g1,cond_false,if_neg (show ¬ i-a≥2 from e)]
theorem ps4 {a b i j k:Nat}{d:Array β}(h1:1≤k)(hk:k≤250)(hb:b≤d.size)(hz:d.size≤250):FH ((a:Int),(b:Int),(i:Int),(j:Int),(k:Int),MA v d)=some ((a:Int),(b:Int),(i:Int),(j:Int),MA v (Sort.shiftUp (lt C) b k d)):=by
 refine aK (fun s r n=>∃ (k:Nat) (d:Array β),1≤k∧k≤251∧b≤d.size∧d.size≤250∧s=((a:Int),(b:Int),(i:Int),(j:Int),(k:Int),MA v d)∧r=((a:Int),(b:Int),(i:Int),(j:Int),MA v (Sort.shiftUp (lt C) b k d))∧n=b-k) ⟨k,d,h1,by omega,hb,hz,rfl,rfl,rfl⟩ (by omega) ?_
 rintro s r n ⟨k,d,q1,q0,q2,q3,rfl,rfl,rfl⟩
 simp only[LN,FG]
 by_cases e:k < b
 ·simp(disch:=omega) only[iH,dT,cond_true,aH,au,p1,aI,aR,hC,bind_some']
  cases hl:lt C d[k]! d[k-1]!
  ·left
   rw[show Sort.shiftUp (lt C) b k d=d by rw[Sort.shiftUp,if_pos e,if_pos (by simp[hl])]]
   simp only[Bool.not_false,cond_true]
  ·right
   rw[show Sort.shiftUp (lt C) b k d=Sort.shiftUp (lt C) b (k+1) (Sort.swp d k (k-1))by rw[Sort.shiftUp,if_pos e,if_neg (by simp[hl])]]
   simp(disch:=omega) only[Bool.not_true,cond_false,aH,au,aR,Int.toNat_natCast,bA,aV,bB,a1,aI]
   exact⟨_,b-(k+1),rfl,⟨k+1,Sort.swp d k (k-1),by omega,by omega,by rwa [aw],by rwa [aw],rfl,rfl,rfl⟩,by omega⟩
 ·left
  rw[show Sort.shiftUp (lt C) b k d=d by rw[Sort.shiftUp,if_neg e]]
  simp(disch:=omega) only[iH,dF,cond_false]
theorem pis {a b:Nat}{d:Array β}(hab:a < b)(hb:b≤d.size)(hz:d.size≤250):qZ ((a:Int),(b:Int),MA v d)=some ((Sort.partialInsertionSort (lt C) d a b).2,MA v (Sort.partialInsertionSort (lt C) d a b).1):=by
 have key:∃ y,FJ ((a:Int),(b:Int),((a+1:Nat):Int),0,MA v d)=some y∧Sum.elim (fun y=>(y.2,y.1)) (fun y=>(y,false)) y=(MA v (Sort.partialInsertionSort (lt C) d a b).1,(Sort.partialInsertionSort (lt C) d a b).2):=by
  refine iB (fun s n=>∃ (t i:Nat) (d':Array β),t≤5∧a < i∧i≤b∧b≤d'.size∧d'.size≤250∧s=((a:Int),(b:Int),(i:Int),((5-t:Nat):Int),MA v d')∧Sort.partialIns (lt C) a b t i d'=Sort.partialInsertionSort (lt C) d a b∧n=t) _
   ⟨5,a+1,d,by omega,by omega,by omega,hb,hz,rfl,rfl,rfl⟩ (by omega) ?_
  rintro s n ⟨t,i,d',q1,q2,q3,q4,q5,rfl,q6,rfl⟩
  rw[← q6]
  clear q6
  simp only[LP,FI]
  cases n with
  | zero=>left; exact⟨_,rfl,rfl⟩
  | succ t=>
   have g0:decide (((5-(t+1):Nat):Int) < 5)=true:=by simp; omega
   have hs:=pE (C:=C) d' b _ i (Nat.le_refl _) q3
   rw[Sort.partialIns]
   simp(disch:=omega) only[g0,cond_true,ps1 hC,bind_some']
   generalize Sort.scanSorted (lt C) d' b i=i2 at *
   by_cases e:i2=b
   ·left
    have g1:decide ((i2:Int)=(b:Int))=true:=by simp; omega
    simp only[g1,cond_true,if_pos e]
    exact⟨_,rfl,rfl⟩
   ·have g1:decide ((i2:Int)=(b:Int))=false:=by simp; omega
    simp(disch:=omega) only[g1,cond_false,if_neg e,pn,aI,au]
    by_cases e5:b-a < 50
    ·left
     have g2:decide (((b-a:Nat):Int) < 50)=true:=by simp; omega
     simp only[g2,cond_true,if_pos e5]
     exact⟨_,rfl,rfl⟩
    ·right
     have g2:decide (((b-a:Nat):Int) < 50)=false:=by simp; omega
     have z1:(Sort.swp d' i2 (i2-1)).size=d'.size:=aw _ _ _
     simp(disch:=omega) only[g2,cond_false,if_neg e5,p1,aI,au,aH,aR,Int.toNat_natCast,bA,aV,bB,ps2 hC,bind_some',pn]
     generalize hd2:(if i2-a≥2 then Sort.shiftDown (lt C) (i2-1) (Sort.swp d' i2 (i2-1))else Sort.swp d' i2 (i2-1))=d2
     have z2:d2.size=d'.size:=by
      rw[← hd2]; split
      ·rw[jr,z1]
      ·exact z1
     by_cases e2:2≤b-i2
     ·have g3:decide ((2:Int)≤((b-i2:Nat):Int))=true:=by simp; omega
      simp(disch:=omega) only[g3,cond_true,a1,aI,au,ps4 hC,bind_some',if_pos (show b-i2≥2 from e2)]
      exact⟨_,t,rfl,⟨t,i2,Sort.shiftUp (lt C) b (i2+1) d2,by omega,by omega,by omega,by rw[js _ _ _ _ (Nat.le_refl _)]; omega,by rw[js _ _ _ _ (Nat.le_refl _)]; omega,by rw[show 5-(t+1)+1=5-t by omega],rfl,rfl⟩,by omega⟩
     ·have g3:decide ((2:Int)≤((b-i2:Nat):Int))=false:=by simp; omega
      simp(disch:=omega) only[g3,cond_false,a1,aI,au,if_neg (show ¬ b-i2≥2 from e2)]
      exact⟨_,t,rfl,⟨t,i2,d2,by omega,by omega,by omega,by omega,by omega,by rw[show 5-(t+1)+1=5-t by omega],rfl,rfl⟩,by omega⟩
 obtain⟨y,e1,e2⟩:=key
 simp(disch:=omega) only[qZ,p90,q90,a1,aI,au,e1,bind_some']
 cases y with
 | inl x=>
  simp only[Sum.elim_inl,Prod.mk.injEq]at e2 ⊢
  rw[e2.1,e2.2]
 | inr x=>
  simp only[Sum.elim_inr,Prod.mk.injEq]at e2 ⊢
  rw[e2.1,e2.2]
theorem pe1 {a i j:Nat}{d:Array β}(ha:a < d.size)(hj:j < d.size)(hz:d.size≤250):FL ((a:Int),(i:Int),(j:Int),MA v d)=some ((a:Int),((Sort.scanUp (fun x=>!lt C d[a]! x) d j i:Nat):Int),(j:Int),MA v d):=by
 refine aK (fun s r n=>∃ i:Nat,s=((a:Int),(i:Int),(j:Int),MA v d)∧r=((a:Int),((Sort.scanUp (fun x=>!lt C d[a]! x) d j i:Nat):Int),(j:Int),MA v d)∧n=j+1-i) ⟨i,rfl,rfl,rfl⟩ (by omega) ?_
 rintro s r n ⟨i,rfl,rfl,rfl⟩
 simp only[LU,FK]
 by_cases e:i≤j
 ·simp(disch:=omega) only[gY,dT,cond_true,aH,au,aI,aR,hC,bind_some']
  cases hl:lt C d[a]! d[i]!
  ·right
   rw[show Sort.scanUp (fun x=>!lt C d[a]! x) d j i=Sort.scanUp (fun x=>!lt C d[a]! x) d j (i+1)by rw[Sort.scanUp,if_pos (by simp[e,hl])]]
   simp(disch:=omega) only[Bool.not_false,cond_true,a1,aI,au]
   exact⟨_,j+1-(i+1),rfl,⟨i+1,rfl,rfl,rfl⟩,by omega⟩
  ·left
   rw[show Sort.scanUp (fun x=>!lt C d[a]! x) d j i=i by rw[Sort.scanUp,if_neg (by simp[hl])]]
   simp only[Bool.not_true,cond_false]
 ·left
  rw[show Sort.scanUp (fun x=>!lt C d[a]! x) d j i=i by rw[Sort.scanUp,if_neg (by simp[e])]]
  simp(disch:=omega) only[gY,dF,cond_false]
theorem pe2 {a i j:Nat}{d:Array β}(ha:a < d.size)(hi:1≤i)(hj:j < d.size)(hz:d.size≤250):FN ((a:Int),(i:Int),(j:Int),MA v d)=some ((a:Int),(i:Int),((Sort.scanDown (fun x=>lt C d[a]! x) d i j:Nat):Int),MA v d):=by
 refine aK (fun s r n=>∃ j:Nat,j < d.size∧s=((a:Int),(i:Int),(j:Int),MA v d)∧r=((a:Int),(i:Int),((Sort.scanDown (fun x=>lt C d[a]! x) d i j:Nat):Int),MA v d)∧n=j) ⟨j,hj,rfl,rfl,rfl⟩ (by omega) ?_
 rintro s r n ⟨j,q1,rfl,rfl,rfl⟩
 simp only[LW,FM]
 cases n with
 | zero=>
  left
  rw[show Sort.scanDown (fun x=>lt C d[a]! x) d i 0=0 by rw[Sort.scanDown]]
  simp(disch:=omega) only[gY,dF,cond_false]
 | succ j=>
  by_cases e:i≤j+1
  ·simp(disch:=omega) only[gY,dT,cond_true,aH,au,aI,aR,hC,bind_some']
   cases hl:lt C d[a]! d[j+1]!
   ·left
    rw[show Sort.scanDown (fun x=>lt C d[a]! x) d i (j+1)=j+1 by rw[Sort.scanDown,if_neg (by simp[hl])]]
    simp only[cond_false]
   ·right
    rw[show Sort.scanDown (fun x=>lt C d[a]! x) d i (j+1)=Sort.scanDown (fun x=>lt C d[a]! x) d i j by rw[Sort.scanDown,if_pos (by simp[e,hl])]]
    simp(disch:=omega) only[cond_true,p1,Nat.add_sub_cancel,aI,au]
    exact⟨_,j,rfl,⟨j,by omega,rfl,rfl,rfl⟩,by omega⟩
  ·left
   rw[show Sort.scanDown (fun x=>lt C d[a]! x) d i (j+1)=j+1 by rw[Sort.scanDown,if_neg (by simp[e])]]
   simp(disch:=omega) only[gY,dF,cond_false]
theorem pr0 {a i j:Nat}{d:Array β}(ha:a < d.size)(hj:j < d.size)(hz:d.size≤250):FR ((a:Int),(i:Int),(j:Int),MA v d)=some ((a:Int),((Sort.scanUp (fun x=>lt C x d[a]!) d j i:Nat):Int),(j:Int),MA v d):=by
 refine aK (fun s r n=>∃ i:Nat,s=((a:Int),(i:Int),(j:Int),MA v d)∧r=((a:Int),((Sort.scanUp (fun x=>lt C x d[a]!) d j i:Nat):Int),(j:Int),MA v d)∧n=j+1-i) ⟨i,rfl,rfl,rfl⟩ (by omega) ?_
 rintro s r n ⟨i,rfl,rfl,rfl⟩
 simp only[Mg,FQ]
 by_cases e:i≤j
 ·simp(disch:=omega) only[gY,dT,cond_true,aH,au,aI,aR,hC,bind_some']
  cases hl:lt C d[i]! d[a]!
  ·left
   rw[show Sort.scanUp (fun x=>lt C x d[a]!) d j i=i by rw[Sort.scanUp,if_neg (by simp[hl])]]
   simp only[cond_false]
  ·right
   rw[show Sort.scanUp (fun x=>lt C x d[a]!) d j i=Sort.scanUp (fun x=>lt C x d[a]!) d j (i+1)by rw[Sort.scanUp,if_pos (by simp[e,hl])]]
   simp(disch:=omega) only[cond_true,a1,aI,au]
   exact⟨_,j+1-(i+1),rfl,⟨i+1,rfl,rfl,rfl⟩,by omega⟩
 ·left
  rw[show Sort.scanUp (fun x=>lt C x d[a]!) d j i=i by rw[Sort.scanUp,if_neg (by simp[e])]]
  simp(disch:=omega) only[gY,dF,cond_false]
theorem pr1 {a i j:Nat}{d:Array β}(ha:a < d.size)(hi:1≤i)(hj:j < d.size)(hz:d.size≤250):FT ((a:Int),(i:Int),(j:Int),MA v d)=some ((a:Int),(i:Int),((Sort.scanDown (fun x=>!lt C x d[a]!) d i j:Nat):Int),MA v d):=by
 refine aK (fun s r n=>∃ j:Nat,j < d.size∧s=((a:Int),(i:Int),(j:Int),MA v d)∧r=((a:Int),(i:Int),((Sort.scanDown (fun x=>!lt C x d[a]!) d i j:Nat):Int),MA v d)∧n=j) ⟨j,hj,rfl,rfl,rfl⟩ (by omega) ?_
 rintro s r n ⟨j,q1,rfl,rfl,rfl⟩
 simp only[Mi,FS]
 cases n with
 | zero=>
  left
  rw[show Sort.scanDown (fun x=>!lt C x d[a]!) d i 0=0 by rw[Sort.scanDown]]
  simp(disch:=omega) only[gY,dF,cond_false]
 | succ j=>
  by_cases e:i≤j+1
  ·simp(disch:=omega) only[gY,dT,cond_true,aH,au,aI,aR,hC,bind_some']
   cases hl:lt C d[j+1]! d[a]!
   ·right
    rw[show Sort.scanDown (fun x=>!lt C x d[a]!) d i (j+1)=Sort.scanDown (fun x=>!lt C x d[a]!) d i j by rw[Sort.scanDown,if_pos (by simp[e,hl])]]
    simp(disch:=omega) only[Bool.not_false,cond_true,p1,Nat.add_sub_cancel,aI,au]
    exact⟨_,j,rfl,⟨j,by omega,rfl,rfl,rfl⟩,by omega⟩
   ·left
    rw[show Sort.scanDown (fun x=>!lt C x d[a]!) d i (j+1)=j+1 by rw[Sort.scanDown,if_neg (by simp[hl])]]
    simp only[Bool.not_true,cond_false]
  ·left
   rw[show Sort.scanDown (fun x=>!lt C x d[a]!) d i (j+1)=j+1 by rw[Sort.scanDown,if_neg (by simp[e])]]
   simp(disch:=omega) only[gY,dF,cond_false]
theorem pr3 {a i j:Nat}{d:Array β}(ha:a < d.size)(hj:j < d.size)(hz:d.size≤250):FX ((a:Int),(i:Int),(j:Int),MA v d)=some ((a:Int),((Sort.scanUp (fun x=>lt C x d[a]!) d j i:Nat):Int),(j:Int),MA v d):=by
 refine aK (fun s r n=>∃ i:Nat,s=((a:Int),(i:Int),(j:Int),MA v d)∧r=((a:Int),((Sort.scanUp (fun x=>lt C x d[a]!) d j i:Nat):Int),(j:Int),MA v d)∧n=j+1-i) ⟨i,rfl,rfl,rfl⟩ (by omega) ?_
 rintro s r n ⟨i,rfl,rfl,rfl⟩
 simp only[Ml,FU]
 by_cases e:i≤j
 ·simp(disch:=omega) only[gY,dT,cond_true,aH,au,aI,aR,hC,bind_some']
  cases hl:lt C d[i]! d[a]!
  ·left
   rw[show Sort.scanUp (fun x=>lt C x d[a]!) d j i=i by rw[Sort.scanUp,if_neg (by simp[hl])]]
   simp only[cond_false]
  ·right
   rw[show Sort.scanUp (fun x=>lt C x d[a]!) d j i=Sort.scanUp (fun x=>lt C x d[a]!) d j (i+1)by rw[Sort.scanUp,if_pos (by simp[e,hl])]]
   simp(disch:=omega) only[cond_true,a1,aI,au]
   exact⟨_,j+1-(i+1),rfl,⟨i+1,rfl,rfl,rfl⟩,by omega⟩
 ·left
  rw[show Sort.scanUp (fun x=>lt C x d[a]!) d j i=i by rw[Sort.scanUp,if_neg (by simp[e])]]
  simp(disch:=omega) only[gY,dF,cond_false]
theorem pr4 {a i j:Nat}{d:Array β}(ha:a < d.size)(hi:1≤i)(hj:j < d.size)(hz:d.size≤250):FZ ((a:Int),(i:Int),(j:Int),MA v d)=some ((a:Int),(i:Int),((Sort.scanDown (fun x=>!lt C x d[a]!) d i j:Nat):Int),MA v d):=by
 refine aK (fun s r n=>∃ j:Nat,j < d.size∧s=((a:Int),(i:Int),(j:Int),MA v d)∧r=((a:Int),(i:Int),((Sort.scanDown (fun x=>!lt C x d[a]!) d i j:Nat):Int),MA v d)∧n=j) ⟨j,hj,rfl,rfl,rfl⟩ (by omega) ?_
 rintro s r n ⟨j,q1,rfl,rfl,rfl⟩
 simp only[Mn,FY]
 cases n with
 | zero=>
  left
  rw[show Sort.scanDown (fun x=>!lt C x d[a]!) d i 0=0 by rw[Sort.scanDown]]
  simp(disch:=omega) only[gY,dF,cond_false]
 | succ j=>
  by_cases e:i≤j+1
  ·simp(disch:=omega) only[gY,dT,cond_true,aH,au,aI,aR,hC,bind_some']
   cases hl:lt C d[j+1]! d[a]!
   ·right
    rw[show Sort.scanDown (fun x=>!lt C x d[a]!) d i (j+1)=Sort.scanDown (fun x=>!lt C x d[a]!) d i j by rw[Sort.scanDown,if_pos (by simp[e,hl])]]
    simp(disch:=omega) only[Bool.not_false,cond_true,p1,Nat.add_sub_cancel,aI,au]
    exact⟨_,j,rfl,⟨j,by omega,rfl,rfl,rfl⟩,by omega⟩
   ·left
    rw[show Sort.scanDown (fun x=>!lt C x d[a]!) d i (j+1)=j+1 by rw[Sort.scanDown,if_neg (by simp[hl])]]
    simp only[Bool.not_true,cond_false]
  ·left
   rw[show Sort.scanDown (fun x=>!lt C x d[a]!) d i (j+1)=j+1 by rw[Sort.scanDown,if_neg (by simp[e])]]
   simp(disch:=omega) only[gY,dF,cond_false]
theorem peq {a b p:Nat}{d:Array β}(ha:a < d.size)(hp:p < d.size)(hb:b≤d.size)(hb1:1≤b)(hz:d.size≤250):re ((a:Int),(b:Int),(p:Int),MA v d)=some (((Sort.partitionEqual (lt C) d a b p).1:Int),MA v (Sort.partitionEqual (lt C) d a b p).2):=by
 have key:∀ {i j:Nat} {d:Array β},a < d.size→1≤i→j < d.size→d.size≤250→FP ((a:Int),(i:Int),(j:Int),MA v d)=some (((Sort.partEqLoop (lt C) a i j d).1:Int),MA v (Sort.partEqLoop (lt C) a i j d).2):=by
  intro i j d ha hi hj hz
  refine aK (fun s r n=>∃ (i j:Nat) (d:Array β),a < d.size∧1≤i∧j < d.size∧d.size≤250∧s=((a:Int),(i:Int),(j:Int),MA v d)∧r=(((Sort.partEqLoop (lt C) a i j d).1:Int),MA v (Sort.partEqLoop (lt C) a i j d).2)∧n=j+1-i) ⟨i,j,d,ha,hi,hj,hz,rfl,rfl,rfl⟩ (by omega) ?_
  rintro s r n ⟨i,j,d,q1,q2,q3,q4,rfl,rfl,rfl⟩
  have u1:=Sort.scanUp_ge (fun x=>!lt C d[a]! x) d j i
  have u2:=Sort.scanDown_le (fun x=>lt C d[a]! x) d (Sort.scanUp (fun x=>!lt C d[a]! x) d j i) j
  rw[Sort.partEqLoop_eq]
  simp(disch:=omega) only[LY,FO,pe1 hC,pe2 hC,bind_some']
  generalize Sort.scanUp (fun x=>!lt C d[a]! x) d j i=i2 at *
  generalize Sort.scanDown (fun x=>lt C d[a]! x) d i2 j=j2 at *
  by_cases e:j2 < i2
  ·left; simp(disch:=omega) only[iH,dT,cond_true,if_pos (show i2 > j2 from e)]
  ·right
   simp(disch:=omega) only[iH,dF,cond_false,if_neg (show ¬ i2 > j2 from e),aH,au,aR,Int.toNat_natCast,bA,aV,bB,a1,aI,p1]
   exact⟨_,j2-1+1-(i2+1),rfl,⟨i2+1,j2-1,Sort.swp d i2 j2,by rwa [aw],by omega,by rw[aw]; omega,by rwa [aw],rfl,rfl,rfl⟩,by omega⟩
 have k:=key (i:=a+1) (j:=b-1) (d:=Sort.swp d a p) (by rwa [aw]) (by omega) (by rw[aw]; omega) (by rwa [aw])
 simp(disch:=omega) only[re,p92,q92,aH,au,aR,Int.toNat_natCast,bA,aV,bB,a1,aI,p1,k,bind_some',Sort.partitionEqual]
omit hC
theorem G4 (a:Nat):∀ (n i j:Nat) (d:Array β),j+1-i≤n→(Sort.partLoop (lt C) a i j d).1≤j∧(Sort.partLoop (lt C) a i j d).2.size=d.size:=by
 intro n
 induction n with
 | zero=>
  intro i j d h
  have u1:=Sort.scanUp_ge (fun x=>lt C x d[a]!) d j i
  have u2:=Sort.scanDown_le (fun x=>!lt C x d[a]!) d (Sort.scanUp (fun x=>lt C x d[a]!) d j i) j
  rw[Sort.partLoop_eq,if_pos (by omega)]
  exact⟨u2,rfl⟩
 | succ n ih=>
  intro i j d h
  have u1:=Sort.scanUp_ge (fun x=>lt C x d[a]!) d j i
  have u2:=Sort.scanDown_le (fun x=>!lt C x d[a]!) d (Sort.scanUp (fun x=>lt C x d[a]!) d j i) j
  rw[Sort.partLoop_eq]
  split
  ·exact⟨u2,rfl⟩
  ·have:=ih (Sort.scanUp (fun x=>lt C x d[a]!) d j i+1) (Sort.scanDown (fun x=>!lt C x d[a]!) d (Sort.scanUp (fun x=>lt C x d[a]!) d j i) j-1) (Sort.swp d (Sort.scanUp (fun x=>lt C x d[a]!) d j i) (Sort.scanDown (fun x=>!lt C x d[a]!) d (Sort.scanUp (fun x=>lt C x d[a]!) d j i) j)) (by omega)
   exact⟨by omega,by rw[this.2,aw]⟩
include hC
theorem prt {a b p:Nat}{d:Array β}(ha:a < d.size)(hp:p < d.size)(hb:b≤d.size)(hb1:1≤b)(hz:d.size≤250):pW ((a:Int),(b:Int),(p:Int),MA v d)=some (((Sort.partition (lt C) d a b p).1:Int),(Sort.partition (lt C) d a b p).2.1,MA v (Sort.partition (lt C) d a b p).2.2):=by
 have key:∀ {i j:Nat} {d:Array β},a < d.size→1≤i→j < d.size→d.size≤250→F1 ((a:Int),(i:Int),(j:Int),MA v d)=some ((a:Int),((Sort.partLoop (lt C) a i j d).1:Int),MA v (Sort.partLoop (lt C) a i j d).2):=by
  intro i j d ha hi hj hz
  refine aK (fun s r n=>∃ (i j:Nat) (d:Array β),a < d.size∧1≤i∧j < d.size∧d.size≤250∧s=((a:Int),(i:Int),(j:Int),MA v d)∧r=((a:Int),((Sort.partLoop (lt C) a i j d).1:Int),MA v (Sort.partLoop (lt C) a i j d).2)∧n=j+1-i) ⟨i,j,d,ha,hi,hj,hz,rfl,rfl,rfl⟩ (by omega) ?_
  rintro s r n ⟨i,j,d,q1,q2,q3,q4,rfl,rfl,rfl⟩
  have u1:=Sort.scanUp_ge (fun x=>lt C x d[a]!) d j i
  have u2:=Sort.scanDown_le (fun x=>!lt C x d[a]!) d (Sort.scanUp (fun x=>lt C x d[a]!) d j i) j
  rw[Sort.partLoop_eq]
  simp(disch:=omega) only[Mp,F0,pr3 hC,pr4 hC,bind_some']
  generalize Sort.scanUp (fun x=>lt C x d[a]!) d j i=i2 at *
  generalize Sort.scanDown (fun x=>!lt C x d[a]!) d i2 j=j2 at *
  by_cases e:j2 < i2
  ·left; simp(disch:=omega) only[iH,dT,cond_true,if_pos (show i2 > j2 from e)]
  ·right
   simp(disch:=omega) only[iH,dF,cond_false,if_neg (show ¬ i2 > j2 from e),aH,au,aR,Int.toNat_natCast,bA,aV,bB,a1,aI,p1]
   exact⟨_,j2-1+1-(i2+1),rfl,⟨i2+1,j2-1,Sort.swp d i2 j2,by rwa [aw],by omega,by rw[aw]; omega,by rwa [aw],rfl,rfl,rfl⟩,by omega⟩
 unfold Sort.partition
 simp only[]
 have z1:(Sort.swp d a p).size=d.size:=aw _ _ _
 generalize hd:Sort.swp d a p=d1 at *
 have u1:=Sort.scanUp_ge (fun x=>lt C x d1[a]!) d1 (b-1) (a+1)
 have u2:=Sort.scanDown_le (fun x=>!lt C x d1[a]!) d1 (Sort.scanUp (fun x=>lt C x d1[a]!) d1 (b-1) (a+1)) (b-1)
 simp(disch:=omega) only[pW,p93,q93,aH,au,aR,Int.toNat_natCast,bA,aV,bB,hd,a1,aI,p1,pr0 hC,pr1 hC,bind_some']
 generalize Sort.scanUp (fun x=>lt C x d1[a]!) d1 (b-1) (a+1)=i2 at *
 generalize Sort.scanDown (fun x=>!lt C x d1[a]!) d1 i2 (b-1)=j2 at *
 by_cases e:j2 < i2
 ·simp(disch:=omega) only[iH,dT,cond_true,if_pos (show i2 > j2 from e),aH,au,aR,Int.toNat_natCast,bA,aV,bB]
 ·have z2:(Sort.swp d1 i2 j2).size=d1.size:=aw _ _ _
  have k:=key (i:=i2+1) (j:=j2-1) (d:=Sort.swp d1 i2 j2) (by omega) (by omega) (by omega) (by omega)
  have hl:=G4 (C:=C) a _ (i2+1) (j2-1) (Sort.swp d1 i2 j2) (Nat.le_refl _)
  simp(disch:=omega) only[iH,dF,cond_false,if_neg (show ¬ i2 > j2 from e),aH,au,aR,Int.toNat_natCast,bA,aV,bB,a1,aI,p1,k,bind_some']
theorem Ta (hS:Sort.SWO (lt C)):∀ (n f m a b limit:Nat) (wb wp:Bool) (d:Array β),n < f→n < m→n≤1000→b-a≤n→a≤b→b≤d.size→d.size≤250→limit≤250→Sort.Below (lt C) a b d →
  goF (fun x=>ph (tq f) x.1 x.2.1 x.2.2.1 x.2.2.2.1 x.2.2.2.2.1 x.2.2.2.2.2) m ((a:Int),(b:Int),(limit:Int),wb,wp,MA v d)=some (MA v (Sort.pdq (lt C) d a b limit wb wp)):=by
 have small:∀ (f m a b limit:Nat) (wb wp:Bool) (d:Array β),0 < m→b-a≤12→a≤b→b≤d.size→d.size≤250→goF (fun x=>ph (tq f) x.1 x.2.1 x.2.2.1 x.2.2.2.1 x.2.2.2.2.1 x.2.2.2.2.2) m ((a:Int),(b:Int),(limit:Int),wb,wp,MA v d)=some (MA v (Sort.pdq (lt C) d a b limit wb wp)):=by
  intro f m a b limit wb wp d hm h12 hab hb hz
  obtain⟨m,rfl⟩:∃ m',m=m'+1:=⟨m-1,by omega⟩
  have g:decide (((b-a:Nat):Int)≤12)=true:=by simp; omega
  rw[Sort.pdq,if_pos h12]
  simp(disch:=omega) only[goF,ph,uO,pn,aI,au,g,cond_true,ins hC,bind_some']
 intro n
 induction n with
 | zero=>intro f m a b limit wb wp d h1 h2 hn h3 hab hb hz hl hB; exact small f m a b limit wb wp d h2 (by omega) hab hb hz
 | succ n ih=>
  intro f m a b limit wb wp d h1 h2 hn h3 hab hb hz hl hB
  by_cases h12:b-a≤12
  ·exact small f m a b limit wb wp d (by omega) h12 hab hb hz
  obtain⟨m,rfl⟩:∃ m',m=m'+1:=⟨m-1,by omega⟩
  obtain⟨f,rfl⟩:∃ f',f=f'+1:=⟨f-1,by omega⟩
  have g12:decide (((b-a:Nat):Int)≤12)=false:=by simp; omega
  rw[Sort.pdq,if_neg h12]
  by_cases h0:limit=0
  ·subst h0
   have g0:decide (((0:Nat):Int)=0)=true:=rfl
   simp(disch:=omega) only[goF,ph,uO,pn,aI,au,g12,cond_false,g0,cond_true,heap hC,bind_some',if_true]
  have g0:decide ((limit:Int)=0)=false:=by simp; omega
  rw[if_neg h0]
  simp only[]
  have e1:uN (tq (f+1)) ((a:Int),(b:Int),(limit:Int),wb,wp,((b-a:Nat):Int),MA v d)=some ((a:Int),(b:Int),((if(!wb)=true then limit-1 else limit:Nat):Int),wb,wp,((b-a:Nat):Int),MA v (if(!wb)=true then Sort.breakPatterns d a b else d)):=by
   cases wb
   ·simp(disch:=omega) only[uN,F2,zN,Bool.not_false,cond_true,brk,bind_some',p1,aI,au,if_true]
   ·simp only[uN,F2,zN,Bool.not_true,cond_false,Bool.false_eq_true,if_false]
  have s1:Sort.PermIn a b d (if(!wb)=true then Sort.breakPatterns d a b else d):=by
   split
   ·exact Sort.breakPatterns_holds d a b hab hb
   ·exact Sort.permIn_refl _ _ _
  have hl1:(if(!wb)=true then limit-1 else limit)≤250:=by split <;> omega
  generalize (if(!wb)=true then Sort.breakPatterns d a b else d)=d1 at *
  generalize (if(!wb)=true then limit-1 else limit)=l1 at *
  have z1:d1.size=d.size:=s1.1
  have e2:=chp hC (d:=d1) (a:=a) (b:=b) (by omega) (by omega) (by omega)
  have hc0:=Sort.choosePivot_holds (lt C) d1 a b (by omega)
  generalize Sort.choosePivot (lt C) d1 a b=c at *
  have e3:zO (tq (f+1)) ((a:Int),(b:Int),(l1:Int),wb,wp,((b-a:Nat):Int),(c.1:Int),hN c.2,MA v d1)=some ((a:Int),(b:Int),(l1:Int),wb,wp,((b-a:Nat):Int),((if c.2 = .decreasing then(b-1)-(c.1-a)else c.1:Nat):Int),hN (if c.2 = .decreasing then Sort.Hint.increasing else c.2),MA v (if c.2 = .decreasing then Sort.reverseRange d1 a b else d1)):=by
   obtain⟨c1,c2⟩:=c
   simp only at hc0
   cases c2
   ·rfl
   ·rfl
   ·have g:decide (hN Sort.Hint.decreasing=2)=true:=rfl
    simp(disch:=omega) only[zO,My,F3,g,cond_true,rev,bind_some',p1,aI,au,pn,if_true]
    rfl
  have s2:Sort.PermIn a b d1 (if c.2 = .decreasing then Sort.reverseRange d1 a b else d1):=by
   split
   ·exact Sort.reverseRange_holds d1 a b hab (by omega)
   ·exact Sort.permIn_refl _ _ _
  have hpv:a≤(if c.2 = .decreasing then(b-1)-(c.1-a)else c.1)∧(if c.2 = .decreasing then(b-1)-(c.1-a)else c.1) < b:=by split <;> omega
  generalize (if c.2 = .decreasing then Sort.reverseRange d1 a b else d1)=d2 at *
  generalize (if c.2 = .decreasing then(b-1)-(c.1-a)else c.1)=pv at *
  generalize (if c.2 = .decreasing then Sort.Hint.increasing else c.2)=hint at *
  have z2:d2.size=d1.size:=s2.1
  have B2:Sort.Below (lt C) a b d2:=(hB.perm hb s1).perm (by omega) s2
  have s3:Sort.PermIn a b d2 (if(wb&&wp&&decide (hint = .increasing))=true then Sort.partialInsertionSort (lt C) d2 a b else(d2,false)).1:=by
   split
   ·exact(Sort.partialInsertionSort_holds hS d2 a b (by omega) (by omega) B2).1
   ·exact Sort.permIn_refl _ _ _
  have e4:zP (tq (f+1)) ((a:Int),(b:Int),(l1:Int),wb,wp,((b-a:Nat):Int),(pv:Int),hN hint,MA v d2)=some (cond (if(wb&&wp&&decide (hint = .increasing))=true then Sort.partialInsertionSort (lt C) d2 a b else(d2,false)).2
    (.inl (MA v (if(wb&&wp&&decide (hint = .increasing))=true then Sort.partialInsertionSort (lt C) d2 a b else(d2,false)).1))
    (.inr ((a:Int),(b:Int),(l1:Int),wb,wp,((b-a:Nat):Int),(pv:Int),MA v (if(wb&&wp&&decide (hint = .increasing))=true then Sort.partialInsertionSort (lt C) d2 a b else(d2,false)).1))):=by
   have hpis:=pis hC (d:=d2) (a:=a) (b:=b) (by omega) (by omega) (by omega)
   cases wb
   ·rfl
   ·cases wp
    ·rfl
    ·cases hint
     ·rfl
     ·have g:decide (hN Sort.Hint.increasing=1)=true:=rfl
      simp only[zP,Mz,F4,g,cond_true,hpis,bind_some',Bool.true_and,decide_true,if_true]
      cases(Sort.partialInsertionSort (lt C) d2 a b).2 <;> rfl
     ·rfl
  generalize (if(wb&&wp&&decide (hint = .increasing))=true then Sort.partialInsertionSort (lt C) d2 a b else(d2,false))=pi at *
  obtain⟨d3,fl⟩:=pi
  simp only at s3 e4 ⊢
  have z3:d3.size=d2.size:=s3.1
  have B3:Sort.Below (lt C) a b d3:=B2.perm (by omega) s3
  rw[goF]
  generalize hG:goF (fun x=>ph (tq (f+1)) x.1 x.2.1 x.2.2.1 x.2.2.2.1 x.2.2.2.2.1 x.2.2.2.2.2) m=G
  simp(disch:=omega) only[ph,uO,pn,aI,au,g12,cond_false,g0,e1,bind_some',e2,e3,e4]
  clear e1 e2 e3 e4
  cases fl
  ·simp only[cond_false,Sum.elim_inr,Bool.false_eq_true,if_false]
   have call:∀ (x y:Nat) (dd:Array β),x≤y→y-x≤n→y≤dd.size→dd.size≤250→Sort.Below (lt C) x y dd→tq (f+1) ((x:Int),(y:Int),(l1:Int),MA v dd)=some (MA v (Sort.pdq (lt C) dd x y l1 true true)):=fun x y dd k1 k2 k3 k4 k5=>by
    have:=ih f 18446744073709551616 x y l1 true true dd (by omega) (by omega) (by omega) k2 k1 k3 k4 hl1 k5
    have this':zQ (tq f) ((x:Int),(y:Int),(l1:Int),true,true,MA v dd)=some (MA v (Sort.pdq (lt C) dd x y l1 true true)):=this
    show TJ (tq f) _ _ _ _=_
    simp only[TJ,q66,this',bind_some']
   have part:∀ (mid:Nat) (ap:Bool) (d4:Array β),Sort.partition (lt C) d3 a b pv=(mid,ap,d4) →
     ∃ s',(((pW ((a:Int),(b:Int),(pv:Int),MA v d3)).bind fun r17=>ai (ah .i64 (r17.1-(a:Int))) (ai (ah .i64 ((b:Int)-r17.1)) (ai (ah .i64 (Int.tdiv ((b-a:Nat):Int) 8)) (cond (decide ((r17.1-(a:Int)) < ((b:Int)-r17.1)))
      ((tq (f+1) ((a:Int),r17.1,(l1:Int),r17.2.2)).bind fun r18=>ai (ah .i64 (r17.1+1)) (some (Sum.inl ((r17.1+1),(b:Int),(l1:Int),decide (Int.tdiv ((b-a:Nat):Int) 8≤(r17.1-(a:Int))),r17.2.1,r18))))
      (ai (ah .i64 (r17.1+1)) ((tq (f+1) ((r17.1+1),(b:Int),(l1:Int),r17.2.2)).bind fun r19=>some (Sum.inl ((a:Int),r17.1,(l1:Int),decide (Int.tdiv ((b-a:Nat):Int) 8≤((b:Int)-r17.1)),r17.2.1,r19))))))):Option ((Int×Int×Int×Bool×Bool×List E)⊕List E)))=some (Sum.inl s')∧G s'=some (MA v (if h:a≤mid∧mid < b then
       if mid-a < b-mid then Sort.pdq (lt C) (Sort.pdq (lt C) d4 a mid l1 true true) (mid+1) b l1 (decide (mid-a≥(b-a) / 8)) ap
       else Sort.pdq (lt C) (Sort.pdq (lt C) d4 (mid+1) b l1 true true) a mid l1 (decide (b-mid≥(b-a) / 8)) ap else d4)):=fun mid ap d4 hx=>by
    have hr:=prt hC (d:=d3) (a:=a) (b:=b) (p:=pv) (by omega) (by omega) (by omega) (by omega) (by omega)
    obtain⟨g1,g2,hs4,hBa,hBr,hleft,hright⟩:=Sort.round_part hS (Sort.partition_holds _) hpv.1 hpv.2 (by omega) B3 hx
    rw[hx]at hr
    simp only at hr
    have q8:Int.tdiv ((b-a:Nat):Int) 8=(((b-a) / 8:Nat):Int):=B6 _
    rw[dif_pos ⟨g1,g2⟩]
    simp(disch:=omega) only[hr,bind_some',pn,aI,au,q8,iH,gY,a1]
    by_cases hlt:mid-a < b-mid
    ·have k:=call a mid d4 g1 (by omega) (by omega) (by omega) hBa
     obtain⟨l1',l2'⟩:=Sort.pdq_sorts (lt C) hS d4 a mid l1 true true g1 (by omega) hBa
     have hB':=(hleft _ l1' l2').1
     simp(disch:=omega) only[dT,cond_true,k,bind_some',if_pos hlt]
     refine⟨_,rfl,?_⟩
     rw[← hG]
     exact ih (f+1) m (mid+1) b l1 _ ap _ (by omega) (by omega) (by omega) (by omega) (by omega) (by rw[l1'.1]; omega) (by rw[l1'.1]; omega) hl1 hB'
    ·have k:=call (mid+1) b d4 (by omega) (by omega) (by omega) (by omega) hBr
     obtain⟨l1',l2'⟩:=Sort.pdq_sorts (lt C) hS d4 (mid+1) b l1 true true (by omega) (by omega) hBr
     have hB':=(hright _ l1' l2').1
     simp(disch:=omega) only[dF,cond_false,k,bind_some',if_neg hlt]
     refine⟨_,rfl,?_⟩
     rw[← hG]
     exact ih (f+1) m a mid l1 _ ap _ (by omega) (by omega) (by omega) (by omega) (by omega) (by rw[l1'.1]; omega) (by rw[l1'.1]; omega) hl1 hB'
   by_cases ha0:0 < a
   ·have ga:decide ((0:Int) < (a:Int))=true:=by simp; omega
    simp(disch:=omega) only[ga,cond_true,p1,aI,au,aH,aR,hC,bind_some']
    cases hq:lt C d3[a-1]! d3[pv]!
    ·simp only[Bool.not_false,cond_true,Bool.and_true,decide_eq_true_eq,if_pos (show a > 0 from ha0)]
     have hr:=peq hC (d:=d3) (a:=a) (b:=b) (p:=pv) (by omega) (by omega) (by omega) (by omega) (by omega)
     rcases hx:Sort.partitionEqual (lt C) d3 a b pv with⟨mid,d4⟩
     obtain⟨g1,g2,hs4,hB4,hfin⟩:=Sort.round_eq hS (Sort.partitionEqual_holds _) ha0 hpv.1 hpv.2 (by omega) B3 hq hx
     rw[hx]at hr
     simp only at hr
     simp only[hr,bind_some',dif_pos (And.intro g1 g2)]
     rw[← hG]
     exact ih (f+1) m mid b l1 wb wp d4 (by omega) (by omega) (by omega) (by omega) g2 (by omega) (by omega) hl1 hB4
    ·simp only[Bool.not_true,cond_false,Bool.and_false,Bool.false_eq_true,if_false]
     rcases hx:Sort.partition (lt C) d3 a b pv with⟨mid,ap,d4⟩
     obtain⟨s',k1,k2⟩:=part mid ap d4 hx
     rw[k1]
     exact k2
   ·have ga:decide ((0:Int) < (a:Int))=false:=by simp; omega
    have gn:decide (a > 0)=false:=by simp; omega
    simp only[ga,cond_false,gn,Bool.false_and,Bool.false_eq_true,if_false]
    rcases hx:Sort.partition (lt C) d3 a b pv with⟨mid,ap,d4⟩
    obtain⟨s',k1,k2⟩:=part mid ap d4 hx
    rw[k1]
    exact k2
  ·simp only[cond_true,Sum.elim_inl,if_true]
theorem top (hS:Sort.SWO (lt C)){d:Array β}(hz:d.size≤250):F5 (MA v d)=some (MA v (Sort.sort (lt C) d)):=by
 have hl:Sort.bitsLen d.size≤8:=(Sort.bitsLen_le_iff d.size 8).2 (by omega)
 have fu:ah .u64 (d.size:Int)=true:=m8 (by omega) (by omega)
 have k:=Ta hC hS 1000 18446744073709551615 18446744073709551616 0 d.size (Sort.bitsLen d.size) true true d (by omega) (by omega) (by omega) (by omega) (by omega) (Nat.le_refl _) hz (by omega) (.inl rfl)
 have k':zQ (tq 18446744073709551615) (0,(d.size:Int),((Sort.bitsLen d.size:Nat):Int),true,true,MA v d)=some (MA v (Sort.sort (lt C) d)):=k
 have e:P66 (0,(d.size:Int),((Sort.bitsLen d.size:Nat):Int),MA v d)=some (MA v (Sort.sort (lt C) d)):=by
  show TJ (tq 18446744073709551615) _ _ _ _=_
  simp only[TJ,q66,k',bind_some']
 simp(disch:=omega) only[F5,p44,q44,pb,fu,au,G3,bind_some',e]
end
theorem srt (K:E→Int)(gd:E→Prop)(x0:E)(h0:gd x0)(hK:∀ x y,gd x→gd y→∃ c:Bool,P91 (x,y)=some c∧(c=true↔K x < K y)){l:List E}(hl:∀ x∈l,gd x)(hz:l.length≤250):
  ∃ l',F5 l=some l'∧l'.Perm l∧Sd K l' 0 l'.length:=by
 letI:Inhabited {x:E // gd x}:=⟨⟨x0,h0⟩⟩
 let C:{x:E // gd x}→{x:E // gd x}→Bool:=fun x y=>Classical.choose (hK x.1 y.1 x.2 y.2)
 have hC:∀ x y:{x:E // gd x},P91 (x.1,y.1)=some (lt C x y):=fun x y=>(Classical.choose_spec (hK x.1 y.1 x.2 y.2)).1
 have hlt:∀ x y:{x:E // gd x},lt C x y=true↔K x.1 < K y.1:=fun x y=>(Classical.choose_spec (hK x.1 y.1 x.2 y.2)).2
 have hlf:∀ x y:{x:E // gd x},lt C x y=false↔K y.1≤K x.1:=fun x y=>by rw[← Bool.not_eq_true,hlt]; omega
 have hS:Sort.SWO (lt C):=⟨fun x=>(hlf x x).2 (Int.le_refl _),fun x y z h1 h2=>(hlt _ _).2 (Int.lt_trans ((hlt _ _).1 h1) ((hlt _ _).1 h2)),fun x y z h1 h2=>(hlf _ _).2 (Int.le_trans ((hlf _ _).1 h2) ((hlf _ _).1 h1))⟩
 let d:Array {x:E // gd x}:=(l.attach.map fun x=>⟨x.1,hl x.1 x.2⟩).toArray
 have hd:MA (fun x:{x:E // gd x}=>x.1) d=l:=by
  simp only[MA,d,List.map_map]
  exact List.attach_map_subtype_val l
 have hds:d.size=l.length:=by simp[d]
 obtain⟨s1,s2⟩:=Sort.sort_sorts (lt C) hS d
 have ht:=top (v:=fun x:{x:E // gd x}=>x.1) hC hS (d:=d) (by omega)
 rw[hd]at ht
 refine⟨_,ht,?_,fun i j q1 q2 q3=>?_⟩
 ·have hp:=s1.2.2
  have e1:∀ r:Array {x:E // gd x},r.size=d.size→r.extract 0 d.size=r:=fun r hr=>by rw[← hr]; simp
  rw[e1 _ s1.1,show d.extract 0 d.size=d by simp]at hp
  have:=hp.map (fun x:{x:E // gd x}=>x.1)
  rw[← hd]
  exact this
 ·rw[pb]at q3
  have e:∀ k,k < (Sort.sort (lt C) d).size→gt (MA (fun x:{x:E // gd x}=>x.1) (Sort.sort (lt C) d)) k=((Sort.sort (lt C) d)[k]!).1:=fun k hk=>by rw[← cz,aR hk]
  rw[e i (by omega),e j q3]
  exact(hlf _ _).1 (s2 i j q1 q2 (by have:=s1.1; omega))
end Pdq44
theorem xX (a b:List Int)(ha:a.length≤1000000):P20 (a,b)=some (decide (a=b)):=by
 show q20 zV a b=_
 unfold q20
 by_cases hn:a.length=b.length
 ·rw[show decide ((↑(List.length a):Int)=(↑(List.length b):Int))=true from decide_eq_true (by omega),Bool.not_true,cond_false]
  have e:zV (a,b,0)=some (cond (fM a.length (fun k=>decide (gt a k=gt b k))) (Sum.inr ()) (Sum.inl false)):=by
   refine jH (step:=fun x=>MK x.1 x.2.1 x.2.2) a.length (fun k=>(a,b,(k:Int))) (fun k=>decide (gt a k=gt b k)) _ _ (fun k hk=>?_) ?_ (by omega)
   ·show rg a b (k:Int)=_
    unfold rg
    rw[show decide ((k:Int) < (↑(List.length a):Int))=true from bg hk,cond_true,aE (aN hk),aE (aN (by omega)),cz,cz]
    cases decide (gt a k=gt b k)with
    | false=>rfl
    | true=>rw[Bool.not_true,cond_false,aE (aX (by omega))]; rfl
   ·show rg a b (a.length:Int)=_
    unfold rg
    rw[show decide ((a.length:Int) < (↑(List.length a):Int))=false from bF _,cond_false]
  rw[e]
  have q:fM a.length (fun k=>decide (gt a k=gt b k))=decide (a=b):=by
   rw[Bool.eq_iff_iff,dc,decide_eq_true_eq]
   constructor
   ·intro h; exact mA hn fun i hi=>of_decide_eq_true (h i hi)
   ·rintro rfl k hk; exact decide_eq_true rfl
  rw[q]
  cases decide (a=b) <;> rfl
 ·rw[show decide ((↑(List.length a):Int)=(↑(List.length b):Int))=false from decide_eq_false (by omega),Bool.not_false,cond_true,decide_eq_false fun e=>hn (by rw[e])]
theorem SI (a b:List (List Int))(ha:a.length≤1000)(hr:∀ k,k < a.length→(gt a k).length≤1000):tr (a,b)=some (decide (a=b),a,b):=by
 show q19 P20 Ao a b=_
 unfold q19
 by_cases hn:a.length=b.length
 ·rw[show decide ((↑(List.length a):Int)=(↑(List.length b):Int))=true from decide_eq_true (by omega),Bool.not_true,cond_false]
  have e:Ao (0,a,b)=some (cond (fM a.length (fun k=>decide (gt a k=gt b k))) (Sum.inr (a,b)) (Sum.inl (false,a,b))):=by
   refine jH (step:=fun x=>NY x.1 x.2.1 x.2.2) a.length (fun k=>((k:Int),a,b)) (fun k=>decide (gt a k=gt b k)) _ _ (fun k hk=>?_) ?_ (by omega)
   ·show rn P20 (k:Int) a b=_
    unfold rn
    rw[show decide ((k:Int) < (↑(List.length a):Int))=true from bg hk,cond_true,aE (aN hk),aE (aN (by omega)),cz,cz,xX _ _ (by have:=hr k hk; omega),bind_some']
    cases decide (gt a k=gt b k)with
    | false=>rfl
    | true=>rw[Bool.not_true,cond_false,aE (aX (by omega))]; rfl
   ·show rn P20 (a.length:Int) a b=_
    unfold rn
    rw[show decide ((a.length:Int) < (↑(List.length a):Int))=false from bF _,cond_false]
  rw[e]
  have q:fM a.length (fun k=>decide (gt a k=gt b k))=decide (a=b):=by
   rw[Bool.eq_iff_iff,dc,decide_eq_true_eq]
   constructor
   ·intro h; exact mA hn fun i hi=>of_decide_eq_true (h i hi)
   ·rintro rfl k hk; exact decide_eq_true rfl
  rw[q]
  cases decide (a=b) <;> rfl
 ·rw[show decide ((↑(List.length a):Int)=(↑(List.length b):Int))=false from decide_eq_false (by omega),Bool.not_false,cond_true,decide_eq_false fun e=>hn (by rw[e])]
def GL (v:List Int):List Int:=((List.range 100).map fun n:Nat=>(n:Int)).filter fun n=>decide (n∈v)
theorem tc {v:List Int}{n:Int}(hv:∀ x∈v,0≤x∧x≤99):n∈GL v↔n∈v:=by
 unfold GL
 rw[List.mem_filter,decide_eq_true_eq,List.mem_map]
 constructor
 ·exact fun h=>h.2
 ·intro h
  have:=hv n h
  exact⟨⟨n.toNat,List.mem_range.2 (by omega),by omega⟩,h⟩
theorem asc_vnO (v:List Int):(GL v).Pairwise (fun a b=>(fun n:Int=>n) a < (fun n:Int=>n) b):=by
 unfold GL
 refine List.Pairwise.filter _ ?_
 rw[List.pairwise_map]
 exact List.pairwise_lt_range.imp fun h=>Int.ofNat_lt.2 h
theorem SJ (x y:Int):P91 (x,y)=some (decide (x < y)):=by
 show q91 uL x y=_
 unfold q91
 rw[show uL x=some (!decide (x=x))from rfl,bind_some',pO]
 rfl
theorem sortV {v:List Int}(hv:∀ x∈v,0≤x∧x≤99)(hl:v.length≤250):∃ s,F5 v=some s∧Ca s=some (GL v):=by
 obtain⟨s,e1,e2,e3⟩:=Pdq44.srt (fun n=>n) (fun _=>True) 0 trivial (fun x y _ _=>⟨decide (x < y),SJ x y,by rw[decide_eq_true_eq]⟩) (l:=v) (fun _ _=>trivial) hl
 refine⟨s,e1,?_⟩
 rw[Sw s (by rw[e2.length_eq]; omega)]
 congr 1
 refine pw (fun n=>n) (ddN_asc (fun n=>n) s e3 (fun a _ b _ h=>h) s.length (Nat.le_refl _)).1 (asc_vnO v) fun x=>?_
 rw[na,e2.mem_iff,tc hv]
theorem BX (x:HM)(c:aq):∀ n∈(dD x c).2.2,n∈x.2.2∨n=c.2.2.2.1:=by
 intro n hn
 unfold dD sV pr kN at hn
 split at hn
 ·split at hn
  ·split at hn <;> exact .inl hn
  ·exact .inl hn
 ·split at hn
  ·split at hn
   ·exact .inl hn
   ·simpa using hn
  ·split at hn <;> exact .inl hn
theorem Ay (hold minute:Int):∀ (l:List aq) (x:HM),(gW hold minute l x).2.2.length≤x.2.2.length+l.length∧((∀ c∈l,aY c)→(∀ n∈x.2.2,0≤n∧n≤99)→∀ n∈(gW hold minute l x).2.2,0≤n∧n≤99)
 | [],x=>⟨Nat.le_refl _,fun _ h=>h⟩
 | c::l,x=>by
  unfold gW
  split
  ·exact⟨by simp,fun _ h=>h⟩
  ·obtain⟨h1,h2⟩:=Ay hold minute l (dD (dR hold c.2.1 x) c)
   have h3:=rx (dR hold c.2.1 x) c
   have h4:(dR hold c.2.1 x).2.2=x.2.2:=rfl
   rw[h4]at h3
   refine⟨by simp only[List.length_cons]; omega,fun hc hx=>h2 (fun d hd=>hc d (by simp[hd])) fun n hn=>?_⟩
   rcases BX _ _ n hn with q | q
   ·exact hx n q
   ·have:=(hc c (by simp)).2.2.2
    rw[q]; exact this
theorem kR {h:List Int×Int}{l:List aq}(minute:Int)(hl:bC l):(aF h l minute).2.2.length≤40∧∀ n∈(aF h l minute).2.2,0≤n∧n≤99:=by
 obtain⟨e1,e2,e3,e4⟩:=fR (l:=l) (by have:=hl.1; omega) hl.2.1 hl.2.2
 obtain⟨h1,h2⟩:=Ay h.2 minute (hrd l) (GF h.1)
 have h3:=hl.1
 have h4:(GF h.1).2.2.length=0:=rfl
 have h5:(aF h l minute).2.2=(gW h.2 minute (hrd l) (GF h.1)).2.2:=rfl
 rw[h5]
 exact⟨by omega,h2 (xV hl).1 (by simp[GF])⟩
noncomputable def GM (h:List Int×Int)(l:List aq)(minute order:Int):vI×Int:=if iC h l minute order 1=0 then(iJ ((aF h l minute).2.1 order),0)else((0,0,0,0),iC h l minute order 1)
noncomputable def SK (h:List Int×Int)(l:List aq)(minute:Int):Int×List (List Int):=if iC h l minute 0 1=0 then(0,(aF h l minute).1)else(iC h l minute 0 1,[])
noncomputable def vq (h:List Int×Int)(l:List aq)(minute:Int):Int×List Int:=if iC h l minute 0 1=0 then(0,GL (aF h l minute).2.2)else(iC h l minute 0 1,[])
noncomputable def Az (h:List Int×Int)(l:List aq)(minute size:Int):Int×Int×Int:=if iC h l minute 0 size=0 then(match bO (aF h l minute).1 size.toNat with
  | some c=>((c.1:Int),(c.2:Int),0)
  | none=>(0,0,3))else(0,0,iC h l minute 0 size)
theorem lI {α β:Type}(k:β→Option α)(n:Option α):Kk none k n=n:=rfl
theorem lJ {α β:Type}(x:β)(k:β→Option α)(n:Option α):Kk (some x) k n=k x:=rfl
section
variable {h:List Int×Int} {l:List aq} (minute:Int) (hh:h.1.length≤1000) (hl:l.length≤1000)
include hh hl
theorem GN (order:Int):P15 (h,l,minute,order)=some (GM h l minute order):=by
 show q15 pg P42v1 nu h l minute order=_
 unfold q15 GM
 try unfold Gl
 try unfold Gk
 try unfold Ch
 try unfold Cg
 try unfold xQ
 try unfold pd
 rw[ta h l minute order 1 hh hl]
 by_cases h0:iC h l minute order 1=0
 ·obtain⟨pool,e1,e2⟩:=lH h0
  rw[if_pos h0,lI,e1,bind_some',if_pos h0]
  simp only[decide_true,Bool.not_true,cond_false,pp,bind_some',sX e2]
  rfl
 ·rw[if_neg h0,lJ,if_neg h0,decide_eq_false h0]
  rfl
theorem SL:jQ (h,l,minute)=some (SK h l minute):=by
 show q17 pg P42v1 h l minute=_
 unfold q17 SK
 rw[ta h l minute 0 1 hh hl]
 by_cases h0:iC h l minute 0 1=0
 ·obtain⟨pool,e1,e2⟩:=lH h0
  rw[if_pos h0,lI,e1,bind_some',if_pos h0]
  rfl
 ·rw[if_neg h0,lJ,if_neg h0,decide_eq_false h0]
  rfl
theorem GO:P16 (h,l,minute)=some (vq h l minute):=by
 show q16 pg P42v1 F5 Ca h l minute=_
 unfold q16 vq
 rw[ta h l minute 0 1 hh hl]
 by_cases h0:iC h l minute 0 1=0
 ·obtain⟨pool,e1,e2⟩:=lH h0
  obtain⟨v1,v2⟩:=kR (h:=h) minute (iD.1 h0).1.2
  obtain⟨s,s1,s2⟩:=sortV v2 (by omega)
  rw[if_pos h0,lI,e1,bind_some',if_pos h0]
  simp only[decide_true,Bool.not_true,cond_false,s1,s2,bind_some']
 ·rw[if_neg h0,lJ,if_neg h0,decide_eq_false h0]
  rfl
theorem SM (size:Int):P21 (h,l,minute,size)=some (Az h l minute size):=by
 show q21 pg P42v1 pY h l minute size=_
 unfold q21 Az
 rw[ta h l minute 0 size hh hl]
 by_cases h0:iC h l minute 0 size=0
 ·obtain⟨⟨c1,c2⟩,c3,c4,c5⟩:=iD.1 h0
  obtain⟨pool,e1,e2⟩:=lH h0
  have hI:=IM.after (h:=h) c2 minute
  have hlen:=hI.len
  have hsl:=sZ c1
  obtain⟨sz,rfl⟩:∃ sz:Nat,size=(sz:Int):=⟨size.toNat,by omega⟩
  rw[if_pos h0,lI,e1,bind_some',if_pos h0]
  simp only[decide_true,Bool.not_true,cond_false,Int.toNat_natCast]
  rw[yb (fun r hr=>by have:=hI.row (n9 c1) hr; omega) (by omega) (by omega),bind_some',vi]
  cases bO (aF h l minute).1 sz with
  | none=>rfl
  | some c=>rfl
 ·rw[if_neg h0,lJ,if_neg h0,decide_eq_false h0]
  rfl
end
def Ub:List Int×Int:=([5,3],10)
def Om:List aq:=[(1,0,1,1,2),(2,1,1,2,2),(3,5,2,1,0),(4,12,1,3,3),(5,11,2,2,0)]
def exS:List aq:=[(1,0,1,1,2),(2,1,1,2,2),(3,5,2,1,0),(5,11,2,2,0),(4,12,1,3,3)]
theorem SN:cL Ub:=by decide +kernel
theorem xY:bC Om:=by decide +kernel
theorem xZ:hrd Om=exS:=(jq (by decide) xY.2.1 xY.2.2 (by decide +kernel) (fun x=>(by decide +kernel:exS.Perm Om).mem_iff)).symm
theorem x4 {m o z:Int}(h1:0≤m∧m≤9999)(h2:0≤o∧o≤99)(h3:1≤z∧z≤12):iC Ub Om m o z=0:=iD.2 ⟨⟨SN,xY⟩,h1,h2,h3⟩
theorem td:P14 ()=some true:=by
 show q14 P41 P15 P21 P16 P20=_
 unfold q14
 rw[show P41 ()=some (10,[5,3],Om)from rfl,bind_some']
 simp only
 rw[show(([5,3],10):List Int×Int)=Ub from rfl,GN 12 (by decide) (by decide),bind_some',SM 1 (by decide) (by decide),bind_some',GO 12 (by decide) (by decide),bind_some']
 have e1:GM Ub Om 12 2=((4,-1,-1,2),0):=by
  unfold GM aF
  rw[if_pos (x4 (by decide) (by decide) (by decide)),xZ]
  decide +kernel
 have e2:Az Ub Om 1 1=(0,4,0):=by
  unfold Az aF
  rw[if_pos (x4 (by decide) (by decide) (by decide)),xZ]
  decide +kernel
 have e3:vq Ub Om 12=(0,[2]):=by
  unfold vq aF
  rw[if_pos (x4 (by decide) (by decide) (by decide)),xZ]
  decide +kernel
 rw[e1,e2,e3]
 simp only[xX [2] [2] (by decide)]
 rfl
theorem SO (h:List Int×Int)(l:List aq):B8 (h,l)=some (decide (30 < h.1.length∨60 < l.length)):=by
 show cond (decide (30 < (↑(List.length h.1):Int))) (some true) (some (decide (60 < (↑(List.length l):Int))))=_
 by_cases h1:30 < h.1.length
 ·rw[decide_eq_true (show 30 < (↑(List.length h.1):Int)by omega),decide_eq_true (show 30 < h.1.length∨60 < l.length from .inl h1)]
  rfl
 ·rw[decide_eq_false (show ¬ 30 < (↑(List.length h.1):Int)by omega),cond_false]
  congr 1
  rw[Bool.eq_iff_iff,decide_eq_true_eq,decide_eq_true_eq]
  omega
theorem eq4 (a b:vI):((((decide (a.1=b.1)&&decide (a.2.1=b.2.1))&&decide (a.2.2.1=b.2.2.1))&&decide (a.2.2.2=b.2.2.2)))=decide (a=b):=by
 obtain⟨a1,a2,a3,a4⟩:=a
 obtain⟨b1,b2,b3,b4⟩:=b
 simp only[Prod.mk.injEq]
 by_cases h1:a1=b1 <;> by_cases h2:a2=b2 <;> by_cases h3:a3=b3 <;> by_cases h4:a4=b4 <;> simp[h1,h2,h3,h4]
abbrev TyH:Ty:=.pair (.sl (.int .i64)) (.int .i64)
abbrev TyC:Ty:=.sl (.pair (.int .i64) (.pair (.int .i64) (.pair (.int .i64) (.pair (.int .i64) (.int .i64)))))
abbrev TyX:Ty:=.pair (.int .i64) (.pair (.int .i64) (.int .i64))
theorem lK (hold minute:Int):∀ (a b:List aq) (x:HM),(∀ c∈a,c.2.1≤minute)→gW hold minute (a++b) x=gW hold minute b (gW hold minute a x)
 | [],b,x,_=>rfl
 | c::a,b,x,h=>by
  have hc:=h c (by simp)
  rw[List.cons_append,gW,gW,if_neg (by omega),if_neg (by omega)]
  exact lK hold minute a b _ fun d hd=>h d (by simp[hd])
theorem vr (hold minute:Int)(b:List aq)(x:HM)(h:∀ c∈b,minute < c.2.1):gW hold minute b x=x:=by
 cases b with
 | nil=>rfl
 | cons c b=>rw[gW,if_pos (h c (by simp))]
theorem ry (hold minute later:Int)(hm:minute≤later):∀ (a:List aq) (x:HM),(∀ c∈a,c.2.1≤minute)→gW hold later a x=gW hold minute a x
 | [],x,_=>rfl
 | c::a,x,h=>by
  have hc:=h c (by simp)
  rw[gW,gW,if_neg (by omega),if_neg (by omega)]
  exact ry hold minute later hm a _ fun d hd=>h d (by simp[hd])
theorem x5 (minute:Int):∀ {m:List aq},m.Pairwise (fun a b=>kc a < kc b)→(∀ c∈m,aY c)→∃ a b,m=a++b∧(∀ c∈a,c.2.1≤minute)∧∀ c∈b,minute < c.2.1
 | [],_,_=>⟨[],[],rfl,by simp,by simp⟩
 | c::m,hs,hv=>by
  rw[List.pairwise_cons]at hs
  by_cases h:minute < c.2.1
  ·refine⟨[],c::m,rfl,by simp,fun d hd=>?_⟩
   rcases List.mem_cons.1 hd with rfl | hd
   ·exact h
   ·have h1:=hs.1 d hd
    have h2:=(hv c (by simp)).1
    have h3:=(hv d (by simp[hd])).1
    unfold kc at h1
    omega
  ·obtain⟨a,b,e,h1,h2⟩:=x5 minute hs.2 fun d hd=>hv d (by simp[hd])
   refine⟨c::a,b,by rw[e]; rfl,fun d hd=>?_,h2⟩
   rcases List.mem_cons.1 hd with rfl | hd
   ·omega
   ·exact h1 d hd
def ND (hold minute:Int)(x:HM):Prop:=∀ n,dh hold minute (x.2.1 n)=false
theorem GP (f:Int→Int)(seats:List (List Int))(h:∀ v,f v=v):(seats.map fun l=>l.map f)=seats:=by
 have:f=id:=funext h
 subst this
 simp
theorem SP {hold minute:Int}{x:HM}(h:ND hold minute x):dR hold minute x=x:=by
 unfold dR
 have e1:lapG hold minute x.2.1=x.2.1:=funext fun n=>by unfold lapG; rw[h n]; rfl
 rw[e1,GP _ _ fun v=>by unfold pq; rw[h v]; rfl]
theorem vt (hold minute:Int)(o:fo):dh hold minute (gU o)=false:=rfl
theorem GQ (hold minute:Int)(x:HM):ND hold minute (dR hold minute x):=fun n=>by
 show dh hold minute (lapG hold minute x.2.1 n)=false
 unfold lapG
 cases h:dh hold minute (x.2.1 n)with
 | true=>rw[if_pos rfl,vt]
 | false=>rw[if_neg (by decide)]; exact h
theorem vu {hold minute later:Int}(hm:minute≤later){o:fo}(h:dh hold minute o=true):dh hold later o=true:=by
 unfold dh at h ⊢
 simp only[Bool.and_eq_true,decide_eq_true_eq]at h ⊢
 exact⟨h.1,by omega⟩
theorem te {hold minute later:Int}(hm:minute≤later){x:HM}(h1:x.2.1 (-1)=vO):dR hold later (dR hold minute x)=dR hold later x:=by
 have e1:lapG hold later (lapG hold minute x.2.1)=lapG hold later x.2.1:=funext fun n=>by
  unfold lapG
  cases h:dh hold minute (x.2.1 n)with
  | true=>simp only[if_true,vt,Bool.false_eq_true,if_false,vu hm h]
  | false=>simp only[Bool.false_eq_true,if_false]
 have e2:((x.1.map fun l=>l.map (pq hold minute x.2.1)).map fun l=>l.map (pq hold later (lapG hold minute x.2.1)))=x.1.map fun l=>l.map (pq hold later x.2.1):=by
  rw[List.map_map]
  refine List.map_congr_left fun l _=>?_
  simp only[Function.comp,List.map_map]
  refine List.map_congr_left fun v _=>?_
  simp only[Function.comp]
  unfold pq lapG
  cases h:dh hold minute (x.2.1 v)with
  | true=>simp only[if_true,h1,pt,Bool.false_eq_true,if_false,vu hm h]
  | false=>simp only[h,Bool.false_eq_true,if_false]
 unfold dR
 exact Prod.ext e2 (Prod.ext e1 rfl)
theorem tf {hold minute:Int}{g:Int→fo}{n:Int}{o:fo}(h:∀ m,dh hold minute (g m)=false)(ho:dh hold minute o=false):∀ m,dh hold minute (eY g n o m)=false:=fun m=>by
 unfold eY
 by_cases c:m=n
 ·rw[if_pos c]; exact ho
 ·rw[if_neg c]; exact h m
theorem J3 {hold minute:Int}(hh:1≤hold){x:HM}(h:ND hold minute x){c:aq}(hc:c.2.1=minute):ND hold minute (dD x c):=by
 unfold dD sV pr kN
 split
 ·split
  ·cases bO x.1 c.2.2.2.2.toNat with
   | none=>exact tf h rfl
   | some q=>
    refine tf h ?_
    unfold dh
    rw[Bool.and_eq_false_iff]
    right
    refine decide_eq_false ?_
    show ¬ (c.2.1+hold≤minute)
    omega
  ·exact h
 ·split
  ·split
   ·exact tf h rfl
   ·exact h
  ·split
   ·exact tf h rfl
   ·exact h
def GR (x:HM)(ds:List aq):HM:=ds.foldl dD x
theorem vw {hold minute:Int}(hh:1≤hold):∀ (ds:List aq) (x:HM),(∀ d∈ds,d.2.1=minute)→dR hold minute (gW hold minute ds x)=GR (dR hold minute x) ds
 | [],x,_=>rfl
 | d::ds,x,h=>by
  have hd:=h d (by simp)
  rw[gW,if_neg (by omega),vw hh ds _ fun e he=>h e (by simp[he]),hd]
  show _=GR (dD (dR hold minute x) d) ds
  rw[SP (J3 hh (GQ hold minute x) hd)]
theorem BY {h:List Int×Int}(hh:cL h){l ds:List aq}{minute:Int}(hl:bC l)(hd:bC (l++ds))(h1:∀ c∈l,c.2.1≤minute)(h2:∀ d∈ds,d.2.1=minute)(h3:∀ c∈l,∀ d∈ds,c.1 < d.1)(h4:ds.Pairwise (fun a b=>a.1 < b.1)):
  aF h (l++ds) minute=GR (aF h l minute) ds:=by
 obtain⟨e1,e2,e3,e4⟩:=fR (l:=l) (by have:=hl.1; omega) hl.2.1 hl.2.2
 have hq:hrd (l++ds)=hrd l++ds:=by
  refine(jq (by have:=hd.1; omega) hd.2.1 hd.2.2 ?_ fun x=>?_).symm
  ·rw[List.pairwise_append]
   refine⟨e2,h4.imp_of_mem fun ha hb hab=>?_,fun a ha b hb=>?_⟩
   ·have:=h2 _ ha
    have:=h2 _ hb
    unfold kc
    omega
   ·have q1:=h1 a ((e3 a).1 ha)
    have q2:=h2 b hb
    have q3:=h3 a ((e3 a).1 ha) b hb
    unfold kc
    omega
  ·rw[List.mem_append,List.mem_append,e3]
 unfold aF
 rw[hq,lK h.2 minute (hrd l) ds _ fun c hc=>h1 c ((e3 c).1 hc),vw hh.2.2.1 ds _ h2]
theorem vz {h:List Int×Int}{l:List aq}(hl:bC l){minute later:Int}(hm:minute≤later):
  ∃ b:List aq,(∀ c∈b,aY c∧minute < c.2.1)∧aF h l later=dR h.2 later (gW h.2 later b (aF h l minute)):=by
 obtain⟨e1,e2,e3,e4⟩:=fR (l:=l) (by have:=hl.1; omega) hl.2.1 hl.2.2
 have hv:∀ c∈hrd l,aY c:=fun c hc=>hl.2.1 c ((e3 c).1 hc)
 obtain⟨a,b,e,h1,h2⟩:=x5 minute e2 hv
 have ha:∀ c∈a,aY c:=fun c hc=>hv c (by rw[e]; simp[hc])
 refine⟨b,fun c hc=>⟨hv c (by rw[e]; simp[hc]),h2 c hc⟩,?_⟩
 have hneg:(gW h.2 minute a (GF h.1)).2.1 (-1)=vO:=((IM0 h.1).go h.2 minute a ha).dom (-1) (.inl (by decide))
 have e5:aF h l minute=dR h.2 minute (gW h.2 minute a (GF h.1)):=by
  unfold aF
  rw[e,lK _ _ _ _ _ h1,vr _ _ b _ h2]
 have e6:aF h l later=dR h.2 later (gW h.2 later b (gW h.2 minute a (GF h.1))):=by
  unfold aF
  rw[e,lK _ _ _ _ _ fun c hc=>by have:=h1 c hc; omega,ry _ _ _ hm _ _ h1]
 rw[e6,e5]
 cases b with
 | nil=>exact(te hm hneg).symm
 | cons c b=>
  rw[gW,gW]
  by_cases q:later < c.2.1
  ·rw[if_pos q,if_pos q,te hm hneg]
  ·rw[if_neg q,if_neg q,te (by have:=h2 c (by simp); omega) hneg]
theorem tg {l ds:List aq}(hl:bC l)(hn:l.length+ds.length≤40)(hd:∀ d∈ds,aY d)(h3:∀ c∈l,∀ d∈ds,c.1 < d.1)(h4:ds.Pairwise (fun a b=>a.1 < b.1)):bC (l++ds):=by
 refine⟨by rw[List.length_append]; exact hn,fun c hc=>?_,fun a ha b hb e=>?_⟩
 ·rcases List.mem_append.1 hc with q | q
  ·exact hl.2.1 c q
  ·exact hd c q
 ·rcases List.mem_append.1 ha with p | p <;> rcases List.mem_append.1 hb with q | q
  ·exact hl.2.2 a p b q e
  ·have:=h3 a p b q; omega
  ·have:=h3 b q a p; omega
  ·obtain⟨i,hi,rfl⟩:=eU p
   obtain⟨j,hj,rfl⟩:=eU q
   by_cases c:i=j
   ·rw[c]
   ·rcases Nat.lt_or_gt_of_ne c with c | c
    ·have:=List.pairwise_iff_getElem.1 h4 i j hi hj c
     rw[← cC hi,← cC hj]at this
     omega
    ·have:=List.pairwise_iff_getElem.1 h4 j i hj hi c
     rw[← cC hi,← cC hj]at this
     omega
def tu (h:List Int×Int)(l:List aq)(m:Int):Prop:=cL h∧bC l∧0≤m∧m≤9999
instance (h:List Int×Int) (l:List aq) (m:Int):Decidable (tu h l m):=by unfold tu; infer_instance
theorem x6 (h:List Int×Int)(l:List aq)(m:Int):P12 (h,l,m)=some (decide (tu h l m)):=by
 show q12 B8 vN h l m=_
 unfold q12
 rw[SO,bind_some']
 by_cases hf:30 < h.1.length∨60 < l.length
 ·rw[decide_eq_true hf,Bool.not_true,cond_false,decide_eq_false fun hv:tu h l m=>by have:=hv.1.1; have:=hv.2.1.1; omega]
 ·rw[decide_eq_false hf,Bool.not_false,cond_true,SG h l (by omega) (by omega),bind_some']
  by_cases hc:kQ h l=0
  ·obtain⟨c1,c2⟩:=lG.1 hc
   rw[decide_eq_true hc,cond_true]
   by_cases h0:0≤m
   ·rw[decide_eq_true h0,cond_true]
    congr 1
    rw[Bool.eq_iff_iff,decide_eq_true_eq,decide_eq_true_eq]
    exact⟨fun q=>⟨c1,c2,h0,q⟩,fun q=>q.2.2.2⟩
   ·rw[decide_eq_false h0,cond_false,decide_eq_false fun hv:tu h l m=>h0 hv.2.2.1]
  ·rw[decide_eq_false hc,cond_false,decide_eq_false fun hv:tu h l m=>hc (lG.2 ⟨hv.1,hv.2.1⟩)]
theorem GS (n:Int):P13 n=some (decide (0≤n∧n≤99)):=by
 show cond (decide (0≤n)) (some (decide (n≤99))) (some false)=_
 by_cases h:0≤n
 ·rw[decide_eq_true h,cond_true]
  congr 1
  rw[Bool.eq_iff_iff,decide_eq_true_eq,decide_eq_true_eq]
  omega
 ·rw[decide_eq_false h,cond_false,decide_eq_false (by omega)]
theorem th {h:List Int×Int}{l:List aq}{m n:Int}(hv:tu h l m)(hn:0≤n∧n≤99):P15 (h,l,m,n)=some (iJ ((aF h l m).2.1 n),0):=by
 obtain⟨c1,c2,c3⟩:=hv
 rw[GN m (by have:=c1.1; omega) (by have:=c2.1; omega)]
 unfold GM
 rw[if_pos (iD.2 ⟨⟨c1,c2⟩,c3,hn,by decide,by decide⟩)]
section
variable {K:fo→Prop} (k0:∀ o,K o→o.1≠0) (k1:∀ o,K o→o.1=2→K (gU o)) (k2:∀ o,K o→o.1=2→K (3,o.2)) (k3:∀ o,K o→held o→K (5,-1,-1,o.2.2.2.1,o.2.2.2.2))
include k1
theorem vA {x:HM}{n:Int}(hold minute:Int)(h:K (x.2.1 n)):K ((dR hold minute x).2.1 n):=by
 show K (lapG hold minute x.2.1 n)
 unfold lapG
 by_cases c:dh hold minute (x.2.1 n)=true
 ·rw[if_pos c]; exact k1 _ h (BT c)
 ·rw[if_neg c]; exact h
include k0 k2 k3
omit k1 in
theorem BZ {x:HM}{n:Int}(c:aq)(h:K (x.2.1 n)):K ((dD x c).2.1 n):=by
 have up:∀ (m:Int) (o:fo),(m=n→K o)→K (eY x.2.1 m o n):=fun m o ho=>by
  unfold eY
  by_cases e:n=m
  ·rw[if_pos e]; exact ho e.symm
  ·rw[if_neg e]; exact h
 unfold dD sV pr kN
 split
 ·split
  ·rename_i h0
   have hne:c.2.2.2.1≠n:=fun e=>k0 _ h (by rw[← e]; exact h0)
   cases bO x.1 c.2.2.2.2.toNat with
   | none=>exact up _ _ fun e=>absurd e hne
   | some q=>exact up _ _ fun e=>absurd e hne
  ·exact h
 ·split
  ·split
   ·rename_i h2
    exact up _ _ fun e=>by rw[e]at h2 ⊢; exact k2 _ h h2
   ·exact h
  ·split
   ·rename_i h2
    exact up _ _ fun e=>by rw[e]at h2 ⊢; exact k3 _ h h2
   ·exact h
theorem AA {n:Int}(hold minute:Int):∀ (l:List aq) {x:HM},K (x.2.1 n)→K ((gW hold minute l x).2.1 n)
 | [],x,h=>h
 | c::l,x,h=>by
  rw[gW]
  split
  ·exact h
  ·exact AA hold minute l (BZ k0 k2 k3 c (vA k1 hold c.2.1 h))
theorem x7 {h:List Int×Int}{l:List aq}(hl:bC l){minute later n:Int}(hm:minute≤later)(hk:K ((aF h l minute).2.1 n)):K ((aF h l later).2.1 n):=by
 obtain⟨b,_,e⟩:=vz (h:=h) hl hm
 rw[e]
 exact vA k1 _ _ (AA k0 k1 k2 k3 _ _ b hk)
end
theorem rz (hold minute t:Int){x:HM}(h:∀ n,(x.2.1 n).2.2.2.2≤t):∀ n,((dR hold minute x).2.1 n).2.2.2.2≤t:=fun n=>by
 show(lapG hold minute x.2.1 n).2.2.2.2≤t
 unfold lapG
 split
 ·exact h n
 ·exact h n
theorem vB (hold minute:Int):∀ (l:List aq) {x:HM},(∀ n,(x.2.1 n).2.2.2.2≤minute)→∀ n,((gW hold minute l x).2.1 n).2.2.2.2≤minute
 | [],x,h,n=>h n
 | c::l,x,h,n=>by
  rw[gW]
  split
  ·exact h n
  ·rename_i hc
   refine vB hold minute l (fun m=>?_) n
   have h':=rz hold c.2.1 minute h
   have up:∀ (k:Int) (o:fo),o.2.2.2.2≤minute→(eY (dR hold c.2.1 x).2.1 k o m).2.2.2.2≤minute:=fun k o ho=>by
    unfold eY
    split
    ·exact ho
    ·exact h' m
   unfold dD sV pr kN
   split
   ·split
    ·cases bO (dR hold c.2.1 x).1 c.2.2.2.2.toNat with
     | none=>exact up _ _ (by show c.2.1≤minute; omega)
     | some q=>exact up _ _ (by show c.2.1≤minute; omega)
    ·exact h' m
   ·split
    ·split
     ·exact up _ _ (h' _)
     ·exact h' m
    ·split
     ·exact up _ _ (h' _)
     ·exact h' m
theorem vC (h:List Int×Int)(l:List aq){minute:Int}(hm:0≤minute)(n:Int):((aF h l minute).2.1 n).2.2.2.2≤minute:=
 rz _ _ _ (vB _ _ _ fun _=>hm) n
theorem vD (h:List Int×Int)(l:List aq)(minute:Int):ND h.2 minute (aF h l minute):=GQ _ _ _
theorem GT {h:List Int×Int}{l:List aq}(hl:bC l)(minute n:Int):(aF h l minute).2.1 n=vO∨(1≤((aF h l minute).2.1 n).1∧((aF h l minute).2.1 n).1≤5∧(held ((aF h l minute).2.1 n)∨(((aF h l minute).2.1 n).2.1 = -1∧((aF h l minute).2.1 n).2.2.1 = -1))∧0≤((aF h l minute).2.1 n).2.2.2.2∧((aF h l minute).2.1 n).2.2.2.2≤9999):=
 (IM.after (h:=h) hl minute).st n
theorem Pure.SeatsHold' (h:List Int×Int)(l:List aq)(x:Int×Int×Int):P3 (h,l,x)=some true:=by
 show q3 P12 P14 P13 P15 h l x=_
 unfold q3
 rw[x6,bind_some',GS]
 simp only[td,bind_some']
 by_cases hv:tu h l x.1
 case neg=>rw[decide_eq_false hv]; rfl
 rw[decide_eq_true hv,Bool.not_true,cond_false]
 by_cases hn:0≤x.2.1∧x.2.1≤99
 case neg=>rw[decide_eq_false hn]; rfl
 rw[decide_eq_true hn,Bool.not_true,cond_false]
 by_cases hm:x.2.2 < x.1
 ·rw[decide_eq_true hm]; rfl
 rw[decide_eq_false hm,cond_false]
 by_cases hx:9999 < x.2.2
 ·rw[decide_eq_true hx]; rfl
 rw[decide_eq_false hx,cond_false]
 have hv2:tu h l x.2.2:=⟨hv.1,hv.2.1,by have:=hv.2.2.1; omega,by omega⟩
 rw[th hv hn,bind_some',th hv2 hn,bind_some']
 obtain⟨hH,hl,hm0,hm1⟩:=hv
 have hst:=GT (h:=h) hl x.1 x.2.1
 have hnd1:=vD h l x.1 x.2.1
 have hnd2:=vD h l x.2.2 x.2.1
 have hsi:=vC h l hm0 x.2.1
 have hle:x.1≤x.2.2:=by omega
 have kp:∀ (K:fo→Prop),(∀ o,K o→o.1≠0)→(∀ o,K o→o.1=2→K (gU o))→(∀ o,K o→o.1=2→K (3,o.2))→(∀ o,K o→held o→K (5,-1,-1,o.2.2.2.1,o.2.2.2.2))→K ((aF h l x.1).2.1 x.2.1)→K ((aF h l x.2.2).2.1 x.2.1):=
  fun K a b c d e=>x7 a b c d hl hle e
 generalize (aF h l x.1).2.1 x.2.1=p at hst hnd1 hsi kp
 generalize (aF h l x.2.2).2.1 x.2.1=q at hnd2 kp
 have ffit:ah .i64 (x.1+h.2)=true:=bY (by have:=hH.2.2; omega) (by have:=hH.2.2; omega)
 have hp1:(iJ p).1=p.1:=rfl
 have hq1:(iJ q).1=q.1:=rfl
 have hpz:(iJ p).2.2.2=p.2.2.2.1:=rfl
 have hqz:(iJ q).2.2.2=q.2.2.2.1:=rfl
 have eqp:(((decide ((iJ q).1=p.1)&&decide ((iJ q).2.1=(iJ p).2.1))&&decide ((iJ q).2.2.1=(iJ p).2.2.1))&&decide ((iJ q).2.2.2=(iJ p).2.2.2))=decide (iJ q=iJ p):=eq4 (iJ q) (iJ p)
 have eqc:∀ z:Int,(((decide ((iJ q).1=5)&&decide ((iJ q).2.1 = -1))&&decide ((iJ q).2.2.1 = -1))&&decide ((iJ q).2.2.2=z))=decide (iJ q=((5,-1,-1,z):vI)):=fun z=>eq4 (iJ q) (5,-1,-1,z)
 have eqc0:(((decide ((iJ p).1=0)&&decide ((iJ p).2.1 = -1))&&decide ((iJ p).2.2.1 = -1))&&decide ((iJ p).2.2.2=0))=decide (iJ p=((0,-1,-1,0):vI)):=eq4 (iJ p) (0,-1,-1,0)
 simp only[decide_true,Bool.not_true,cond_false]
 by_cases h2:p.1=2
 ·have hk:=kp (fun o=>(2≤o.1∧o.1≤5)∧o.2.2.2.1=p.2.2.2.1∧(o.1=2→o.2.2.2.2=p.2.2.2.2))
   (fun o ho=>by have:=ho.1; omega) (fun o ho _=>⟨by show(2:Int)≤4∧(4:Int)≤5; decide,ho.2.1,fun e=>by cases e⟩)
   (fun o ho _=>⟨by show(2:Int)≤3∧(3:Int)≤5; decide,ho.2.1,fun e=>by cases e⟩) (fun o ho _=>⟨by show(2:Int)≤5∧(5:Int)≤5; decide,ho.2.1,fun e=>by cases e⟩)
   ⟨by omega,rfl,fun _=>rfl⟩
  rw[hp1,decide_eq_true h2,cond_true,aE ffit,hq1,decide_eq_false (show ¬ q.1=0 by omega),decide_eq_false (show ¬ q.1=1 by omega),hpz,hqz,decide_eq_true hk.2.1]
  by_cases hlt:x.2.2 < x.1+h.2
  ·rw[decide_eq_true hlt]; rfl
  ·rw[decide_eq_false hlt,decide_eq_false (show ¬ q.1=2 from fun e=>by
    have e1:=hk.2.2 e
    unfold dh at hnd2
    rw[decide_eq_true e,Bool.true_and,decide_eq_false_iff_not]at hnd2
    omega)]
   rfl
 rw[hp1,decide_eq_false h2,cond_false]
 by_cases h3:p.1=3
 ·have hk:=kp (fun o=>o=p∨(o.1=5∧iJ o=(5,-1,-1,p.2.2.2.1)))
   (fun o ho e=>by
    rcases ho with rfl | ho
    ·omega
    ·omega)
   (fun o ho e=>by
    rcases ho with rfl | ho
    ·omega
    ·omega)
   (fun o ho e=>by
    rcases ho with rfl | ho
    ·omega
    ·omega)
   (fun o ho e=>by
    rcases ho with rfl | ho
    ·exact .inr ⟨rfl,rfl⟩
    ·rcases e with e | e
     ·omega
     ·omega)
   (.inl rfl)
  rw[decide_eq_true h3,cond_true,eqp,eqc,hpz]
  rcases hk with rfl | ⟨_,hk⟩
  ·rw[decide_eq_true rfl]; rfl
  ·rw[hk]
   by_cases c:((5,-1,-1,p.2.2.2.1):vI)=iJ p
   ·rw[decide_eq_true c]; rfl
   ·rw[decide_eq_false c,cond_false,decide_eq_true rfl]; rfl
 rw[decide_eq_false h3,cond_false]
 have other:p.1=1∨p.1=4∨p.1=5→q=p:=fun h145=>kp (fun o=>o=p) (fun o ho e=>by rw[ho]at e; omega) (fun o ho e=>by rw[ho]at e; omega) (fun o ho e=>by rw[ho]at e; omega) (fun o ho e=>by rw[ho]at e; rcases e with e | e <;> omega) rfl
 by_cases h1:p.1=1
 ·have hqp:=other (.inl h1)
  rw[decide_eq_true h1,cond_true,cond_true,eqp,hqp,decide_eq_true rfl]; rfl
 rw[decide_eq_false h1,cond_false]
 by_cases h4:p.1=4
 ·have hqp:=other (.inr (.inl h4))
  rw[decide_eq_true h4,cond_true,cond_true,eqp,hqp,decide_eq_true rfl]; rfl
 rw[decide_eq_false h4,cond_false]
 by_cases h5:p.1=5
 ·have hqp:=other (.inr (.inr h5))
  rw[decide_eq_true h5,cond_true,eqp,hqp,decide_eq_true rfl]; rfl
 rw[decide_eq_false h5,cond_false]
 have hu:p=vO:=by
  rcases hst with e | ⟨e1,e2,_⟩
  ·exact e
  ·omega
 rw[← hp1,eqc0,hu,decide_eq_true (show iJ vO=((0,-1,-1,0):vI)from rfl)]
 rfl
theorem Pure.SeatsHold (h:List Int×Int)(_:Wf TyH h)(l:List aq)(_:Wf TyC l)(x:Int×Int×Int)(_:Wf TyX x):P3 (h,l,x)=some true:=Pure.SeatsHold' h l x
theorem rA {α:Type}[DecidableEq α]:∀ {l m:List α},l.Nodup→(∀ x∈l,x∈m)→l.length≤m.length
 | [],m,_,_=>Nat.zero_le _
 | a::l,m,hn,h=>by
  rw[List.nodup_cons]at hn
  have ha:=h a (by simp)
  have ih:=rA (m:=m.erase a) hn.2 fun x hx=>(List.mem_erase_of_ne fun e=>hn.1 (by rw[← e]; exact hx)).2 (h x (by simp[hx]))
  have:=List.length_erase_of_mem ha
  have hp:0 < m.length:=List.length_pos_of_mem ha
  simp only[List.length_cons]
  omega
theorem AB {v:List Int}(hv:∀ x∈v,0≤x∧x≤99):(GL v).length≤v.length:=by
 refine rA ((asc_vnO v).imp fun h e=>?_) fun x hx=>(tc hv).1 hx
 simp only at h
 omega
theorem oa {h:List Int×Int}{l:List aq}{m:Int}(hv:tu h l m):P16 (h,l,m)=some (0,GL (aF h l m).2.2):=by
 obtain⟨c1,c2,c3⟩:=hv
 rw[GO m (by have:=c1.1; omega) (by have:=c2.1; omega)]
 unfold vq
 rw[if_pos (iD.2 ⟨⟨c1,c2⟩,c3,by decide,by decide⟩)]
theorem x8 {h:List Int×Int}{l:List aq}{m:Int}(hv:tu h l m):jQ (h,l,m)=some (0,(aF h l m).1):=by
 obtain⟨c1,c2,c3⟩:=hv
 rw[SL m (by have:=c1.1; omega) (by have:=c2.1; omega)]
 unfold SK
 rw[if_pos (iD.2 ⟨⟨c1,c2⟩,c3,by decide,by decide⟩)]
theorem J4 {l:List aq}{h:List Int×Int}{x:Int×Int×Int}(hl:bC l):
  (∃ y,L4_0 (l,-1,0,h,x)=some (.inl y)∧y.1=true)∨∃ id,L4_0 (l,-1,0,h,x)=some (.inr (l,id,h,x)) ∧ -1≤id∧id≤99∧(∀ c∈l,c.2.1≤x.1)∧∀ c∈l,c.1≤id:=by
 have hlen:=hl.1
 have key:=eI (step:=fun x=>XO x.1 x.2.1 x.2.2.1 x.2.2.2.1 x.2.2.2.2)
  (fun s=>l.length-s.2.2.1.toNat)
  (fun s=>∃ (i:Nat) (id:Int),i≤l.length∧s=(l,id,(i:Int),h,x) ∧ -1≤id∧id≤99∧∀ k,k < i→(gt l k).2.1≤x.1∧(gt l k).1≤id)
  (fun y=>(∃ z,y=Sum.inl z∧z.1=true)∨∃ id,y=Sum.inr (l,id,h,x) ∧ -1≤id∧id≤99∧(∀ c∈l,c.2.1≤x.1)∧∀ c∈l,c.1≤id)
  (x:=(l,-1,((0:Nat):Int),h,x)) ⟨0,-1,Nat.zero_le _,rfl,by decide,by decide,fun k hk=>by omega⟩ (by show l.length-_ < _; omega) (by
   rintro s ⟨i,id,hi,rfl,h1,h2,h3⟩
   show(∃ s',q4_0 P12 P14 P13 P15 P16 l id (i:Int) h x=_∧_)∨∃ z,q4_0 P12 P14 P13 P15 P16 l id (i:Int) h x=_∧_
   unfold q4_0
   by_cases him:i < l.length
   ·rw[show decide ((i:Int) < (↑(List.length l):Int))=true from bg him,cond_true,aE (aN him),cz,td]
    by_cases c:x.1 < (gt l i).2.1
    ·right
     rw[decide_eq_true c]
     exact⟨_,rfl,.inl ⟨_,rfl,rfl⟩⟩
    ·left
     rw[decide_eq_false c,cond_false,aE (aN him),aE (aX (by omega))]
     have hid:=(hl.2.1 _ (cU him)).1
     refine⟨_,rfl,⟨i+1,_,by omega,rfl,by omega,by omega,fun k hk=>?_⟩,by show l.length-((i:Int)+1).toNat < l.length-((i:Nat):Int).toNat; omega⟩
     by_cases e:k=i
     ·subst e; exact⟨by omega,by omega⟩
     ·have:=h3 k (by omega); exact⟨this.1,by omega⟩
   ·obtain rfl:i=l.length:=by omega
    right
    rw[show decide ((l.length:Int) < (↑(List.length l):Int))=false from bF _,cond_false]
    refine⟨_,rfl,.inr ⟨id,rfl,h1,h2,fun c hc=>?_,fun c hc=>?_⟩⟩
    ·obtain⟨k,hk,rfl⟩:=eU hc; exact(h3 k hk).1
    ·obtain⟨k,hk,rfl⟩:=eU hc; exact(h3 k hk).2)
 obtain⟨y,e,⟨z,rfl,e1⟩ | ⟨id,rfl,e1⟩⟩:=key
 ·exact .inl ⟨z,e,e1⟩
 ·exact .inr ⟨id,e,e1⟩
theorem p9 {l:List Int}{k:Nat}(h:k < l.length)(n:Int):decide (n∈l.take (k+1))=(decide (n∈l.take k)||decide (gt l k=n)):=by
 rw[fP l h,Bool.eq_iff_iff,Bool.or_eq_true,decide_eq_true_eq,decide_eq_true_eq,decide_eq_true_eq,List.mem_append,List.mem_singleton]
 exact or_congr Iff.rfl eq_comm
theorem J5 {v:List Int}{x:Int×Int×Int}{p q:vI}(hl:v.length≤1000)(hs:v.Pairwise (fun a b=>a < b)):Jt (false,0,x,p,q,v)=some (.inr (decide (x.2.1∈v),x,p,q,v)):=by
 have key:=bT (step:=fun x=>XQ x.1 x.2.1 x.2.2.1 x.2.2.2.1 x.2.2.2.2.1 x.2.2.2.2.2) v.length (fun k=>(decide (x.2.1∈v.take k),(k:Int),x,p,q,v)) (Sum.inr (decide (x.2.1∈v),x,p,q,v))
  (fun k hk=>by
   show BG P12 P14 P13 P15 P16 (decide (x.2.1∈v.take k)) (k:Int) x p q v=_
   unfold BG
   have f1:ah .i64 ((k:Int)+1)=true:=aX (by omega)
   rw[show decide ((k:Int) < (↑(List.length v):Int))=true from bg hk,cond_true,p9 hk]
   cases k with
   | zero=>
    have e2:decide ((0:Int) < ((0:Nat):Int))=false:=rfl
    simp only[e2,f1,au,aN hk,cz,cond_true,cond_false]
    cases decide (x.2.1∈v.take 0) <;> rfl
   | succ j=>
    have hlt:¬ gt v (j+1)≤gt v j:=by
     have:=List.pairwise_iff_getElem.1 hs j (j+1) (by omega) hk (by omega)
     rw[← cC (show j < v.length by omega),← cC hk]at this
     omega
    have e1:((j+1:Nat):Int)-1=(j:Int):=by omega
    have e2:decide ((0:Int) < ((j+1:Nat):Int))=true:=decide_eq_true (by omega)
    have f2:ah .i64 (j:Int)=true:=bY (by omega) (by omega)
    simp only[e2,e1,f2,f1,au,aN hk,aN (show j < v.length by omega),cz,decide_eq_false hlt,cond_true,cond_false]
    cases decide (x.2.1∈v.take (j+1)) <;> rfl)
  (by
   show BG P12 P14 P13 P15 P16 (decide (x.2.1∈v.take v.length)) (v.length:Int) x p q v=_
   unfold BG
   rw[show decide ((v.length:Int) < (↑(List.length v):Int))=false from bF _,cond_false,List.take_length])
  (by omega)
 have e0:decide (x.2.1∈v.take 0)=false:=by simp
 rw[e0]at key
 exact key
theorem more1 {h:List Int×Int}{l:List aq}{m id:Int}(hv:tu h l m)(hl40:l.length < 40)(h1:-1≤id)(h2:id < 99)(h3:∀ c∈l,c.2.1≤m)(h4:∀ c∈l,c.1≤id){d:aq}(hd:aY d)(d1:d.1=id+1)(d2:d.2.1=m):
  tu h (l++[d]) m∧aF h (l++[d]) m=dD (aF h l m) d:=by
 have hok:bC (l++[d]):=tg hv.2.1 (by simp; omega) (by simpa using hd) (fun c hc e he=>by rw[List.mem_singleton.1 he]; have:=h4 c hc; omega) (by simp)
 refine⟨⟨hv.1,hok,hv.2.2⟩,?_⟩
 rw[BY hv.1 hv.2.1 hok h3 (by simpa using d2) (fun c hc e he=>by rw[List.mem_singleton.1 he]; have:=h4 c hc; omega) (by simp)]
 rfl
theorem Pure.SeatsVain' (h:List Int×Int)(l:List aq)(x:Int×Int×Int):P4 (h,l,x)=some true:=by
 show q4 P12 P14 P13 P15 P16 L4_0 Jt h l x=_
 unfold q4
 rw[x6,bind_some',GS]
 simp only[td,bind_some']
 by_cases hv:tu h l x.1
 case neg=>rw[decide_eq_false hv]; rfl
 rw[decide_eq_true hv,Bool.not_true,cond_false]
 by_cases hn:0≤x.2.1∧x.2.1≤99
 case neg=>rw[decide_eq_false hn]; rfl
 rw[decide_eq_true hn,Bool.not_true,cond_false]
 by_cases hl40:40≤l.length
 ·rw[show decide (40≤(↑(List.length l):Int))=true from decide_eq_true (by omega)]; rfl
 rw[show decide (40≤(↑(List.length l):Int))=false from decide_eq_false (by omega),cond_false]
 rcases J4 (h:=h) (x:=x) hv.2.1 with⟨y,e1,e2⟩ | ⟨id,e1,h1,h2,h3,h4⟩
 ·rw[e1,bind_some',elim_inl,e2]
 rw[e1,bind_some',elim_inr]
 simp only
 by_cases hid:99≤id
 ·rw[decide_eq_true hid]; rfl
 rw[decide_eq_false hid,cond_false,aE (bY (by omega) (by omega)),aE (dC (by omega)),aE (dC (by simp; omega)),th hv hn,bind_some']
 have hd:aY (id+1,x.1,2,x.2.1,0):=⟨⟨by show 0≤id+1; omega,by show id+1≤99; omega⟩,hv.2.2,.inr ⟨.inl rfl,rfl⟩,hn⟩
 obtain⟨hv2,ha⟩:=more1 hv (by omega) h1 (by omega) h3 h4 hd rfl rfl
 obtain⟨v1,v2⟩:=kR (h:=h) x.1 hv2.2.1
 have v3:=AB v2
 rw[th hv2 hn,bind_some',oa hv2,bind_some']
 simp only[decide_true,Bool.not_true,cond_false]
 rw[show decide (40 < (↑(List.length (GL (aF h (l++[(id+1,x.1,2,x.2.1,0)]) x.1).2.2)):Int))=false from decide_eq_false (by omega),cond_false,J5 (by omega) (asc_vnO _),bind_some',elim_inr]
 have hm:decide (x.2.1∈GL (aF h (l++[(id+1,x.1,2,x.2.1,0)]) x.1).2.2)=decide (x.2.1∈(aF h (l++[(id+1,x.1,2,x.2.1,0)]) x.1).2.2):=by
  rw[Bool.eq_iff_iff,decide_eq_true_eq,decide_eq_true_eq]
  exact tc v2
 simp only
 rw[hm,ha]
 have hr:dD (aF h l x.1) (id+1,x.1,2,x.2.1,0)=pr (aF h l x.1) x.2.1:=rfl
 rw[hr]
 unfold pr
 by_cases c:((aF h l x.1).2.1 x.2.1).1=2
 ·rw[if_pos c]
  have e:eY (aF h l x.1).2.1 x.2.1 (3,((aF h l x.1).2.1 x.2.1).2) x.2.1=(3,((aF h l x.1).2.1 x.2.1).2):=if_pos rfl
  simp only[e]
  rw[show(iJ ((aF h l x.1).2.1 x.2.1)).1=((aF h l x.1).2.1 x.2.1).1 from rfl,decide_eq_true c,cond_true]
  simp[iJ]
 ·rw[if_neg c]
  simp only
  rw[show(iJ ((aF h l x.1).2.1 x.2.1)).1=((aF h l x.1).2.1 x.2.1).1 from rfl,decide_eq_false c,cond_false]
  simp[iJ]
theorem Pure.SeatsVain (h:List Int×Int)(_:Wf TyH h)(l:List aq)(_:Wf TyC l)(x:Int×Int×Int)(_:Wf TyX x):P4 (h,l,x)=some true:=Pure.SeatsVain' h l x
end Go.Proofs.Ytdkaijofmigmbaa.D
