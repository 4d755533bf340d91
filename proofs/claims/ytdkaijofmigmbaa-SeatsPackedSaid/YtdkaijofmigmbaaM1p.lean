/- Cut down from longer texts. -/
import Derived.Test.YtdkaijofmigmbaaB3p
import Derived.Test.YtdkaijofmigmbaaG5p
set_option linter.unusedVariables false
set_option linter.unusedSimpArgs false
set_option linter.unusedSectionVars false
set_option maxRecDepth 100000
namespace Go.Proofs.Ytdkaijofmigmbaa.D
open Go Go.Proofs.Ytdkaijofmigmbaa.L
theorem fP {l:List Int}:∀ {i:Nat} (h:i < l.length),(l[i]::l.eraseIdx i).Perm l:=by
 induction l with
 | nil=>intro i h; simp at h
 | cons a l ih=>
  intro i h;cases i with
  | zero=>exact .refl _
  | succ i=>
   have:=ih (i:=i) (by simpa using h);exact(List.Perm.swap _ _ _).trans (List.Perm.cons _ this)
theorem gO {l:List Int}(x:Int):∀ {i:Nat} (h:i < l.length),(l.set i x).Perm (x::l.eraseIdx i):=by
 induction l with
 | nil=>intro i h; simp at h
 | cons a l ih=>
  intro i h;cases i with
  | zero=>exact .refl _
  | succ i=>
   have:=ih (i:=i) (by simpa using h);exact(List.Perm.cons _ this).trans (List.Perm.swap _ _ _)
def take1 (l:List Int)(g:Int)(r:Nat):List Int:=l.set r (gt l r-g)
def pX:List Int→List (Int×Nat)→Option (List Int)
 | l,[]=>some l
 | l,(g,r)::A=>if r < l.length∧g≤gt l r then pX (take1 l g r) A else none
def kJ:List Int→List Int→Prop
 | _,[]=>True
 | l,g::gs=>∃ r,r < l.length∧g≤gt l r∧kJ (take1 l g r) gs
theorem bB (l:List Int)(g:Int)(r:Nat):(take1 l g r).length=l.length:=by simp[take1]
theorem bY {l:List Int}{g:Int}{r:Nat}(h:r < l.length)(k:Nat):gt (take1 l g r) k=if r=k then gt l r-g else gt l k:=jU _ _ _ _ h
theorem mi (l:List Int)(g g':Int)(r r':Nat)(h:r < l.length)(h':r' < l.length):take1 (take1 l g r) g' r'=take1 (take1 l g' r') g r:=by
 refine qL (by simp[take1]) fun k hk=>?_;have e1:gt (take1 (take1 l g r) g' r') k=if r'=k then gt (take1 l g r) r'-g' else gt (take1 l g r) k:=bY (by rwa [bB]) k;have e2:gt (take1 (take1 l g' r') g r) k=if r=k then gt (take1 l g' r') r-g else gt (take1 l g' r') k:=bY (by rwa [bB]) k;rw[e1,e2,bY h,bY h,bY h',bY h'];by_cases e1:r'=k <;> by_cases e2:r=k
 ·subst e1; subst e2; simp; omega
 ·subst e1; simp[e2]
 ·subst e2; simp[e1]
 ·simp[e1,e2]
theorem xe {l:List Int}{a b:Int×Nat}{A:List (Int×Nat)}(ha:0≤a.1)(hb:0≤b.1){X:List Int}(h:pX l (a::b::A)=some X):pX l (b::a::A)=some X:=by
 obtain⟨g,r⟩:=a;obtain⟨g',r'⟩:=b;simp only[pX]at h ⊢;split at h
 ·rename_i h1;split at h
  ·rename_i h2;rw[bB,bY h1.1]at h2;have c1:r' < l.length∧g'≤gt l r':=⟨h2.1,by have:=h2.2; split at this <;> (try subst_vars) <;> simp_all <;> omega⟩
   rw[if_pos c1];have c2:r < (take1 l g' r').length∧g≤gt (take1 l g' r') r:=by
    rw[bB,bY c1.1];refine⟨h1.1,?_⟩;have:=h2.2;by_cases e:r=r'
    ·subst e; simp at this ⊢; omega
    ·rw[if_neg (Ne.symm e)]; exact h1.2
   rw[if_pos c2,mi l g' g r' r c1.1 h1.1]; exact h
  ·cases h
 ·cases h
theorem xf {A B:List (Int×Nat)}(p:A.Perm B)(hA:∀ x∈A,0≤x.1):∀ {l X:List Int},pX l A=some X→pX l B=some X:=by
 induction p with
 | nil=>intro l X h; exact h
 | cons x _ ih=>
  intro l X h;obtain⟨g,r⟩:=x;simp only[pX]at h ⊢;split at h
  ·rename_i c; rw[if_pos c]; exact ih (fun x hx=>hA x (by simp[hx])) h
  ·cases h
 | swap x y _=>intro l X h; exact xe (hA _ (by simp)) (hA _ (by simp)) h
 | trans p1 _ ih1 ih2=>intro l X h; exact ih2 (fun x hx=>hA x (p1.mem_iff.2 hx)) (ih1 hA h)
theorem xg {l gs:List Int}:kJ l gs↔∃ rs:List Nat,rs.length=gs.length∧∃ X,pX l (gs.zip rs)=some X:=by
 induction gs generalizing l with
 | nil=>exact⟨fun _=>⟨[],rfl,l,rfl⟩,fun _=>trivial⟩
 | cons g gs ih=>
  constructor
  ·rintro⟨r,h1,h2,h3⟩;obtain⟨rs,e,X,hX⟩:=ih.1 h3;exact⟨r::rs,by simp[e],X,by simp only[List.zip_cons_cons,pX]; rw[if_pos ⟨h1,h2⟩]; exact hX⟩
  ·rintro⟨rs,e,X,hX⟩;cases rs with
   | nil=>simp at e
   | cons r rs=>
    simp only[List.zip_cons_cons,pX]at hX;split at hX
    ·rename_i c;exact⟨r,c.1,c.2,ih.2 ⟨rs,by simpa using e,X,hX⟩⟩
    ·cases hX
theorem uf {gs hs:List Int}(p:gs.Perm hs)(hg:∀ g∈gs,0≤g):∀ {l:List Int},kJ l gs→kJ l hs:=by
 induction p with
 | nil=>intro l h; exact h
 | cons x _ ih=>
  rintro l ⟨r,h1,h2,h3⟩;exact⟨r,h1,h2,ih (fun g hg'=>hg g (by simp[hg'])) h3⟩
 | swap x y _=>
  rintro l ⟨r,h1,h2,r',h3,h4,h5⟩;have hx:=hg x (by simp);have hy:=hg y (by simp);rw[bB]at h3;rw[bY h1]at h4;refine⟨r',h3,?_,r,by rwa [bB],?_,by rw[mi l x y r' r h3 h1]; exact h5⟩
  ·by_cases e:r=r'
   ·subst e; simp at h4; omega
   ·rw[if_neg e]at h4; exact h4
  ·rw[bY h3];by_cases e:r'=r
   ·subst e; simp at h4 ⊢; omega
   ·rw[if_neg e]; exact h2
 | trans p1 _ ih1 ih2=>intro l h; exact ih2 (fun x hx=>hg x (p1.mem_iff.2 hx)) (ih1 hg h)
theorem nA:∀ {gs l l':List Int},l.Perm l'→kJ l gs→kJ l' gs
 | [],_,_,_,_=>trivial
 | g::gs,l,l',p,⟨r,h1,h2,h3⟩=>by
  have hm:gt l r∈l':=p.mem_iff.1 (oi h1);obtain⟨r',h4,e⟩:=oj hm;refine⟨r',h4,by rw[e]; exact h2,nA ?_ h3⟩;have e1:(l.eraseIdx r).Perm (l'.eraseIdx r'):=by
   have a1:=fP h1;have a2:=fP h4;rw[← eG h1]at a1;rw[← eG h4,e]at a2;exact List.Perm.cons_inv (a1.trans (p.trans a2.symm))
  have b1:(take1 l g r).Perm ((gt l r-g)::l.eraseIdx r):=gO _ h1;have b2:(take1 l' g r').Perm ((gt l' r'-g)::l'.eraseIdx r'):=gO _ h4;rw[e]at b2;exact b1.trans ((List.Perm.cons _ e1).trans b2.symm)
theorem qS {l gs:List Int}{g:Int}{r r':Nat}(h:r < l.length)(h':r' < l.length)(e:gt l r=gt l r')(hc:kJ (take1 l g r) gs):kJ (take1 l g r') gs:=by
 refine nA ?_ hc;have e1:(l.eraseIdx r).Perm (l.eraseIdx r'):=by
  have a1:=fP h;have a2:=fP h';rw[← eG h]at a1;rw[← eG h',← e]at a2;exact List.Perm.cons_inv (a1.trans a2.symm)
 have b1:(take1 l g r).Perm ((gt l r-g)::l.eraseIdx r):=gO _ h;have b2:(take1 l g r').Perm ((gt l r'-g)::l.eraseIdx r'):=gO _ h';rw[← e]at b2;exact b1.trans ((List.Perm.cons _ e1).trans b2.symm)
theorem Ab {σ ρ:Type}{step:σ→Option (σ⊕ρ)}{x:σ}{r:ρ}(n:Nat)(h:step x=some (.inr r)):ul step (n+1) x=some r:=by simp only[ul,h]
theorem ug {σ ρ:Type}{step:σ→Option (σ⊕ρ)}{x:σ}{r:ρ}(h:step x=some (.inr r)):ah step x=some r:=Ab 18446744073709551615 h
def pP (s:List Int):Prop:=∀ k,k < s.length→1≤gt s k∧gt s k≤12
def sR (s d:List Int):Prop:=∀ x∈d,∃ k:Nat,k < s.length∧x=(k:Int)
theorem Fh {s:List Int}(hs:pP s){x y:Nat}(hx:x < s.length)(hy:y < s.length):P62 ((x:Int),(y:Int),s)=some (gt s y-gt s x):=by
 have h1:=hs x hx;have h2:=hs y hy;show JI _ _ s=_;unfold JI;rw[aA (aK hy),aA (aK hx),eh,eh,aA (eF (by omega) (by omega))]
theorem Ns {s d:List Int}(hs:pP s)(hd:sR s d){a b i j:Nat}(hj:j < d.length)(hl:d.length≤100):
  ∃ d',pH ((a:Int),(b:Int),(i:Int),(j:Int),d,s)=some ((a:Int),(b:Int),(i:Int),d',s)∧d'.Perm d:=by
 have key:=fN (step:=fun x=>Cg x.1 x.2.1 x.2.2.1 x.2.2.2.1 x.2.2.2.2.1 x.2.2.2.2.2) (fun x=>x.2.2.2.1.toNat)
  (fun x=>∃ (j:Nat) (e:List Int),x=((a:Int),(b:Int),(i:Int),(j:Int),e,s)∧j < e.length∧e.Perm d)
  (fun r=>∃ e,r=((a:Int),(b:Int),(i:Int),e,s)∧e.Perm d) (x:=((a:Int),(b:Int),(i:Int),(j:Int),d,s)) ⟨j,d,rfl,hj,.refl _⟩
  (by show((j:Nat):Int).toNat < _; omega) (by
   rintro x ⟨j,e,rfl,hj,he⟩;have hn:e.length=d.length:=he.length_eq;show(∃ s',q98_1 P62 (a:Int) (b:Int) (i:Int) (j:Int) e s=_∧_)∨∃ z,q98_1 P62 (a:Int) (b:Int) (i:Int) (j:Int) e s=_∧_;unfold q98_1;by_cases c:a < j
   ·have hj1:j-1 < e.length:=by omega
    obtain⟨u,hu,eu⟩:=hd (gt e j) (he.mem_iff.1 (oi hj));obtain⟨v,hv,ev⟩:=hd (gt e (j-1)) (he.mem_iff.1 (oi hj1));have e62:P62 (gt e j,gt e (j-1),s)=some (gt s v-gt s u):=by rw[eu,ev]; exact Fh hs hu hv
    have ej:(j:Int)-1=((j-1:Nat):Int):=by omega
    have f1:an .i64 ((j-1:Nat):Int)=true:=eF (by omega) (by omega);rw[cx c,cond_true,aA (aK hj),ej,f1,fT,aA (aK hj1),eh,eh,e62,ay];cases decide (gt s v-gt s u < 0)with
    | false=>right; exact⟨_,rfl,e,rfl,he⟩
    | true=>
     left;rw[cond_true,fT,fT,aA (aK hj1),aA (aK hj),aA (aK hj),aA (aK (by simpa using hj1)),fT];refine⟨_,rfl,⟨j-1,sw e j (j-1),by simp only[Int.toNat_natCast]; rfl,by rw[DY]; exact hj1,(rU hj hj1).trans he⟩,?_⟩;show((j-1:Nat):Int).toNat < ((j:Nat):Int).toNat;omega
   ·right;rw[show decide ((a:Int) < (j:Int))=false from decide_eq_false (by omega),cond_false];exact⟨_,rfl,e,rfl,he⟩)
 obtain⟨r,h1,e,rfl,h2⟩:=key;exact⟨e,h1,h2⟩
theorem Nt {s d:List Int}(hs:pP s)(hd:sR s d)(hl:d.length≤100):∃ d',qP (0,(d.length:Int),d,s)=some (d',s)∧d'.Perm d:=by
 have key:=fN (step:=fun x=>Ci x.1 x.2.1 x.2.2.1 x.2.2.2.1 x.2.2.2.2) (fun x=>d.length+1-x.2.2.1.toNat)
  (fun x=>∃ (i:Nat) (e:List Int),x=(((0:Nat):Int),(d.length:Int),(i:Int),e,s)∧e.Perm d)
  (fun r=>∃ e,r=(e,s)∧e.Perm d) (x:=(((0:Nat):Int),(d.length:Int),((1:Nat):Int),d,s)) ⟨1,d,rfl,.refl _⟩
  (by show d.length+1-((1:Nat):Int).toNat < _; omega) (by
   rintro x ⟨i,e,rfl,he⟩;have hn:e.length=d.length:=he.length_eq;show(∃ s',pI P62 pH ((0:Nat):Int) (d.length:Int) (i:Int) e s=_∧_)∨∃ z,pI P62 pH ((0:Nat):Int) (d.length:Int) (i:Int) e s=_∧_;unfold pI;by_cases c:i < d.length
   ·left;obtain⟨e',h1,h2⟩:=Ns hs (fun x hx=>hd x (he.mem_iff.1 hx)) (a:=0) (b:=d.length) (i:=i) (j:=i) (d:=e) (by omega) (by omega);rw[cx c,cond_true,h1,ay];show ∃ s',au (an .i64 ((i:Int)+1)) _=_∧_;rw[aA (cw (by omega))];refine⟨_,rfl,⟨i+1,e',rfl,h2.trans he⟩,?_⟩;show d.length+1-((i:Int)+1).toNat < d.length+1-((i:Nat):Int).toNat;omega
   ·right;rw[show decide ((i:Int) < (d.length:Int))=false from decide_eq_false (by omega),cond_false];exact⟨_,rfl,e,rfl,he⟩)
 obtain⟨r,h1,e,rfl,h2⟩:=key;refine⟨e,?_,h2⟩;show JJ P62 sA 0 (d.length:Int) d s=_;unfold JJ;rw[aA (eF (by omega) (by omega)),show((0:Int)+1)=((1:Nat):Int)from rfl,show sA (0,(d.length:Int),((1:Nat):Int),d,s)=_ from h1];rfl
theorem Nu:∀ n:Nat,n≤7→∃ r:Int,P67 (n:Int)=some r
 | 0,_=>⟨0,by kernel_rfl⟩
 | 1,_=>⟨1,by kernel_rfl⟩
 | 2,_=>⟨2,by kernel_rfl⟩
 | 3,_=>⟨2,by kernel_rfl⟩
 | 4,_=>⟨3,by kernel_rfl⟩
 | 5,_=>⟨3,by kernel_rfl⟩
 | 6,_=>⟨3,by kernel_rfl⟩
 | 7,_=>⟨3,by kernel_rfl⟩
 | n+8,h=>by omega
theorem Fi {s d:List Int}(hs:pP s)(hd:sR s d)(hl:d.length≤7):∃ d',P61 (d,s)=some (d',s)∧d'.Perm d:=by
 obtain⟨d',h1,h2⟩:=Nt hs hd (by omega);obtain⟨r,hr⟩:=Nu d.length hl;have e75:Cp (0,(d.length:Int),r,d,s)=some (d',s):=by
  have eL:sC (0,(d.length:Int),r,true,true,d,s)=some (d',s):=by
   refine ug ?_;have g:decide ((d.length:Int)-0≤12)=true:=by simp; omega
   have f:an .i64 ((d.length:Int)-0)=true:=eF (by omega) (by omega);show sB qP wU 0 (d.length:Int) r true true d s=_;unfold sB;rw[f,fT,g,cond_true,h1];rfl
  show JK qP sC 0 (d.length:Int) r d s=_;unfold JK;rw[eL]; rfl
 refine⟨d',?_,h2⟩;show JL P67 Cp d s=_;unfold JL;rw[aA (Gv (by omega) (by omega)),hr,ay,e75];rfl
theorem Fj (l:List Int)(x:Int)(hl:l.length≤1000):P76 (l,x)=some (decide (x∈l)):=by
 have key:∃ z,P106 (l,x)=some z∧decide (0≤z)=decide (x∈l):=by
  rcases iG (step:=fun x=>wX x.1 x.2.1 x.2.2.1 x.2.2.2) l.length (fun k=>(l,x,(l.length:Int),(k:Int))) (fun k=>decide (x=gt l k)) (fun k=>Sum.inl (k:Int)) (Sum.inr ())
   (fun k hk _=>by
    show jY l x (l.length:Int) (k:Int)=_;unfold jY;rw[cx hk,cond_true,aA (aK hk),eh];cases decide (x=gt l k)with
    | true=>rfl
    | false=>rw[cond_false,aA (cw (by omega))]; rfl)
   (fun _=>by
    show jY l x (l.length:Int) (l.length:Int)=_;unfold jY;rw[ef,cond_false]) (by omega)with⟨k,h1,h2,h3,h4⟩ | ⟨h3,h4⟩
  ·refine⟨(k:Int),?_,?_⟩
   ·show t5 jZ l x=_;unfold t5;rw[show jZ (l,x,(↑(List.length l):Int),0)=_ from h4];rfl
   ·rw[decide_eq_true (by omega)]
    symm
    rw[decide_eq_true_eq,of_decide_eq_true h2];exact oi h1
  ·refine⟨-1,?_,?_⟩
   ·show t5 jZ l x=_;unfold t5;rw[show jZ (l,x,(↑(List.length l):Int),0)=_ from h4];rfl
   ·symm
    rw[show decide ((0:Int) ≤ -1)=false from rfl,decide_eq_false_iff_not];intro hm;obtain⟨k,hk,e⟩:=oj hm;have:=of_decide_eq_false (h3 k hk);exact this e.symm
 obtain⟨z,e1,e2⟩:=key;show JN P106 l x=_;unfold JN;rw[e1,ay,e2]
theorem Fk (l:List Int)(hl:l.length≤1000):sD l=some l:=by
 show JM l=_;unfold JM;rw[aA (jg (by simp; omega)),List.nil_append];exact qM l _ rfl
theorem oy (x a b:Int):P60 (x,a,b)=some (wi x a b):=rT x a b
theorem oz (x a b:Int):P57 (x,a,b)=some (wi x a b):=rT x a b
theorem Fl (n:Int):P69 n=some (!wi n 1 12):=by
 show Ju P60 n=_;unfold Ju;rw[oy];rfl
theorem Fm (n:Int):P59 n=some (!wi n 1 12):=by
 show JH P60 n=_;unfold JH;rw[oy];rfl
def CG (h:List Int×Int):Bool:=dN h.1.length (fun k=>wi (gt h.1 k) 1 12)&&wi (h.1.length:Int) 1 6&&wi h.2 1 600
theorem Fo (h:List Int×Int)(hl:h.1.length≤9223372036854775807):AP h=some (CG h):=by
 show Jt P57 rW h=_;unfold Jt;have e:rW (0,h)=some (cond (dN h.1.length (fun k=>wi (gt h.1 k) 1 12)) (Sum.inr h) (Sum.inl (false,h))):=by
  refine nk (step:=fun x=>AO x.1 x.2) h.1.length (fun k=>((k:Int),h)) (fun k=>wi (gt h.1 k) 1 12) _ _ (fun k hk=>?_) ?_ (by omega)
  ·show np P57 (k:Int) h=_;unfold np;rw[show decide ((k:Int) < (↑(List.length h.1):Int))=true from cx hk,cond_true,aA (aK hk),eh,oz,ay];cases wi (gt h.1 k) 1 12 with
   | false=>rfl
   | true=>rw[Bool.not_true,cond_false,aA (cw (by omega))]; rfl
  ·show np P57 (h.1.length:Int) h=_;unfold np;rw[show decide ((h.1.length:Int) < (↑(List.length h.1):Int))=false from ef _,cond_false]
 rw[e];unfold CG;cases dN h.1.length (fun k=>wi (gt h.1 k) 1 12)with
 | false=>rfl
 | true=>
  show(P57 ((h.1.length:Int),1,6)).bind _=_;simp only[oz,ay];cases wi (h.1.length:Int) 1 6 <;> cases wi h.2 1 600 <;> rfl
theorem Fp (h:List Int×Int)(hl:h.1.length≤9223372036854775807):nt h=some (CG h):=by
 have e74:∃ z,P74 h.1=some z∧decide (0≤z)=!dN h.1.length (fun k=>wi (gt h.1 k) 1 12):=by
  rcases iG (step:=fun x=>AS x.1 x.2.1 x.2.2) h.1.length (fun k=>(h.1,(h.1.length:Int),(k:Int))) (fun k=>!wi (gt h.1 k) 1 12) (fun k=>Sum.inl (k:Int)) (Sum.inr ())
   (fun k hk _=>by
    show nr P69 h.1 (h.1.length:Int) (k:Int)=_;unfold nr;rw[cx hk,cond_true,aA (aK hk),eh,Fl,ay];cases wi (gt h.1 k) 1 12 with
    | false=>rfl
    | true=>rw[Bool.not_true,cond_false,aA (cw (by omega))]; rfl)
   (fun _=>by
    show nr P69 h.1 (h.1.length:Int) (h.1.length:Int)=_;unfold nr;rw[ef,cond_false]) (by omega)with⟨k,h1,h2,h3,h4⟩ | ⟨h3,h4⟩
  ·refine⟨(k:Int),?_,?_⟩
   ·show FN P69 ns h.1=_;unfold FN;rw[show ns (h.1,(↑(List.length h.1):Int),0)=_ from h4];rfl
   ·rw[decide_eq_true (by omega)]
    symm
    rw[Bool.not_eq_true',← Bool.not_eq_true];intro ha;have:=bI.1 ha k h1;rw[this]at h2;cases h2
  ·refine⟨-1,?_,?_⟩
   ·show FN P69 ns h.1=_;unfold FN;rw[show ns (h.1,(↑(List.length h.1):Int),0)=_ from h4];rfl
   ·symm
    rw[show decide ((0:Int) ≤ -1)=false from rfl,Bool.not_eq_false'];exact bI.2 fun k hk=>by have:=h3 k hk; simpa using this
 obtain⟨z,e1,e2⟩:=e74;have e58:P58 h.1=some (!dN h.1.length (fun k=>wi (gt h.1 k) 1 12)):=by
  show Jw P74 h.1=_;unfold Jw;rw[e1,ay,e2]
 show Jx P60 P58 h=_;unfold Jx CG;rw[oy,ay,e58];simp only[oy,ay];cases wi (h.1.length:Int) 1 6 <;> cases dN h.1.length (fun k=>wi (gt h.1 k) 1 12) <;> cases wi h.2 1 600 <;> rfl
theorem xh (l:List Int)(hl:l.length≤9223372036854775807):fk l=some (!dN l.length (fun k=>wi (gt l k) 1 12)):=by
 have e74:∃ z,P74v1 l=some z∧decide (0≤z)=!dN l.length (fun k=>wi (gt l k) 1 12):=by
  rcases iG (step:=fun x=>sx x.1 x.2.1 x.2.2) l.length (fun k=>(l,(l.length:Int),(k:Int))) (fun k=>!wi (gt l k) 1 12) (fun k=>Sum.inl (k:Int)) (Sum.inr ())
   (fun k hk _=>by
    show gM P59 l (l.length:Int) (k:Int)=_;unfold gM;rw[cx hk,cond_true,aA (aK hk),eh,Fm,ay];cases wi (gt l k) 1 12 with
    | false=>rfl
    | true=>rw[Bool.not_true,cond_false,aA (cw (by omega))]; rfl)
   (fun _=>by
    show gM P59 l (l.length:Int) (l.length:Int)=_;unfold gM;rw[ef,cond_false]) (by omega)with⟨k,h1,h2,h3,h4⟩ | ⟨h3,h4⟩
  ·refine⟨(k:Int),?_,?_⟩
   ·show nw P59 gN l=_;unfold nw;rw[show gN (l,(↑(List.length l):Int),0)=_ from h4];rfl
   ·rw[decide_eq_true (by omega)]
    symm
    rw[Bool.not_eq_true',← Bool.not_eq_true];intro ha;have:=bI.1 ha k h1;rw[this]at h2;cases h2
  ·refine⟨-1,?_,?_⟩
   ·show nw P59 gN l=_;unfold nw;rw[show gN (l,(↑(List.length l):Int),0)=_ from h4];rfl
   ·symm
    rw[show decide ((0:Int) ≤ -1)=false from rfl,Bool.not_eq_false'];exact bI.2 fun k hk=>by have:=h3 k hk; simpa using this
 obtain⟨z,e1,e2⟩:=e74;show sy P74v1 l=_;unfold sy;rw[e1,ay,e2]
theorem Fq (l:List Int)(hl:l.length≤9223372036854775807):Ca l=some (dN l.length (fun k=>wi (gt l k) 1 12)&&decide (l.length≤12)):=by
 show JG P57 so l=_;unfold JG;have e:so (l,0)=some (cond (dN l.length (fun k=>wi (gt l k) 1 12)) (Sum.inr l) (Sum.inl false)):=by
  refine nk (step:=fun x=>B9 x.1 x.2) l.length (fun k=>(l,(k:Int))) (fun k=>wi (gt l k) 1 12) _ _ (fun k hk=>?_) ?_ (by omega)
  ·show nu P57 l (k:Int)=_;unfold nu;rw[cx hk,cond_true,aA (aK hk),eh,oz,ay];cases wi (gt l k) 1 12 with
   | false=>rfl
   | true=>rw[Bool.not_true,cond_false,aA (cw (by omega))]; rfl
  ·show nu P57 l (l.length:Int)=_;unfold nu;rw[ef,cond_false]
 rw[e];cases dN l.length (fun k=>wi (gt l k) 1 12)with
 | false=>rfl
 | true=>show some (decide ((l.length:Int)≤12))=_; rw[Bool.true_and,Bool.eq_iff_iff.2 (show decide ((l.length:Int)≤12)=true↔decide (l.length≤12)=true by simp; omega)]
def nI (l:List Nat):List Int:=List.map (fun(k:Nat)=>(k:Int)) l
theorem uh (x:Int)(l:List Int):yi (x::l) 1 ((x::l).length:Int)=l:=by
 unfold yi;rw[show((1:Int)).toNat=1 from rfl,List.drop_succ_cons,List.drop_zero,List.take_of_length_le (by simp)]
def qT (l:List Int):Prop:=∀ k,k < l.length→0≤gt l k∧gt l k≤12
theorem nB {l:List Int}{g:Int}{r:Nat}(h:qT l)(hr:r < l.length)(hg:0≤g)(h2:g≤gt l r):qT (take1 l g r):=fun k hk=>by
 rw[bB]at hk;rw[bY hr];have:=h k hk;have:=h r hr;split <;> omega
theorem qU {l:List Int}{g:Int}{r:Nat}(hr:r < l.length):(take1 l g r).set r (gt l r)=l:=by
 refine qL (by simp[take1]) fun i hi=>?_;have hr':r < (take1 l g r).length:=by rwa [bB]
 rw[jU _ _ _ _ hr',bY hr];by_cases e:r=i
 ·subst e; simp
 ·simp[e]
def asg (s rows:List Int)(od:List Nat):List (Int×Nat):=od.map fun k=>(gt s k,(gt rows k).toNat)
def Fs (s left rows:List Int)(od:List Nat)(z:Bool×List Int×List Int×List Int):Prop:=
 z.2.1=s∧z.2.2.1.length=left.length∧z.2.2.2.length=rows.length∧(∀ k,k∉od→gt z.2.2.2 k=gt rows k) ∧
  ((z.1=false∧z.2.2.1=left∧¬ kJ left (od.map (gt s)))∨(z.1=true∧(∀ k∈od,0≤gt z.2.2.2 k)∧∃ X,pX left (asg s z.2.2.2 od)=some X))
theorem xi {s:List Int}(hs:pP s):∀ (od:List Nat),od.length≤7→(∀ k∈od,k < s.length)→od.Nodup→∀ (n:Nat) (left rows:List Int),od.length < n→qT left→left.length≤30→rows.length=s.length →
  ∃ z,R64v1 n (nI od,s,left,rows)=some z∧Fs s left rows od z:=by
 intro od
 induction od with
 | nil=>
  intro _ _ _ n left rows hn h1 h2 h3;obtain⟨n,rfl⟩:∃ m,n=m+1:=⟨n-1,by simp at hn; omega⟩;exact⟨(true,s,left,rows),rfl,rfl,rfl,rfl,fun _ _=>rfl,.inr ⟨rfl,fun k hk=>by simp at hk,left,rfl⟩⟩
 | cons g od ih=>
  intro q1 q2 q3 n left rows hn h1 h2 h3;obtain⟨n,rfl⟩:∃ m,n=m+1:=⟨n-1,by simp at hn; omega⟩;simp only[List.length_cons]at q1 hn;have hg:g < s.length:=q2 g (by simp);have hsg:=hs g hg;have qn:g∉od∧od.Nodup:=by simpa using q3
  have key:=fN (step:=fun x=>sJ (R64v1 n) x.1 x.2.1 x.2.2.1 x.2.2.2.1 x.2.2.2.2.1 x.2.2.2.2.2.1 x.2.2.2.2.2.2.1 x.2.2.2.2.2.2.2) (fun x=>left.length-x.2.2.2.1.toNat)
   (fun x=>∃ (i:Nat) (tried rw:List Int),x=(nI (g::od),(g:Int),(left.length:Int),(i:Int),s,tried,left,rw)∧i≤left.length∧tried.length≤i∧rw.length=rows.length ∧
    (∀ k,k∉g::od→gt rw k=gt rows k)∧(∀ j,j < i→¬ (gt s g≤gt left j∧kJ (take1 left (gt s g) j) (od.map (gt s))))∧∀ x∈tried,∃ j,j < i∧gt left j=x∧gt s g≤gt left j)
   (fun r=>(∃ z,r=Sum.inl z∧Fs s left rows (g::od) z∧z.1=true)∨∃ rw,r=Sum.inr (s,left,rw)∧Fs s left rows (g::od) (false,s,left,rw))
   (x:=(nI (g::od),(g:Int),(left.length:Int),((0:Nat):Int),s,[],left,rows)) ⟨0,[],rows,rfl,Nat.zero_le _,Nat.le_refl _,rfl,fun _ _=>rfl,fun j hj=>by omega,fun x hx=>by simp at hx⟩
   (by show left.length-((0:Nat):Int).toNat < _; omega) (by
    rintro x ⟨i,tried,rw,rfl,hi,ht,hw,hk,hno,htr⟩;show(∃ s',q64v1_0 P76 (R64v1 n) (nI (g::od)) (g:Int) (left.length:Int) (i:Int) s tried left rw=_∧_)∨∃ z,q64v1_0 P76 (R64v1 n) (nI (g::od)) (g:Int) (left.length:Int) (i:Int) s tried left rw=_∧_;unfold q64v1_0;by_cases c:i < left.length
    ·have hmu:left.length-((i:Int)+1).toNat < left.length-((i:Nat):Int).toNat:=by omega
     rw[cx c,cond_true,aA (aK c),aA (aK hg),eh,eh];by_cases c1:gt left i < gt s g
     ·left;rw[decide_eq_true c1,cond_true,aA (cw (by omega))];refine⟨_,rfl,⟨i+1,tried,rw,rfl,c,by omega,hw,hk,fun j hj=>?_,fun x hx=>?_⟩,hmu⟩
      ·by_cases e:j=i
       ·subst e; rintro⟨a,_⟩; omega
       ·exact hno j (by omega)
      ·obtain⟨j,a,b⟩:=htr x hx; exact⟨j,by omega,b⟩
     ·have c1':gt s g≤gt left i:=by omega
      rw[decide_eq_false c1,cond_false,Fj _ _ (by omega),ay];by_cases c2:gt left i∈tried
      ·left;rw[decide_eq_true c2,cond_true,aA (cw (by omega))];refine⟨_,rfl,⟨i+1,tried,rw,rfl,c,by omega,hw,hk,fun j hj=>?_,fun x hx=>?_⟩,hmu⟩
       ·by_cases e:j=i
        ·subst e;rintro⟨_,b⟩;obtain⟨j',a1,a2,a3⟩:=htr _ c2;exact hno j' a1 ⟨a3,qS c (by omega) a2.symm b⟩
        ·exact hno j (by omega)
       ·obtain⟨j,a,b⟩:=htr x hx; exact⟨j,by omega,b⟩
      ·have b1:=h1 i c;have hgr:g < rw.length:=by omega
       have e1:left.set i (gt left i-gt s g)=take1 left (gt s g) i:=rfl;rw[decide_eq_false c2,cond_false,aA (jg (by simp; omega)),aA (aK c),aA (aK hg),aA (eF (by omega) (by omega)),aA (aK c),aA (aK hgr),show decide ((0:Int)≤1)=true from rfl,fT,
        show decide ((1:Int)≤((nI (g::od)).length:Int))=true from decide_eq_true (by simp[nI]; omega),fT,decide_eq_true (Int.le_refl _),fT,
        show yi (nI (g::od)) 1 ((nI (g::od)).length:Int)=nI od from uh _ _,Int.toNat_natCast,Int.toNat_natCast,e1]
       obtain⟨z,e2,z1,z2,z3,z4,z5⟩:=ih (by omega) (fun k hk=>q2 k (by simp[hk])) qn.2 n (take1 left (gt s g) i) (rw.set g (i:Int)) (by omega) (nB h1 c (by omega) c1') (by rwa [bB]) (by rw[List.length_set]; omega);rw[e2,ay];rw[bB]at z2;rw[List.length_set]at z3;have zk:∀ k,k∉g::od→gt z.2.2.2 k=gt rows k:=fun k hk'=>by
        rw[List.mem_cons,not_or]at hk';rw[z4 k hk'.2,jU _ _ _ _ hgr,if_neg (Ne.symm hk'.1)];exact hk k (by rw[List.mem_cons,not_or]; exact hk')
       rcases z5 with⟨a1,a2,a3⟩ | ⟨a1,a2,X,a3⟩
       ·left;rw[a1,cond_false,a2,aA (aK (by rwa [bB])),aA (cw (by omega)),z1,qU c];refine⟨_,rfl,⟨i+1,tried++[gt left i],z.2.2.2,rfl,c,by simp; omega,by omega,zk,fun j hj=>?_,fun x hx=>?_⟩,hmu⟩
        ·by_cases e:j=i
         ·subst e; exact fun b=>a3 b.2
         ·exact hno j (by omega)
        ·rcases List.mem_append.1 hx with hx | hx
         ·obtain⟨j,a,b⟩:=htr x hx; exact⟨j,by omega,b⟩
         ·rw[List.mem_singleton.1 hx]; exact⟨i,by omega,rfl,c1'⟩
       ·right;rw[a1,cond_true];have eg:gt z.2.2.2 g=(i:Int):=by rw[z4 g qn.1,jU _ _ _ _ hgr,if_pos rfl]
        refine⟨_,rfl,.inl ⟨(true,z.2.1,z.2.2.1,z.2.2.2),rfl,⟨z1,z2,z3.trans hw,zk,.inr ⟨rfl,fun k hk'=>?_,X,?_⟩⟩,rfl⟩⟩
        ·rcases List.mem_cons.1 hk' with e | hk'
         ·rw[e,eg]; omega
         ·exact a2 k hk'
        ·show pX left ((gt s g,(gt z.2.2.2 g).toNat)::asg s z.2.2.2 od)=some X;rw[eg,Int.toNat_natCast];simp only[pX];rw[if_pos ⟨c,c1'⟩];exact a3
    ·right;obtain rfl:i=left.length:=by omega
     rw[ef,cond_false];refine⟨_,rfl,.inr ⟨rw,rfl,rfl,rfl,hw,hk,.inl ⟨rfl,rfl,?_⟩⟩⟩;rintro⟨r,a1,a2,a3⟩;exact hno r a1 ⟨a2,a3⟩)
  obtain⟨r,k1,k2⟩:=key;show ∃ z,q64v1 P76 (R64v1 n) (L64v1_0 (R64v1 n)) (nI (g::od)) s left rows=some z∧_;unfold q64v1;rw[show decide (((nI (g::od)).length:Int)=0)=false from decide_eq_false (by simp[nI]; omega),cond_false,aA (show bF (0:Int) (nI (g::od)).length=true from aK (k:=0) (by simp[nI])),
   show ix (nI (g::od)) (0:Int)=(g:Int)from rfl,show L64v1_0 (R64v1 n) (nI (g::od),(g:Int),(left.length:Int),0,s,[],left,rows)=some r from k1,ay]
  rcases k2 with⟨z,rfl,k3,k4⟩ | ⟨rw,rfl,k3⟩
  ·exact⟨_,rfl,k3⟩
  ·exact⟨_,rfl,k3⟩
def xu:List Int→List (Int×Int)→Prop
 | _,[]=>True
 | l,(g,r)::A=>0≤r∧r.toNat < l.length∧g≤gt l r.toNat∧xu (take1 l g r.toNat) A
theorem sS {A:List (Int×Int)}:∀ {l:List Int},xu l A↔(∀ a∈A,0≤a.2)∧∃ X,pX l (A.map fun a=>(a.1,a.2.toNat))=some X:=by
 induction A with
 | nil=>intro l; exact⟨fun _=>⟨fun a ha=>by simp at ha,l,rfl⟩,fun _=>trivial⟩
 | cons a A ih=>
  intro l;obtain⟨g,r⟩:=a;constructor
  ·rintro⟨h1,h2,h3,h4⟩;obtain⟨k1,X,k2⟩:=ih.1 h4;refine⟨fun a ha=>?_,X,?_⟩
   ·rcases List.mem_cons.1 ha with e | ha
    ·rw[e]; exact h1
    ·exact k1 a ha
   ·simp only[List.map_cons,pX];rw[if_pos ⟨h2,h3⟩]; exact k2
  ·rintro⟨h1,X,h2⟩;simp only[List.map_cons,pX]at h2;split at h2
   ·rename_i c;exact⟨h1 (g,r) (by simp),c.1,c.2,ih.2 ⟨fun a ha=>h1 a (by simp[ha]),X,h2⟩⟩
   ·cases h2
theorem sT {l:List Int}{i:Nat}(h:i < l.length):l.drop i=gt l i::l.drop (i+1):=by
 rw[eG h,List.drop_eq_getElem_cons h]
theorem xj {h:List Int×Int}{s rows:List Int}(hs:pP s)(hh:qT h.1)(hl:h.1.length≤30)(hsl:s.length≤1000)(hr:rows.length≤4611686018427387903):
  ∃ b,P40 (h,s,rows)=some b∧(b=true↔rows.length=s.length∧xu h.1 (s.zip rows)):=by
 have key:=fN (step:=fun x=>Cz x.1 x.2.1 x.2.2.1 x.2.2.2) (fun x=>s.length-x.2.2.1.toNat)
  (fun x=>∃ (i:Nat) (left:List Int),x=(s,rows,(i:Int),left)∧i≤s.length∧i≤rows.length∧left.length=h.1.length∧qT left∧(xu h.1 (s.zip rows)↔xu left ((s.drop i).zip (rows.drop i))))
  (fun r=>(∃ y,r=Sum.inl (false,y)∧¬ xu h.1 (s.zip rows))∨∃ y,r=Sum.inr (s,rows,y)∧xu h.1 (s.zip rows))
  (x:=(s,rows,((0:Nat):Int),h.1)) ⟨0,h.1,rfl,Nat.zero_le _,Nat.zero_le _,rfl,hh,Iff.rfl⟩ (by show s.length-((0:Nat):Int).toNat < _; omega) (by
   rintro x ⟨i,left,rfl,i1,i2,i3,i4,i5⟩;show(∃ s',q40_0 P57 s rows (i:Int) left=_∧_)∨∃ z,q40_0 P57 s rows (i:Int) left=_∧_;unfold q40_0;by_cases c1:i < rows.length
   ·rw[cx c1,cond_true];by_cases c2:i < s.length
    ·have hd:(s.drop i).zip (rows.drop i)=(gt s i,gt rows i)::(s.drop (i+1)).zip (rows.drop (i+1)):=by rw[sT c1,sT c2]; rfl
     rw[hd]at i5;rw[cx c2,cond_true,aA (aK c1),aA (eF (by omega) (by omega)),eh,oz,ay];cases hw:wi (gt rows i) 0 ((left.length:Int)-1)with
     | false=>
      right;refine⟨_,rfl,.inl ⟨_,rfl,fun hc=>?_⟩⟩;obtain⟨a1,a2,_⟩:=i5.1 hc;have:wi (gt rows i) 0 ((left.length:Int)-1)=true:=gx.2 ⟨a1,by omega⟩;rw[hw]at this;cases this
     | true=>
      have hw':=gx.1 hw;obtain⟨r,er⟩:∃ r:Nat,gt rows i=(r:Int):=⟨(gt rows i).toNat,by omega⟩;have hrl:r < left.length:=by omega
      have b1:=i4 r hrl;have b2:=hs i c2;have e1:left.set r (gt left r-gt s i)=take1 left (gt s i) r:=rfl;have e2:gt (take1 left (gt s i) r) r=gt left r-gt s i:=by rw[bY hrl,if_pos rfl]
      rw[Bool.not_true,cond_false,aA (aK c1),er,aA (aK hrl),aA (aK c2),eh,eh,aA (eF (by omega) (by omega)),aA (aK hrl),aA (aK c1),Int.toNat_natCast,e1,aA (aK (by rwa [bB])),eh,e2];by_cases c3:gt left r-gt s i < 0
      ·right;rw[decide_eq_true c3,cond_true];refine⟨_,rfl,.inl ⟨_,rfl,fun hc=>?_⟩⟩;obtain⟨_,_,a3,_⟩:=i5.1 hc;rw[er,Int.toNat_natCast]at a3;omega
      ·left;rw[decide_eq_false c3,cond_false,aA (cw (by omega))];refine⟨_,rfl,⟨i+1,take1 left (gt s i) r,rfl,c2,c1,by rw[bB]; exact i3,nB i4 hrl (by omega) (by omega),i5.trans ?_⟩,by show s.length-((i:Int)+1).toNat < s.length-((i:Nat):Int).toNat; omega⟩;simp only[xu,er,Int.toNat_natCast];exact⟨fun a=>a.2.2.2,fun a=>⟨by omega,hrl,by omega,a⟩⟩
    ·right;rw[show decide ((i:Int) < (s.length:Int))=false from decide_eq_false (by omega),cond_false];refine⟨_,rfl,.inr ⟨_,rfl,i5.2 ?_⟩⟩;rw[List.drop_eq_nil_of_le (by omega:s.length≤i)]
     trivial
   ·right;rw[show decide ((i:Int) < (rows.length:Int))=false from decide_eq_false (by omega),cond_false];refine⟨_,rfl,.inr ⟨_,rfl,i5.2 ?_⟩⟩;rw[List.drop_eq_nil_of_le (by omega:rows.length≤i)];cases s.drop i <;> trivial)
 obtain⟨r,k1,k2⟩:=key;have e:P40 (h,s,rows)=Sum.elim (fun(y3:Bool×(List Int))=>some y3.1) (fun(y4:(List Int)×(List Int)×(List Int))=>some (decide ((↑(List.length y4.2.1):Int)=(↑(List.length y4.1):Int)))) r:=by
  show JR P57 sL h s rows=_;unfold JR;rw[aA (jg (by simp; omega)),List.nil_append,show sL (s,rows,0,h.1)=some r from k1,ay]
 rcases k2 with⟨y,rfl,k3⟩ | ⟨y,rfl,k3⟩
 ·exact⟨false,e,by simp[k3]⟩
 ·refine⟨_,e,?_⟩;rw[decide_eq_true_eq];exact⟨fun h=>⟨by have h':(rows.length:Int)=(s.length:Int):=h; omega,k3⟩,fun h=>by show(rows.length:Int)=(s.length:Int); rw[h.1]⟩
theorem Ac {l s rows:List Int}(h:rows.length=s.length)(hk:xu l (s.zip rows)):kJ l s:=by
 obtain⟨_,X,h2⟩:=sS.1 hk;refine xg.2 ⟨rows.map Int.toNat,by simpa using h,X,?_⟩;rw[← h2];congr 1;rw[List.zip_map_right];rfl
theorem Ad (s:List Int):(List.range s.length).map (gt s)=s:=by
 refine qL (by simp) fun i hi=>?_;have hi':i < s.length:=by simpa using hi
 rw[eG hi,List.getElem_map,List.getElem_range]
theorem Ft (h:List Int×Int)(s:List Int)(hs:s.length≤1000):sK ((s.length:Int),0,h,s,[])=some (h,s,nI (List.range s.length)):=by
 refine(fj (step:=fun x=>Cv x.1 x.2.1 x.2.2.1 x.2.2.2.1 x.2.2.2.2) s.length (fun k=>((s.length:Int),(k:Int),h,s,nI (List.range k))) (h,s,nI (List.range s.length)) (fun k hk=>?_) ?_ (by omega))
 ·show nz nt fk P61 sD fl (s.length:Int) (k:Int) h s (nI (List.range k))=_;unfold nz;rw[cx hk,cond_true,aA (jg (by simp[nI]; omega)),aA (cw (by omega))]
  simp[nI,List.range_succ]
 ·show nz nt fk P61 sD fl (s.length:Int) (s.length:Int) h s (nI (List.range s.length))=_;unfold nz;rw[ef,cond_false]
theorem Fu {h:List Int×Int}{s:List Int}(hh:CG h=true)(ha:dN s.length (fun k=>wi (gt s k) 1 12)=true)(hl:s.length≤7):
  ∃ e l,P39 (h,s)=some (e,l)∧((e=3∧l=[]∧¬ kJ h.1 s)∨(e=0∧l.length=s.length∧xu h.1 (s.zip l))):=by
 have hs:pP s:=fun k hk=>by have:=bI.1 ha k hk; exact gx.1 this
 have hh':=hh;simp only[CG,Bool.and_eq_true,gx]at hh';have hr:qT h.1:=fun k hk=>by have:=gx.1 (bI.1 hh'.1.1 k hk); omega
 have hidx:sR s (nI (List.range s.length)):=fun x hx=>by
  obtain⟨k,hk,rfl⟩:=List.mem_map.1 hx;exact⟨k,List.mem_range.1 hk,rfl⟩
 obtain⟨d,e61,hp⟩:=Fi (d:=nI (List.range s.length)) hs hidx (by simp[nI]; omega);obtain⟨od,rfl,hq⟩:∃ od:List Nat,d=nI od∧od.Perm (List.range s.length):=by
  refine⟨d.map Int.toNat,?_,?_⟩
  ·unfold nI;rw[List.map_map];refine(List.map_id' d).symm.trans (List.map_congr_left fun x hx=>?_);obtain⟨k,hk,rfl⟩:=hidx x (hp.mem_iff.1 hx)
   simp
  ·have:=hp.map Int.toNat
   unfold nI at this;rw[List.map_map,show(Int.toNat ∘ fun(k:Nat)=>(k:Int))=id from funext fun k=>Int.toNat_natCast k,List.map_id]at this;exact this
 have hol:od.length=s.length:=by rw[hq.length_eq,List.length_range]
 obtain⟨z,e64,z1,z2,z3,z4,z5⟩:=xi hs od (by omega) (fun k hk=>List.mem_range.1 (hq.mem_iff.1 hk)) (hq.nodup_iff.2 List.nodup_range) 18446744073709551616 h.1 (List.replicate s.length 0) (by omega) hr (by omega) (by simp);have e:P39 (h,s)=cond (!z.1) (some ((3:Int),([]:List Int))) (some ((0:Int),z.2.2.2)):=by
  show JP nt fk P61 sD fl sK h s=_;unfold JP;rw[Fp h (by omega),hh,ay,Bool.not_true,cond_false,show decide ((12:Int) < (↑(List.length s):Int))=false from decide_eq_false (by omega),cond_false,xh s (by omega),ha,ay,Bool.not_true,cond_false,Ft h s (by omega),ay];show(P61 (nI (List.range s.length),s)).bind _=_;rw[e61,ay];show au (decide ((0:Int)≤(↑(List.length s):Int))) (au (decide ((8:Int)*(↑(List.length s):Int)≤140737488355328)) ((sD h.1).bind fun(r5:List Int)=>(au (decide ((0:Int)≤(↑(List.length s):Int))) (au (decide ((8:Int)*(↑(List.length s):Int)≤140737488355328)) ((fl (nI od,s,r5,(dz (Int.toNat (↑(List.length s):Int)) (0:Int):List Int))).bind _)))))=_;rw[show decide ((0:Int)≤(↑(List.length s):Int))=true from decide_eq_true (by omega),fT,show decide ((8:Int)*(↑(List.length s):Int)≤140737488355328)=true from decide_eq_true (by omega),fT,Fk _ (by omega),ay,fT,fT,Int.toNat_natCast,
   show fl (nI od,s,h.1,dz s.length (0:Int))=some z from e64,ay]
 rcases z5 with⟨a1,a2,a3⟩ | ⟨a1,a2,X,a3⟩
 ·refine⟨3,[],by rw[e,a1]; rfl,.inl ⟨rfl,rfl,fun hc=>a3 ?_⟩⟩;refine uf (?_:s.Perm (od.map (gt s))) (fun g hg=>?_) hc
  ·have:=hq.map (gt s);rw[Ad]at this;exact this.symm
  ·obtain⟨k,hk,rfl⟩:=oj hg;have:=hs k hk;omega
 ·have hzl:z.2.2.2.length=s.length:=by rw[z3,List.length_replicate]
  refine⟨0,z.2.2.2,by rw[e,a1]; rfl,.inr ⟨rfl,hzl,sS.2 ⟨fun a ha=>?_,X,?_⟩⟩⟩
  ·obtain⟨k,hk,e⟩:=oj (List.of_mem_zip ha).2;rw[← e];exact a2 k (hq.mem_iff.2 (List.mem_range.2 (by omega)))
  ·have hA:(asg s z.2.2.2 od).Perm ((s.zip z.2.2.2).map fun a=>(a.1,a.2.toNat)):=by
    refine(hq.map fun k=>(gt s k,(gt z.2.2.2 k).toNat)).trans (List.Perm.of_eq ?_);apply List.ext_getElem
    ·simp[hzl]
    ·intro i i1 i2;have i3:i < s.length:=by simpa using i1
     simp[eG i3,eG (show i < z.2.2.2.length by omega)]
   refine xf hA (fun x hx=>?_) a3;obtain⟨k,hk,rfl⟩:=List.mem_map.1 hx;have:=hs k (List.mem_range.1 (hq.mem_iff.1 hk));show 0≤gt s k;omega
theorem xl:B5 ()=some true:=by kernel_rfl
theorem Pure.SeatsPacked' (h:List Int×Int)(s rows:List Int)(l1:h.1.length≤9223372036854775807)(l2:s.length≤9223372036854775807):JT (h,s,rows)=some true:=by
 show JS AP B5 Ca P39 P40 h s rows=_;unfold JS;rw[Fo h l1,ay,xl,Fq s l2];simp only[ay];cases hh:CG h with
 | false=>rfl
 | true=>
  rw[Bool.not_true,cond_false];cases ha:dN s.length (fun k=>wi (gt s k) 1 12)with
  | false=>rfl
  | true=>
   rw[Bool.true_and];by_cases c1:s.length≤7
   ·rw[decide_eq_true (by omega:s.length≤12),Bool.not_true,cond_false,show decide ((7:Int) < (↑(List.length s):Int))=false from decide_eq_false (by omega),cond_false];by_cases c2:20 < rows.length
    ·rw[show decide ((20:Int) < (↑(List.length rows):Int))=true from decide_eq_true (by omega)]; rfl
    ·rw[show decide ((20:Int) < (↑(List.length rows):Int))=false from decide_eq_false (by omega),cond_false];have hs:pP s:=fun k hk=>by have:=bI.1 ha k hk; exact gx.1 this
     have hh':=hh;simp only[CG,Bool.and_eq_true,gx]at hh';have hr:qT h.1:=fun k hk=>by have:=gx.1 (bI.1 hh'.1.1 k hk); omega
     obtain⟨e,l,e39,hc⟩:=Fu hh ha c1;rw[e39,ay];rcases hc with⟨rfl,rfl,hc⟩ | ⟨rfl,hl,hc⟩
     ·obtain⟨b,e40,hb⟩:=xj (h:=h) (s:=s) (rows:=rows) hs hr (by omega) (by omega) (by omega);have:b=false:=by
       cases b with
       | false=>rfl
       | true=>obtain⟨q1,q2⟩:=hb.1 rfl; exact absurd (Ac q1 q2) hc
      subst this;show(P40 (h,s,rows)).bind _=_;rw[e40];rfl
     ·obtain⟨b,e40,hb⟩:=xj (h:=h) (s:=s) (rows:=l) hs hr (by omega) (by omega) (by omega);have:b=true:=hb.2 ⟨hl,hc⟩;subst this;show(P40 (h,s,l)).bind _=_;rw[e40];rfl
   ·by_cases c3:s.length≤12
    ·rw[decide_eq_true c3,Bool.not_true,cond_false,show decide ((7:Int) < (↑(List.length s):Int))=true from decide_eq_true (by omega)];rfl
    ·rw[decide_eq_false c3];rfl
theorem Pure.SeatsPacked (h:List Int×Int)(w0:Wf (.pair (.sl (.int .i64)) (.int .i64)) h)(s:List Int)(w1:Wf (.sl (.int .i64)) s)(rows:List Int)(w2:Wf (.sl (.int .i64)) rows):JT (h,s,rows)=some true:=
 Pure.SeatsPacked' h s rows w0.1.1 w1.1
end Go.Proofs.Ytdkaijofmigmbaa.D
