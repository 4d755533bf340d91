/- Cut down from longer texts. -/
import Derived.Test.YtdkaijofmigmbaaGreatB3z
import Derived.Test.YtdkaijofmigmbaaGreatG4z
set_option linter.unusedVariables false
set_option linter.unusedSimpArgs false
set_option linter.unusedSectionVars false
set_option maxRecDepth 100000
namespace Go.Proofs.YtdkaijofmigmbaaGreat.D
open Go Go.Proofs.YtdkaijofmigmbaaGreat.L
theorem fZ {l:List Int}:∀ {i:Nat} (h:i < l.length),(l[i]::l.eraseIdx i).Perm l:=by
 induction l with
 | nil=>intro i h; simp at h
 | cons a l ih=>
  intro i h;cases i with
  | zero=>exact .refl _
  | succ i=>
   have:=ih (i:=i) (by simpa using h);exact(List.Perm.swap _ _ _).trans (List.Perm.cons _ this)
theorem hN {l:List Int}(x:Int):∀ {i:Nat} (h:i < l.length),(l.set i x).Perm (x::l.eraseIdx i):=by
 induction l with
 | nil=>intro i h; simp at h
 | cons a l ih=>
  intro i h;cases i with
  | zero=>exact .refl _
  | succ i=>
   have:=ih (i:=i) (by simpa using h);exact(List.Perm.cons _ this).trans (List.Perm.swap _ _ _)
def take1 (l:List Int)(g:Int)(r:Nat):List Int:=l.set r (gt l r-g)
def qg:List Int→List (Int×Nat)→Option (List Int)
 | l,[]=>some l
 | l,(g,r)::A=>if r < l.length∧g≤gt l r then qg (take1 l g r) A else none
def ic:List Int→List Int→Prop
 | _,[]=>True
 | l,g::gs=>∃ r,r < l.length∧g≤gt l r∧ic (take1 l g r) gs
theorem bp (l:List Int)(g:Int)(r:Nat):(take1 l g r).length=l.length:=by simp[take1]
theorem b8 {l:List Int}{g:Int}{r:Nat}(h:r < l.length)(k:Nat):gt (take1 l g r) k=if r=k then gt l r-g else gt l k:=kh _ _ _ _ h
theorem mt (l:List Int)(g g':Int)(r r':Nat)(h:r < l.length)(h':r' < l.length):take1 (take1 l g r) g' r'=take1 (take1 l g' r') g r:=by
 refine qT (by simp[take1]) fun k hk=>?_;have e1:gt (take1 (take1 l g r) g' r') k=if r'=k then gt (take1 l g r) r'-g' else gt (take1 l g r) k:=b8 (by rwa [bp]) k;have e2:gt (take1 (take1 l g' r') g r) k=if r=k then gt (take1 l g' r') r-g else gt (take1 l g' r') k:=b8 (by rwa [bp]) k;rw[e1,e2,b8 h,b8 h,b8 h',b8 h'];by_cases e1:r'=k <;> by_cases e2:r=k
 ·subst e1; subst e2; simp; omega
 ·subst e1; simp[e2]
 ·subst e2; simp[e1]
 ·simp[e1,e2]
theorem wj {l:List Int}{a b:Int×Nat}{A:List (Int×Nat)}(ha:0≤a.1)(hb:0≤b.1){X:List Int}(h:qg l (a::b::A)=some X):qg l (b::a::A)=some X:=by
 obtain⟨g,r⟩:=a;obtain⟨g',r'⟩:=b;simp only[qg]at h ⊢;split at h
 ·rename_i h1;split at h
  ·rename_i h2;rw[bp,b8 h1.1]at h2;have c1:r' < l.length∧g'≤gt l r':=⟨h2.1,by have:=h2.2; split at this <;> (try subst_vars) <;> simp_all <;> omega⟩
   rw[if_pos c1];have c2:r < (take1 l g' r').length∧g≤gt (take1 l g' r') r:=by
    rw[bp,b8 c1.1];refine⟨h1.1,?_⟩;have:=h2.2;by_cases e:r=r'
    ·subst e; simp at this ⊢; omega
    ·rw[if_neg (Ne.symm e)]; exact h1.2
   rw[if_pos c2,mt l g' g r' r c1.1 h1.1]; exact h
  ·cases h
 ·cases h
theorem wl {A B:List (Int×Nat)}(p:A.Perm B)(hA:∀ x∈A,0≤x.1):∀ {l X:List Int},qg l A=some X→qg l B=some X:=by
 induction p with
 | nil=>intro l X h; exact h
 | cons x _ ih=>
  intro l X h;obtain⟨g,r⟩:=x;simp only[qg]at h ⊢;split at h
  ·rename_i c; rw[if_pos c]; exact ih (fun x hx=>hA x (by simp[hx])) h
  ·cases h
 | swap x y _=>intro l X h; exact wj (hA _ (by simp)) (hA _ (by simp)) h
 | trans p1 _ ih1 ih2=>intro l X h; exact ih2 (fun x hx=>hA x (p1.mem_iff.2 hx)) (ih1 hA h)
theorem wm {l gs:List Int}:ic l gs↔∃ rs:List Nat,rs.length=gs.length∧∃ X,qg l (gs.zip rs)=some X:=by
 induction gs generalizing l with
 | nil=>exact⟨fun _=>⟨[],rfl,l,rfl⟩,fun _=>trivial⟩
 | cons g gs ih=>
  constructor
  ·rintro⟨r,h1,h2,h3⟩;obtain⟨rs,e,X,hX⟩:=ih.1 h3;exact⟨r::rs,by simp[e],X,by simp only[List.zip_cons_cons,qg]; rw[if_pos ⟨h1,h2⟩]; exact hX⟩
  ·rintro⟨rs,e,X,hX⟩;cases rs with
   | nil=>simp at e
   | cons r rs=>
    simp only[List.zip_cons_cons,qg]at hX;split at hX
    ·rename_i c;exact⟨r,c.1,c.2,ih.2 ⟨rs,by simpa using e,X,hX⟩⟩
    ·cases hX
theorem ug {gs hs:List Int}(p:gs.Perm hs)(hg:∀ g∈gs,0≤g):∀ {l:List Int},ic l gs→ic l hs:=by
 induction p with
 | nil=>intro l h; exact h
 | cons x _ ih=>
  rintro l ⟨r,h1,h2,h3⟩;exact⟨r,h1,h2,ih (fun g hg'=>hg g (by simp[hg'])) h3⟩
 | swap x y _=>
  rintro l ⟨r,h1,h2,r',h3,h4,h5⟩;have hx:=hg x (by simp);have hy:=hg y (by simp);rw[bp]at h3;rw[b8 h1]at h4;refine⟨r',h3,?_,r,by rwa [bp],?_,by rw[mt l x y r' r h3 h1]; exact h5⟩
  ·by_cases e:r=r'
   ·subst e; simp at h4; omega
   ·rw[if_neg e]at h4; exact h4
  ·rw[b8 h3];by_cases e:r'=r
   ·subst e; simp at h4 ⊢; omega
   ·rw[if_neg e]; exact h2
 | trans p1 _ ih1 ih2=>intro l h; exact ih2 (fun x hx=>hg x (p1.mem_iff.2 hx)) (ih1 hg h)
theorem nN:∀ {gs l l':List Int},l.Perm l'→ic l gs→ic l' gs
 | [],_,_,_,_=>trivial
 | g::gs,l,l',p,⟨r,h1,h2,h3⟩=>by
  have hm:gt l r∈l':=p.mem_iff.1 (mm h1);obtain⟨r',h4,e⟩:=kg hm;refine⟨r',h4,by rw[e]; exact h2,nN ?_ h3⟩;have e1:(l.eraseIdx r).Perm (l'.eraseIdx r'):=by
   have a1:=fZ h1;have a2:=fZ h4;rw[← eT h1]at a1;rw[← eT h4,e]at a2;exact List.Perm.cons_inv (a1.trans (p.trans a2.symm))
  have b1:(take1 l g r).Perm ((gt l r-g)::l.eraseIdx r):=hN _ h1;have b2:(take1 l' g r').Perm ((gt l' r'-g)::l'.eraseIdx r'):=hN _ h4;rw[e]at b2;exact b1.trans ((List.Perm.cons _ e1).trans b2.symm)
theorem mu {l gs:List Int}{g:Int}{r r':Nat}(h:r < l.length)(h':r' < l.length)(e:gt l r=gt l r')(hc:ic (take1 l g r) gs):ic (take1 l g r') gs:=by
 refine nN ?_ hc;have e1:(l.eraseIdx r).Perm (l.eraseIdx r'):=by
  have a1:=fZ h;have a2:=fZ h';rw[← eT h]at a1;rw[← eT h',← e]at a2;exact List.Perm.cons_inv (a1.trans a2.symm)
 have b1:(take1 l g r).Perm ((gt l r-g)::l.eraseIdx r):=hN _ h;have b2:(take1 l g r').Perm ((gt l r'-g)::l.eraseIdx r'):=hN _ h';rw[← e]at b2;exact b1.trans ((List.Perm.cons _ e1).trans b2.symm)
theorem zo {σ ρ:Type}{step:σ→Option (σ⊕ρ)}{x:σ}{r:ρ}(n:Nat)(h:step x=some (.inr r)):um step (n+1) x=some r:=by simp only[um,h]
theorem uh {σ ρ:Type}{step:σ→Option (σ⊕ρ)}{x:σ}{r:ρ}(h:step x=some (.inr r)):af step x=some r:=zo 18446744073709551615 h
def oI (s:List Int):Prop:=∀ k,k < s.length→1≤gt s k∧gt s k≤12
def sR (s d:List Int):Prop:=∀ x∈d,∃ k:Nat,k < s.length∧x=(k:Int)
theorem EC {s:List Int}(hs:oI s){x y:Nat}(hx:x < s.length)(hy:y < s.length):P19 ((x:Int),(y:Int),s)=some (gt s y-gt s x):=by
 have h1:=hs x hx;have h2:=hs y hy;show JR _ _ s=_;unfold JR;rw[aw (aF hy),aw (aF hx),dn,dn,aw (dU (by omega) (by omega))]
theorem M4 {s d:List Int}(hs:oI s)(hd:sR s d){a b i j:Nat}(hj:j < d.length)(hl:d.length≤100):
  ∃ d',pP ((a:Int),(b:Int),(i:Int),(j:Int),d,s)=some ((a:Int),(b:Int),(i:Int),d',s)∧d'.Perm d:=by
 have key:=eF (step:=fun x=>Cb x.1 x.2.1 x.2.2.1 x.2.2.2.1 x.2.2.2.2.1 x.2.2.2.2.2) (fun x=>x.2.2.2.1.toNat)
  (fun x=>∃ (j:Nat) (e:List Int),x=((a:Int),(b:Int),(i:Int),(j:Int),e,s)∧j < e.length∧e.Perm d)
  (fun r=>∃ e,r=((a:Int),(b:Int),(i:Int),e,s)∧e.Perm d) (x:=((a:Int),(b:Int),(i:Int),(j:Int),d,s)) ⟨j,d,rfl,hj,.refl _⟩
  (by show((j:Nat):Int).toNat < _; omega) (by
   rintro x ⟨j,e,rfl,hj,he⟩;have hn:e.length=d.length:=he.length_eq;show(∃ s',q41_1 P19 (a:Int) (b:Int) (i:Int) (j:Int) e s=_∧_)∨∃ z,q41_1 P19 (a:Int) (b:Int) (i:Int) (j:Int) e s=_∧_;unfold q41_1;by_cases c:a < j
   ·have hj1:j-1 < e.length:=by omega
    obtain⟨u,hu,eu⟩:=hd (gt e j) (he.mem_iff.1 (mm hj));obtain⟨v,hv,ev⟩:=hd (gt e (j-1)) (he.mem_iff.1 (mm hj1));have e62:P19 (gt e j,gt e (j-1),s)=some (gt s v-gt s u):=by rw[eu,ev]; exact EC hs hu hv
    have ej:(j:Int)-1=((j-1:Nat):Int):=by omega
    have f1:au .i64 ((j-1:Nat):Int)=true:=dU (by omega) (by omega);rw[b7 c,cond_true,aw (aF hj),ej,f1,dl,aw (aF hj1),dn,dn,e62,an];cases decide (gt s v-gt s u < 0)with
    | false=>right; exact⟨_,rfl,e,rfl,he⟩
    | true=>
     left;rw[cond_true,dl,dl,aw (aF hj1),aw (aF hj),aw (aF hj),aw (aF (by simpa using hj1)),dl];refine⟨_,rfl,⟨j-1,sw e j (j-1),by simp only[Int.toNat_natCast]; rfl,by rw[Ed]; exact hj1,(se hj hj1).trans he⟩,?_⟩;show((j-1:Nat):Int).toNat < ((j:Nat):Int).toNat;omega
   ·right;rw[show decide ((a:Int) < (j:Int))=false from decide_eq_false (by omega),cond_false];exact⟨_,rfl,e,rfl,he⟩)
 obtain⟨r,h1,e,rfl,h2⟩:=key;exact⟨e,h1,h2⟩
theorem M5 {s d:List Int}(hs:oI s)(hd:sR s d)(hl:d.length≤100):∃ d',qW (0,(d.length:Int),d,s)=some (d',s)∧d'.Perm d:=by
 have key:=eF (step:=fun x=>Cd x.1 x.2.1 x.2.2.1 x.2.2.2.1 x.2.2.2.2) (fun x=>d.length+1-x.2.2.1.toNat)
  (fun x=>∃ (i:Nat) (e:List Int),x=(((0:Nat):Int),(d.length:Int),(i:Int),e,s)∧e.Perm d)
  (fun r=>∃ e,r=(e,s)∧e.Perm d) (x:=(((0:Nat):Int),(d.length:Int),((1:Nat):Int),d,s)) ⟨1,d,rfl,.refl _⟩
  (by show d.length+1-((1:Nat):Int).toNat < _; omega) (by
   rintro x ⟨i,e,rfl,he⟩;have hn:e.length=d.length:=he.length_eq;show(∃ s',pQ P19 pP ((0:Nat):Int) (d.length:Int) (i:Int) e s=_∧_)∨∃ z,pQ P19 pP ((0:Nat):Int) (d.length:Int) (i:Int) e s=_∧_;unfold pQ;by_cases c:i < d.length
   ·left;obtain⟨e',h1,h2⟩:=M4 hs (fun x hx=>hd x (he.mem_iff.1 hx)) (a:=0) (b:=d.length) (i:=i) (j:=i) (d:=e) (by omega) (by omega);rw[b7 c,cond_true,h1,an];show ∃ s',aq (au .i64 ((i:Int)+1)) _=_∧_;rw[aw (bH (by omega))];refine⟨_,rfl,⟨i+1,e',rfl,h2.trans he⟩,?_⟩;show d.length+1-((i:Int)+1).toNat < d.length+1-((i:Nat):Int).toNat;omega
   ·right;rw[show decide ((i:Int) < (d.length:Int))=false from decide_eq_false (by omega),cond_false];exact⟨_,rfl,e,rfl,he⟩)
 obtain⟨r,h1,e,rfl,h2⟩:=key;refine⟨e,?_,h2⟩;show JS P19 sE 0 (d.length:Int) d s=_;unfold JS;rw[aw (dU (by omega) (by omega)),show((0:Int)+1)=((1:Nat):Int)from rfl,show sE (0,(d.length:Int),((1:Nat):Int),d,s)=_ from h1];rfl
theorem M6:∀ n:Nat,n≤7→∃ r:Int,P34 (n:Int)=some r
 | 0,_=>⟨0,by kernel_rfl⟩
 | 1,_=>⟨1,by kernel_rfl⟩
 | 2,_=>⟨2,by kernel_rfl⟩
 | 3,_=>⟨2,by kernel_rfl⟩
 | 4,_=>⟨3,by kernel_rfl⟩
 | 5,_=>⟨3,by kernel_rfl⟩
 | 6,_=>⟨3,by kernel_rfl⟩
 | 7,_=>⟨3,by kernel_rfl⟩
 | n+8,h=>by omega
theorem ED {s d:List Int}(hs:oI s)(hd:sR s d)(hl:d.length≤7):∃ d',P18 (d,s)=some (d',s)∧d'.Perm d:=by
 obtain⟨d',h1,h2⟩:=M5 hs hd (by omega);obtain⟨r,hr⟩:=M6 d.length hl;have e75:Ck (0,(d.length:Int),r,d,s)=some (d',s):=by
  have eL:sG (0,(d.length:Int),r,true,true,d,s)=some (d',s):=by
   refine uh ?_;have g:decide ((d.length:Int)-0≤12)=true:=by simp; omega
   have f:au .i64 ((d.length:Int)-0)=true:=dU (by omega) (by omega);show sF qW wa 0 (d.length:Int) r true true d s=_;unfold sF;rw[f,dl,g,cond_true,h1];rfl
  show JT qW sG 0 (d.length:Int) r d s=_;unfold JT;rw[eL]; rfl
 refine⟨d',?_,h2⟩;show JU P34 Ck d s=_;unfold JU;rw[aw (FY (by omega) (by omega)),hr,an,e75];rfl
theorem EE (l:List Int)(x:Int)(hl:l.length≤1000):P35 (l,x)=some (decide (x∈l)):=by
 have key:∃ z,P51 (l,x)=some z∧decide (0≤z)=decide (x∈l):=by
  rcases fW (step:=fun x=>Cn x.1 x.2.1 x.2.2.1 x.2.2.2) l.length (fun k=>(l,x,(l.length:Int),(k:Int))) (fun k=>decide (x=gt l k)) (fun k=>Sum.inl (k:Int)) (Sum.inr ())
   (fun k hk _=>by
    show nG l x (l.length:Int) (k:Int)=_;unfold nG;rw[b7 hk,cond_true,aw (aF hk),dn];cases decide (x=gt l k)with
    | true=>rfl
    | false=>rw[cond_false,aw (bH (by omega))]; rfl)
   (fun _=>by
    show nG l x (l.length:Int) (l.length:Int)=_;unfold nG;rw[dm,cond_false]) (by omega)with⟨k,h1,h2,h3,h4⟩ | ⟨h3,h4⟩
  ·refine⟨(k:Int),?_,?_⟩
   ·show Fp nH l x=_;unfold Fp;rw[show nH (l,x,(↑(List.length l):Int),0)=_ from h4];rfl
   ·rw[decide_eq_true (by omega)]
    symm
    rw[decide_eq_true_eq,of_decide_eq_true h2];exact mm h1
  ·refine⟨-1,?_,?_⟩
   ·show Fp nH l x=_;unfold Fp;rw[show nH (l,x,(↑(List.length l):Int),0)=_ from h4];rfl
   ·symm
    rw[show decide ((0:Int) ≤ -1)=false from rfl,decide_eq_false_iff_not];intro hm;obtain⟨k,hk,e⟩:=kg hm;have:=of_decide_eq_false (h3 k hk);exact this e.symm
 obtain⟨z,e1,e2⟩:=key;show JX P51 l x=_;unfold JX;rw[e1,an,e2]
theorem EF (l:List Int)(hl:l.length≤1000):qX l=some l:=by
 show JV l=_;unfold JV;rw[aw (dH (by simp; omega)),List.nil_append];exact qU l _ rfl
theorem oJ (x a b:Int):P17 (x,a,b)=some (wi x a b):=sd x a b
theorem oK (x a b:Int):P25 (x,a,b)=some (wi x a b):=sd x a b
theorem EG (n:Int):P31 n=some (!wi n 1 12):=by
 show JB P17 n=_;unfold JB;rw[oJ];rfl
theorem EH (n:Int):P16 n=some (!wi n 1 12):=by
 show JQ P17 n=_;unfold JQ;rw[oJ];rfl
def CL (h:List Int×Int):Bool:=dT h.1.length (fun k=>wi (gt h.1 k) 1 12)&&wi (h.1.length:Int) 1 6&&wi h.2 1 600
theorem EI (h:List Int×Int)(hl:h.1.length≤9223372036854775807):Cu h=some (CL h):=by
 show J0 P25 sM h=_;unfold J0;have e:sM (0,h)=some (cond (dT h.1.length (fun k=>wi (gt h.1 k) 1 12)) (Sum.inr h) (Sum.inl (false,h))):=by
  refine nw (step:=fun x=>Ct x.1 x.2) h.1.length (fun k=>((k:Int),h)) (fun k=>wi (gt h.1 k) 1 12) _ _ (fun k hk=>?_) ?_ (by omega)
  ·show nK P25 (k:Int) h=_;unfold nK;rw[show decide ((k:Int) < (↑(List.length h.1):Int))=true from b7 hk,cond_true,aw (aF hk),dn,oK,an];cases wi (gt h.1 k) 1 12 with
   | false=>rfl
   | true=>rw[Bool.not_true,cond_false,aw (bH (by omega))]; rfl
  ·show nK P25 (h.1.length:Int) h=_;unfold nK;rw[show decide ((h.1.length:Int) < (↑(List.length h.1):Int))=false from dm _,cond_false]
 rw[e];unfold CL;cases dT h.1.length (fun k=>wi (gt h.1 k) 1 12)with
 | false=>rfl
 | true=>
  show(P25 ((h.1.length:Int),1,6)).bind _=_;simp only[oK,an];cases wi (h.1.length:Int) 1 6 <;> cases wi h.2 1 600 <;> rfl
theorem wn (h:List Int×Int)(hl:h.1.length≤9223372036854775807):mG h=some (CL h):=by
 have e74:∃ z,P32 h.1=some z∧decide (0≤z)=!dT h.1.length (fun k=>wi (gt h.1 k) 1 12):=by
  rcases fW (step:=fun x=>Ag x.1 x.2.1 x.2.2) h.1.length (fun k=>(h.1,(h.1.length:Int),(k:Int))) (fun k=>!wi (gt h.1 k) 1 12) (fun k=>Sum.inl (k:Int)) (Sum.inr ())
   (fun k hk _=>by
    show nz P31 h.1 (h.1.length:Int) (k:Int)=_;unfold nz;rw[b7 hk,cond_true,aw (aF hk),dn,EG,an];cases wi (gt h.1 k) 1 12 with
    | false=>rfl
    | true=>rw[Bool.not_true,cond_false,aw (bH (by omega))]; rfl)
   (fun _=>by
    show nz P31 h.1 (h.1.length:Int) (h.1.length:Int)=_;unfold nz;rw[dm,cond_false]) (by omega)with⟨k,h1,h2,h3,h4⟩ | ⟨h3,h4⟩
  ·refine⟨(k:Int),?_,?_⟩
   ·show E7 P31 nA h.1=_;unfold E7;rw[show nA (h.1,(↑(List.length h.1):Int),0)=_ from h4];rfl
   ·rw[decide_eq_true (by omega)]
    symm
    rw[Bool.not_eq_true',← Bool.not_eq_true];intro ha;have:=bM.1 ha k h1;rw[this]at h2;cases h2
  ·refine⟨-1,?_,?_⟩
   ·show E7 P31 nA h.1=_;unfold E7;rw[show nA (h.1,(↑(List.length h.1):Int),0)=_ from h4];rfl
   ·symm
    rw[show decide ((0:Int) ≤ -1)=false from rfl,Bool.not_eq_false'];exact bM.2 fun k hk=>by have:=h3 k hk; simpa using this
 obtain⟨z,e1,e2⟩:=e74;have e58:P15 h.1=some (!dT h.1.length (fun k=>wi (gt h.1 k) 1 12)):=by
  show JD P32 h.1=_;unfold JD;rw[e1,an,e2]
 show JE P17 P15 h=_;unfold JE CL;rw[oJ,an,e58];simp only[oJ,an];cases wi (h.1.length:Int) 1 6 <;> cases dT h.1.length (fun k=>wi (gt h.1 k) 1 12) <;> cases wi h.2 1 600 <;> rfl
theorem pX (l:List Int)(hl:l.length≤9223372036854775807):eV l=some (!dT l.length (fun k=>wi (gt l k) 1 12)):=by
 have e74:∃ z,P32v1 l=some z∧decide (0≤z)=!dT l.length (fun k=>wi (gt l k) 1 12):=by
  rcases fW (step:=fun x=>sC x.1 x.2.1 x.2.2) l.length (fun k=>(l,(l.length:Int),(k:Int))) (fun k=>!wi (gt l k) 1 12) (fun k=>Sum.inl (k:Int)) (Sum.inr ())
   (fun k hk _=>by
    show gZ P16 l (l.length:Int) (k:Int)=_;unfold gZ;rw[b7 hk,cond_true,aw (aF hk),dn,EH,an];cases wi (gt l k) 1 12 with
    | false=>rfl
    | true=>rw[Bool.not_true,cond_false,aw (bH (by omega))]; rfl)
   (fun _=>by
    show gZ P16 l (l.length:Int) (l.length:Int)=_;unfold gZ;rw[dm,cond_false]) (by omega)with⟨k,h1,h2,h3,h4⟩ | ⟨h3,h4⟩
  ·refine⟨(k:Int),?_,?_⟩
   ·show nF P16 hG l=_;unfold nF;rw[show hG (l,(↑(List.length l):Int),0)=_ from h4];rfl
   ·rw[decide_eq_true (by omega)]
    symm
    rw[Bool.not_eq_true',← Bool.not_eq_true];intro ha;have:=bM.1 ha k h1;rw[this]at h2;cases h2
  ·refine⟨-1,?_,?_⟩
   ·show nF P16 hG l=_;unfold nF;rw[show hG (l,(↑(List.length l):Int),0)=_ from h4];rfl
   ·symm
    rw[show decide ((0:Int) ≤ -1)=false from rfl,Bool.not_eq_false'];exact bM.2 fun k hk=>by have:=h3 k hk; simpa using this
 obtain⟨z,e1,e2⟩:=e74;show sD P32v1 l=_;unfold sD;rw[e1,an,e2]
theorem EJ (l:List Int)(hl:l.length≤9223372036854775807):Cz l=some (dT l.length (fun k=>wi (gt l k) 1 12)&&decide (l.length≤12)):=by
 show J2 P25 sN l=_;unfold J2;have e:sN (l,0)=some (cond (dT l.length (fun k=>wi (gt l k) 1 12)) (Sum.inr l) (Sum.inl false)):=by
  refine nw (step:=fun x=>Cy x.1 x.2) l.length (fun k=>(l,(k:Int))) (fun k=>wi (gt l k) 1 12) _ _ (fun k hk=>?_) ?_ (by omega)
  ·show nL P25 l (k:Int)=_;unfold nL;rw[b7 hk,cond_true,aw (aF hk),dn,oK,an];cases wi (gt l k) 1 12 with
   | false=>rfl
   | true=>rw[Bool.not_true,cond_false,aw (bH (by omega))]; rfl
  ·show nL P25 l (l.length:Int)=_;unfold nL;rw[dm,cond_false]
 rw[e];cases dT l.length (fun k=>wi (gt l k) 1 12)with
 | false=>rfl
 | true=>show some (decide ((l.length:Int)≤12))=_; rw[Bool.true_and,Bool.eq_iff_iff.2 (show decide ((l.length:Int)≤12)=true↔decide (l.length≤12)=true by simp; omega)]
def nI (l:List Nat):List Int:=List.map (fun(k:Nat)=>(k:Int)) l
theorem nO (x:Int)(l:List Int):pj (x::l) 1 ((x::l).length:Int)=l:=by
 unfold pj;rw[show((1:Int)).toNat=1 from rfl,List.drop_succ_cons,List.drop_zero,List.take_of_length_le (by simp)]
def pY (l:List Int):Prop:=∀ k,k < l.length→0≤gt l k∧gt l k≤12
theorem km {l:List Int}{g:Int}{r:Nat}(h:pY l)(hr:r < l.length)(hg:0≤g)(h2:g≤gt l r):pY (take1 l g r):=fun k hk=>by
 rw[bp]at hk;rw[b8 hr];have:=h k hk;have:=h r hr;split <;> omega
theorem rd {l:List Int}{g:Int}{r:Nat}(hr:r < l.length):(take1 l g r).set r (gt l r)=l:=by
 refine qT (by simp[take1]) fun i hi=>?_;have hr':r < (take1 l g r).length:=by rwa [bp]
 rw[kh _ _ _ _ hr',b8 hr];by_cases e:r=i
 ·subst e; simp
 ·simp[e]
def asg (s rows:List Int)(od:List Nat):List (Int×Nat):=od.map fun k=>(gt s k,(gt rows k).toNat)
def EK (s left rows:List Int)(od:List Nat)(z:Bool×List Int×List Int×List Int):Prop:=
 z.2.1=s∧z.2.2.1.length=left.length∧z.2.2.2.length=rows.length∧(∀ k,k∉od→gt z.2.2.2 k=gt rows k) ∧
  ((z.1=false∧z.2.2.1=left∧¬ ic left (od.map (gt s)))∨(z.1=true∧(∀ k∈od,0≤gt z.2.2.2 k)∧∃ X,qg left (asg s z.2.2.2 od)=some X))
theorem wo {s:List Int}(hs:oI s):∀ (od:List Nat),od.length≤7→(∀ k∈od,k < s.length)→od.Nodup→∀ (n:Nat) (left rows:List Int),od.length < n→pY left→left.length≤30→rows.length=s.length →
  ∃ z,R21v1 n (nI od,s,left,rows)=some z∧EK s left rows od z:=by
 intro od
 induction od with
 | nil=>
  intro _ _ _ n left rows hn h1 h2 h3;obtain⟨n,rfl⟩:∃ m,n=m+1:=⟨n-1,by simp at hn; omega⟩;exact⟨(true,s,left,rows),rfl,rfl,rfl,rfl,fun _ _=>rfl,.inr ⟨rfl,fun k hk=>by simp at hk,left,rfl⟩⟩
 | cons g od ih=>
  intro q1 q2 q3 n left rows hn h1 h2 h3;obtain⟨n,rfl⟩:∃ m,n=m+1:=⟨n-1,by simp at hn; omega⟩;simp only[List.length_cons]at q1 hn;have hg:g < s.length:=q2 g (by simp);have hsg:=hs g hg;have qn:g∉od∧od.Nodup:=by simpa using q3
  have key:=eF (step:=fun x=>sL (R21v1 n) x.1 x.2.1 x.2.2.1 x.2.2.2.1 x.2.2.2.2.1 x.2.2.2.2.2.1 x.2.2.2.2.2.2.1 x.2.2.2.2.2.2.2) (fun x=>left.length-x.2.2.2.1.toNat)
   (fun x=>∃ (i:Nat) (tried rw:List Int),x=(nI (g::od),(g:Int),(left.length:Int),(i:Int),s,tried,left,rw)∧i≤left.length∧tried.length≤i∧rw.length=rows.length ∧
    (∀ k,k∉g::od→gt rw k=gt rows k)∧(∀ j,j < i→¬ (gt s g≤gt left j∧ic (take1 left (gt s g) j) (od.map (gt s))))∧∀ x∈tried,∃ j,j < i∧gt left j=x∧gt s g≤gt left j)
   (fun r=>(∃ z,r=Sum.inl z∧EK s left rows (g::od) z∧z.1=true)∨∃ rw,r=Sum.inr (s,left,rw)∧EK s left rows (g::od) (false,s,left,rw))
   (x:=(nI (g::od),(g:Int),(left.length:Int),((0:Nat):Int),s,[],left,rows)) ⟨0,[],rows,rfl,Nat.zero_le _,Nat.le_refl _,rfl,fun _ _=>rfl,fun j hj=>by omega,fun x hx=>by simp at hx⟩
   (by show left.length-((0:Nat):Int).toNat < _; omega) (by
    rintro x ⟨i,tried,rw,rfl,hi,ht,hw,hk,hno,htr⟩;show(∃ s',q21v1_0 P35 (R21v1 n) (nI (g::od)) (g:Int) (left.length:Int) (i:Int) s tried left rw=_∧_)∨∃ z,q21v1_0 P35 (R21v1 n) (nI (g::od)) (g:Int) (left.length:Int) (i:Int) s tried left rw=_∧_;unfold q21v1_0;by_cases c:i < left.length
    ·have hmu:left.length-((i:Int)+1).toNat < left.length-((i:Nat):Int).toNat:=by omega
     rw[b7 c,cond_true,aw (aF c),aw (aF hg),dn,dn];by_cases c1:gt left i < gt s g
     ·left;rw[decide_eq_true c1,cond_true,aw (bH (by omega))];refine⟨_,rfl,⟨i+1,tried,rw,rfl,c,by omega,hw,hk,fun j hj=>?_,fun x hx=>?_⟩,hmu⟩
      ·by_cases e:j=i
       ·subst e; rintro⟨a,_⟩; omega
       ·exact hno j (by omega)
      ·obtain⟨j,a,b⟩:=htr x hx; exact⟨j,by omega,b⟩
     ·have c1':gt s g≤gt left i:=by omega
      rw[decide_eq_false c1,cond_false,EE _ _ (by omega),an];by_cases c2:gt left i∈tried
      ·left;rw[decide_eq_true c2,cond_true,aw (bH (by omega))];refine⟨_,rfl,⟨i+1,tried,rw,rfl,c,by omega,hw,hk,fun j hj=>?_,fun x hx=>?_⟩,hmu⟩
       ·by_cases e:j=i
        ·subst e;rintro⟨_,b⟩;obtain⟨j',a1,a2,a3⟩:=htr _ c2;exact hno j' a1 ⟨a3,mu c (by omega) a2.symm b⟩
        ·exact hno j (by omega)
       ·obtain⟨j,a,b⟩:=htr x hx; exact⟨j,by omega,b⟩
      ·have b1:=h1 i c;have hgr:g < rw.length:=by omega
       have e1:left.set i (gt left i-gt s g)=take1 left (gt s g) i:=rfl;rw[decide_eq_false c2,cond_false,aw (dH (by simp; omega)),aw (aF c),aw (aF hg),aw (dU (by omega) (by omega)),aw (aF c),aw (aF hgr),show decide ((0:Int)≤1)=true from rfl,dl,
        show decide ((1:Int)≤((nI (g::od)).length:Int))=true from decide_eq_true (by simp[nI]; omega),dl,decide_eq_true (Int.le_refl _),dl,
        show pj (nI (g::od)) 1 ((nI (g::od)).length:Int)=nI od from nO _ _,Int.toNat_natCast,Int.toNat_natCast,e1]
       obtain⟨z,e2,z1,z2,z3,z4,z5⟩:=ih (by omega) (fun k hk=>q2 k (by simp[hk])) qn.2 n (take1 left (gt s g) i) (rw.set g (i:Int)) (by omega) (km h1 c (by omega) c1') (by rwa [bp]) (by rw[List.length_set]; omega);rw[e2,an];rw[bp]at z2;rw[List.length_set]at z3;have zk:∀ k,k∉g::od→gt z.2.2.2 k=gt rows k:=fun k hk'=>by
        rw[List.mem_cons,not_or]at hk';rw[z4 k hk'.2,kh _ _ _ _ hgr,if_neg (Ne.symm hk'.1)];exact hk k (by rw[List.mem_cons,not_or]; exact hk')
       rcases z5 with⟨a1,a2,a3⟩ | ⟨a1,a2,X,a3⟩
       ·left;rw[a1,cond_false,a2,aw (aF (by rwa [bp])),aw (bH (by omega)),z1,rd c];refine⟨_,rfl,⟨i+1,tried++[gt left i],z.2.2.2,rfl,c,by simp; omega,by omega,zk,fun j hj=>?_,fun x hx=>?_⟩,hmu⟩
        ·by_cases e:j=i
         ·subst e; exact fun b=>a3 b.2
         ·exact hno j (by omega)
        ·rcases List.mem_append.1 hx with hx | hx
         ·obtain⟨j,a,b⟩:=htr x hx; exact⟨j,by omega,b⟩
         ·rw[List.mem_singleton.1 hx]; exact⟨i,by omega,rfl,c1'⟩
       ·right;rw[a1,cond_true];have eg:gt z.2.2.2 g=(i:Int):=by rw[z4 g qn.1,kh _ _ _ _ hgr,if_pos rfl]
        refine⟨_,rfl,.inl ⟨(true,z.2.1,z.2.2.1,z.2.2.2),rfl,⟨z1,z2,z3.trans hw,zk,.inr ⟨rfl,fun k hk'=>?_,X,?_⟩⟩,rfl⟩⟩
        ·rcases List.mem_cons.1 hk' with e | hk'
         ·rw[e,eg]; omega
         ·exact a2 k hk'
        ·show qg left ((gt s g,(gt z.2.2.2 g).toNat)::asg s z.2.2.2 od)=some X;rw[eg,Int.toNat_natCast];simp only[qg];rw[if_pos ⟨c,c1'⟩];exact a3
    ·right;obtain rfl:i=left.length:=by omega
     rw[dm,cond_false];refine⟨_,rfl,.inr ⟨rw,rfl,rfl,rfl,hw,hk,.inl ⟨rfl,rfl,?_⟩⟩⟩;rintro⟨r,a1,a2,a3⟩;exact hno r a1 ⟨a2,a3⟩)
  obtain⟨r,k1,k2⟩:=key;show ∃ z,q21v1 P35 (R21v1 n) (L21v1_0 (R21v1 n)) (nI (g::od)) s left rows=some z∧_;unfold q21v1;rw[show decide (((nI (g::od)).length:Int)=0)=false from decide_eq_false (by simp[nI]; omega),cond_false,aw (show bv (0:Int) (nI (g::od)).length=true from aF (k:=0) (by simp[nI])),
   show ix (nI (g::od)) (0:Int)=(g:Int)from rfl,show L21v1_0 (R21v1 n) (nI (g::od),(g:Int),(left.length:Int),0,s,[],left,rows)=some r from k1,an]
  rcases k2 with⟨z,rfl,k3,k4⟩ | ⟨rw,rfl,k3⟩
  ·exact⟨_,rfl,k3⟩
  ·exact⟨_,rfl,k3⟩
def ww:List Int→List (Int×Int)→Prop
 | _,[]=>True
 | l,(g,r)::A=>0≤r∧r.toNat < l.length∧g≤gt l r.toNat∧ww (take1 l g r.toNat) A
theorem sS {A:List (Int×Int)}:∀ {l:List Int},ww l A↔(∀ a∈A,0≤a.2)∧∃ X,qg l (A.map fun a=>(a.1,a.2.toNat))=some X:=by
 induction A with
 | nil=>intro l; exact⟨fun _=>⟨fun a ha=>by simp at ha,l,rfl⟩,fun _=>trivial⟩
 | cons a A ih=>
  intro l;obtain⟨g,r⟩:=a;constructor
  ·rintro⟨h1,h2,h3,h4⟩;obtain⟨k1,X,k2⟩:=ih.1 h4;refine⟨fun a ha=>?_,X,?_⟩
   ·rcases List.mem_cons.1 ha with e | ha
    ·rw[e]; exact h1
    ·exact k1 a ha
   ·simp only[List.map_cons,qg];rw[if_pos ⟨h2,h3⟩]; exact k2
  ·rintro⟨h1,X,h2⟩;simp only[List.map_cons,qg]at h2;split at h2
   ·rename_i c;exact⟨h1 (g,r) (by simp),c.1,c.2,ih.2 ⟨fun a ha=>h1 a (by simp[ha]),X,h2⟩⟩
   ·cases h2
theorem sT {l:List Int}{i:Nat}(h:i < l.length):l.drop i=gt l i::l.drop (i+1):=by
 rw[eT h,List.drop_eq_getElem_cons h]
theorem Jj {h:List Int×Int}{s rows:List Int}(hs:oI s)(hh:pY h.1)(hl:h.1.length≤30)(hsl:s.length≤1000)(hr:rows.length≤4611686018427387903):
  ∃ b,P8 (h,s,rows)=some b∧(b=true↔rows.length=s.length∧ww h.1 (s.zip rows)):=by
 have key:=eF (step:=fun x=>Ig x.1 x.2.1 x.2.2.1 x.2.2.2) (fun x=>s.length-x.2.2.1.toNat)
  (fun x=>∃ (i:Nat) (left:List Int),x=(s,rows,(i:Int),left)∧i≤s.length∧i≤rows.length∧left.length=h.1.length∧pY left∧(ww h.1 (s.zip rows)↔ww left ((s.drop i).zip (rows.drop i))))
  (fun r=>(∃ y,r=Sum.inl (false,y)∧¬ ww h.1 (s.zip rows))∨∃ y,r=Sum.inr (s,rows,y)∧ww h.1 (s.zip rows))
  (x:=(s,rows,((0:Nat):Int),h.1)) ⟨0,h.1,rfl,Nat.zero_le _,Nat.zero_le _,rfl,hh,Iff.rfl⟩ (by show s.length-((0:Nat):Int).toNat < _; omega) (by
   rintro x ⟨i,left,rfl,i1,i2,i3,i4,i5⟩;show(∃ s',q8_0 P25 s rows (i:Int) left=_∧_)∨∃ z,q8_0 P25 s rows (i:Int) left=_∧_;unfold q8_0;by_cases c1:i < rows.length
   ·rw[b7 c1,cond_true];by_cases c2:i < s.length
    ·have hd:(s.drop i).zip (rows.drop i)=(gt s i,gt rows i)::(s.drop (i+1)).zip (rows.drop (i+1)):=by rw[sT c1,sT c2]; rfl
     rw[hd]at i5;rw[b7 c2,cond_true,aw (aF c1),aw (dU (by omega) (by omega)),dn,oK,an];cases hw:wi (gt rows i) 0 ((left.length:Int)-1)with
     | false=>
      right;refine⟨_,rfl,.inl ⟨_,rfl,fun hc=>?_⟩⟩;obtain⟨a1,a2,_⟩:=i5.1 hc;have:wi (gt rows i) 0 ((left.length:Int)-1)=true:=gK.2 ⟨a1,by omega⟩;rw[hw]at this;cases this
     | true=>
      have hw':=gK.1 hw;obtain⟨r,er⟩:∃ r:Nat,gt rows i=(r:Int):=⟨(gt rows i).toNat,by omega⟩;have hrl:r < left.length:=by omega
      have b1:=i4 r hrl;have b2:=hs i c2;have e1:left.set r (gt left r-gt s i)=take1 left (gt s i) r:=rfl;have e2:gt (take1 left (gt s i) r) r=gt left r-gt s i:=by rw[b8 hrl,if_pos rfl]
      rw[Bool.not_true,cond_false,aw (aF c1),er,aw (aF hrl),aw (aF c2),dn,dn,aw (dU (by omega) (by omega)),aw (aF hrl),aw (aF c1),Int.toNat_natCast,e1,aw (aF (by rwa [bp])),dn,e2];by_cases c3:gt left r-gt s i < 0
      ·right;rw[decide_eq_true c3,cond_true];refine⟨_,rfl,.inl ⟨_,rfl,fun hc=>?_⟩⟩;obtain⟨_,_,a3,_⟩:=i5.1 hc;rw[er,Int.toNat_natCast]at a3;omega
      ·left;rw[decide_eq_false c3,cond_false,aw (bH (by omega))];refine⟨_,rfl,⟨i+1,take1 left (gt s i) r,rfl,c2,c1,by rw[bp]; exact i3,km i4 hrl (by omega) (by omega),i5.trans ?_⟩,by show s.length-((i:Int)+1).toNat < s.length-((i:Nat):Int).toNat; omega⟩;simp only[ww,er,Int.toNat_natCast];exact⟨fun a=>a.2.2.2,fun a=>⟨by omega,hrl,by omega,a⟩⟩
    ·right;rw[show decide ((i:Int) < (s.length:Int))=false from decide_eq_false (by omega),cond_false];refine⟨_,rfl,.inr ⟨_,rfl,i5.2 ?_⟩⟩;rw[List.drop_eq_nil_of_le (by omega:s.length≤i)]
     trivial
   ·right;rw[show decide ((i:Int) < (rows.length:Int))=false from decide_eq_false (by omega),cond_false];refine⟨_,rfl,.inr ⟨_,rfl,i5.2 ?_⟩⟩;rw[List.drop_eq_nil_of_le (by omega:rows.length≤i)];cases s.drop i <;> trivial)
 obtain⟨r,k1,k2⟩:=key;have e:P8 (h,s,rows)=Sum.elim (fun(y3:Bool×(List Int))=>some y3.1) (fun(y4:(List Int)×(List Int)×(List Int))=>some (decide ((↑(List.length y4.2.1):Int)=(↑(List.length y4.1):Int)))) r:=by
  show q8 P25 yW h s rows=_;unfold q8;rw[aw (dH (by simp; omega)),List.nil_append,show yW (s,rows,0,h.1)=some r from k1,an]
 rcases k2 with⟨y,rfl,k3⟩ | ⟨y,rfl,k3⟩
 ·exact⟨false,e,by simp[k3]⟩
 ·refine⟨_,e,?_⟩;rw[decide_eq_true_eq];exact⟨fun h=>⟨by have h':(rows.length:Int)=(s.length:Int):=h; omega,k3⟩,fun h=>by show(rows.length:Int)=(s.length:Int); rw[h.1]⟩
theorem zp {l s rows:List Int}(h:rows.length=s.length)(hk:ww l (s.zip rows)):ic l s:=by
 obtain⟨_,X,h2⟩:=sS.1 hk;refine wm.2 ⟨rows.map Int.toNat,by simpa using h,X,?_⟩;rw[← h2];congr 1;rw[List.zip_map_right];rfl
theorem zq (s:List Int):(List.range s.length).map (gt s)=s:=by
 refine qT (by simp) fun i hi=>?_;have hi':i < s.length:=by simpa using hi
 rw[eT hi,List.getElem_map,List.getElem_range]
theorem EL (h:List Int×Int)(s:List Int)(hs:s.length≤1000):wc ((s.length:Int),0,h,s,[])=some (h,s,nI (List.range s.length)):=by
 refine(fD (step:=fun x=>H5 x.1 x.2.1 x.2.2.1 x.2.2.2.1 x.2.2.2.2) s.length (fun k=>((s.length:Int),(k:Int),h,s,nI (List.range k))) (h,s,nI (List.range s.length)) (fun k hk=>?_) ?_ (by omega))
 ·show tV mG eV P18 qX eW (s.length:Int) (k:Int) h s (nI (List.range k))=_;unfold tV;rw[b7 hk,cond_true,aw (dH (by simp[nI]; omega)),aw (bH (by omega))]
  simp[nI,List.range_succ]
 ·show tV mG eV P18 qX eW (s.length:Int) (s.length:Int) h s (nI (List.range s.length))=_;unfold tV;rw[dm,cond_false]
theorem Jk {h:List Int×Int}{s:List Int}(hh:CL h=true)(ha:dT s.length (fun k=>wi (gt s k) 1 12)=true)(hl:s.length≤7):
  ∃ e l,P6 (h,s)=some (e,l)∧((e=3∧l=[]∧¬ ic h.1 s)∨(e=0∧l.length=s.length∧ww h.1 (s.zip l))):=by
 have hs:oI s:=fun k hk=>by have:=bM.1 ha k hk; exact gK.1 this
 have hh':=hh;simp only[CL,Bool.and_eq_true,gK]at hh';have hr:pY h.1:=fun k hk=>by have:=gK.1 (bM.1 hh'.1.1 k hk); omega
 have hidx:sR s (nI (List.range s.length)):=fun x hx=>by
  obtain⟨k,hk,rfl⟩:=List.mem_map.1 hx;exact⟨k,List.mem_range.1 hk,rfl⟩
 obtain⟨d,e61,hp⟩:=ED (d:=nI (List.range s.length)) hs hidx (by simp[nI]; omega);obtain⟨od,rfl,hq⟩:∃ od:List Nat,d=nI od∧od.Perm (List.range s.length):=by
  refine⟨d.map Int.toNat,?_,?_⟩
  ·unfold nI;rw[List.map_map];refine(List.map_id' d).symm.trans (List.map_congr_left fun x hx=>?_);obtain⟨k,hk,rfl⟩:=hidx x (hp.mem_iff.1 hx)
   simp
  ·have:=hp.map Int.toNat
   unfold nI at this;rw[List.map_map,show(Int.toNat ∘ fun(k:Nat)=>(k:Int))=id from funext fun k=>Int.toNat_natCast k,List.map_id]at this;exact this
 have hol:od.length=s.length:=by rw[hq.length_eq,List.length_range]
 obtain⟨z,e64,z1,z2,z3,z4,z5⟩:=wo hs od (by omega) (fun k hk=>List.mem_range.1 (hq.mem_iff.1 hk)) (hq.nodup_iff.2 List.nodup_range) 18446744073709551616 h.1 (List.replicate s.length 0) (by omega) hr (by omega) (by simp);have e:P6 (h,s)=cond (!z.1) (some ((3:Int),([]:List Int))) (some ((0:Int),z.2.2.2)):=by
  show q6 mG eV P18 qX eW wc h s=_;unfold q6;rw[wn h (by omega),hh,an,Bool.not_true,cond_false,show decide ((12:Int) < (↑(List.length s):Int))=false from decide_eq_false (by omega),cond_false,pX s (by omega),ha,an,Bool.not_true,cond_false,EL h s (by omega),an];show(P18 (nI (List.range s.length),s)).bind _=_;rw[e61,an];show aq (decide ((0:Int)≤(↑(List.length s):Int))) (aq (decide ((8:Int)*(↑(List.length s):Int)≤140737488355328)) ((qX h.1).bind fun(r5:List Int)=>(aq (decide ((0:Int)≤(↑(List.length s):Int))) (aq (decide ((8:Int)*(↑(List.length s):Int)≤140737488355328)) ((eW (nI od,s,r5,(dF (Int.toNat (↑(List.length s):Int)) (0:Int):List Int))).bind _)))))=_;rw[show decide ((0:Int)≤(↑(List.length s):Int))=true from decide_eq_true (by omega),dl,show decide ((8:Int)*(↑(List.length s):Int)≤140737488355328)=true from decide_eq_true (by omega),dl,EF _ (by omega),an,dl,dl,Int.toNat_natCast,
   show eW (nI od,s,h.1,dF s.length (0:Int))=some z from e64,an]
 rcases z5 with⟨a1,a2,a3⟩ | ⟨a1,a2,X,a3⟩
 ·refine⟨3,[],by rw[e,a1]; rfl,.inl ⟨rfl,rfl,fun hc=>a3 ?_⟩⟩;refine ug (?_:s.Perm (od.map (gt s))) (fun g hg=>?_) hc
  ·have:=hq.map (gt s);rw[zq]at this;exact this.symm
  ·obtain⟨k,hk,rfl⟩:=kg hg;have:=hs k hk;omega
 ·have hzl:z.2.2.2.length=s.length:=by rw[z3,List.length_replicate]
  refine⟨0,z.2.2.2,by rw[e,a1]; rfl,.inr ⟨rfl,hzl,sS.2 ⟨fun a ha=>?_,X,?_⟩⟩⟩
  ·obtain⟨k,hk,e⟩:=kg (List.of_mem_zip ha).2;rw[← e];exact a2 k (hq.mem_iff.2 (List.mem_range.2 (by omega)))
  ·have hA:(asg s z.2.2.2 od).Perm ((s.zip z.2.2.2).map fun a=>(a.1,a.2.toNat)):=by
    refine(hq.map fun k=>(gt s k,(gt z.2.2.2 k).toNat)).trans (List.Perm.of_eq ?_);apply List.ext_getElem
    ·simp[hzl]
    ·intro i i1 i2;have i3:i < s.length:=by simpa using i1
     simp[eT i3,eT (show i < z.2.2.2.length by omega)]
   refine wl hA (fun x hx=>?_) a3;obtain⟨k,hk,rfl⟩:=List.mem_map.1 hx;have:=hs k (List.mem_range.1 (hq.mem_iff.1 hk));show 0≤gt s k;omega
theorem EM (l:List Int)(x:Int)(hl:l.length≤1000):P36 (l,x)=some (decide (x∈l)):=by
 show J4 pR l x=_;unfold J4;rcases fW (step:=fun x=>CC x.1 x.2.1 x.2.2) l.length (fun k=>(l,x,(k:Int))) (fun k=>decide (gt l k=x)) (fun k=>Sum.inl true) (Sum.inr ())
   (fun k hk _=>by
    show nM l x (k:Int)=_;unfold nM;rw[b7 hk,cond_true,aw (aF hk),dn];cases decide (gt l k=x)with
    | true=>rfl
    | false=>rw[cond_false,aw (bH (by omega))]; rfl)
   (fun _=>by
    show nM l x (l.length:Int)=_;unfold nM;rw[dm,cond_false]) (by omega)with⟨k,h1,h2,h3,h4⟩ | ⟨h3,h4⟩
 ·rw[show pR (l,x,0)=_ from h4];show some true=_;rw[decide_eq_true (by rw[← of_decide_eq_true h2]; exact mm h1)]
 ·rw[show pR (l,x,0)=_ from h4];show some false=_;rw[decide_eq_false];intro hm;obtain⟨k,hk,e⟩:=kg hm;exact of_decide_eq_false (h3 k hk) e
theorem ui (l:List Int)(i:Nat):pj l 0 (i:Int)=l.take i:=by
 unfold pj
 simp
theorem EN:∀ (s:List Int),s.length≤7→oI s→∀ (n:Nat) (left:List Int),s.length < n→pY left→left.length≤30→∃ b,R24 n (left,s)=some b∧(b=true↔ic left s):=by
 intro s
 induction s with
 | nil=>
  intro _ _ n left hn h1 h2;obtain⟨n,rfl⟩:∃ m,n=m+1:=⟨n-1,by simp at hn; omega⟩;exact⟨true,rfl,fun _=>trivial,fun _=>rfl⟩
 | cons g s ih=>
  intro q1 q2 n left hn h1 h2;obtain⟨n,rfl⟩:∃ m,n=m+1:=⟨n-1,by simp at hn; omega⟩;simp only[List.length_cons]at q1 hn;have hsg:1≤g∧g≤12:=q2 0 (by simp);have hz:(0:Nat) < (g::s).length:=by simp
  have e0:ix (g::s) (0:Int)=g:=rfl;have i0:bv (0:Int) (g::s).length=true:=aF (k:=0) hz;have key:=eF (step:=fun x=>CE (R24 n) x.1 x.2.1 x.2.2) (fun x=>left.length-x.2.2.toNat)
   (fun x=>∃ (i:Nat),x=(left,g::s,(i:Int))∧i≤left.length∧∀ j,j < i→¬ (g≤gt left j∧ic (take1 left g j) s))
   (fun r=>(r=Sum.inl true∧ic left (g::s))∨(r=Sum.inr ()∧¬ ic left (g::s)))
   (x:=(left,g::s,((0:Nat):Int))) ⟨0,rfl,Nat.zero_le _,fun j hj=>by omega⟩
   (by show left.length-((0:Nat):Int).toNat < _; omega) (by
    rintro x ⟨i,rfl,hi,hno⟩;show(∃ s',q24_0 P36 (R24 n) left (g::s) (i:Int)=_∧_)∨∃ z,q24_0 P36 (R24 n) left (g::s) (i:Int)=_∧_;unfold q24_0;by_cases c:i < left.length
    ·have hmu:left.length-((i:Int)+1).toNat < left.length-((i:Nat):Int).toNat:=by omega
     have b1:=h1 i c;rw[b7 c,cond_true,aw (aF c),aw i0,dn,e0];by_cases c1:g≤gt left i
     ·rw[decide_eq_true c1,cond_true,decide_eq_true (Int.le_refl 0),dl,decide_eq_true (show(0:Int)≤(i:Int)by omega),dl,decide_eq_true (show(i:Int)≤(↑(List.length left):Int)by omega),dl,aw (aF c),ui,EM _ _ (by simp; omega),an];by_cases c2:gt left i∈left.take i
      ·left;rw[decide_eq_true c2,Bool.not_true,cond_false,aw (bH (by omega))];refine⟨_,rfl,⟨i+1,rfl,c,fun j hj=>?_⟩,hmu⟩;by_cases e:j=i
       ·subst e;rintro⟨_,b⟩;obtain⟨j',a1,a2⟩:=kg c2;have a3:j' < j:=by simp at a1; omega
        rw[xJ _ _ _ a3]at a2;exact hno j' a3 ⟨by omega,mu c (by omega) a2.symm b⟩
       ·exact hno j (by omega)
      ·have e1:left.set i (gt left i-g)=take1 left g i:=rfl;rw[decide_eq_false c2,Bool.not_false,cond_true,aw (dH (by simp; omega)),List.nil_append,aw (aF c),aw i0,dn,aw (dU (by omega) (by omega)),aw (aF c),show decide ((0:Int)≤1)=true from rfl,dl,
        show decide ((1:Int)≤(↑(List.length (g::s)):Int))=true from decide_eq_true (by simp; omega),dl,decide_eq_true (Int.le_refl _),dl,nO,Int.toNat_natCast,e1]
       obtain⟨b,e2,hb⟩:=ih (by omega) (fun k hk=>q2 (k+1) (by simp; omega)) n (take1 left g i) (by omega) (km h1 c (by omega) c1) (by rwa [bp]);rw[e2,an];cases b with
       | true=>
        right;rw[cond_true];exact⟨_,rfl,.inl ⟨rfl,i,c,c1,hb.1 rfl⟩⟩
       | false=>
        left;rw[cond_false,aw (bH (by omega))];refine⟨_,rfl,⟨i+1,rfl,c,fun j hj=>?_⟩,hmu⟩;by_cases e:j=i
        ·subst e;rintro⟨_,b⟩;exact Bool.false_ne_true (hb.2 b)
        ·exact hno j (by omega)
     ·left;rw[decide_eq_false c1,cond_false,aw (bH (by omega))];refine⟨_,rfl,⟨i+1,rfl,c,fun j hj=>?_⟩,hmu⟩;by_cases e:j=i
      ·subst e; rintro⟨a,_⟩; omega
      ·exact hno j (by omega)
    ·right;obtain rfl:i=left.length:=by omega
     rw[dm,cond_false];refine⟨_,rfl,.inr ⟨rfl,?_⟩⟩;rintro⟨r,a1,a2,a3⟩;exact hno r a1 ⟨a2,a3⟩)
  obtain⟨r,k1,k2⟩:=key;show ∃ b,q24 P36 (R24 n) (L24_0 (R24 n)) left (g::s)=some b∧_;unfold q24;rw[show decide ((↑(List.length (g::s)):Int)=0)=false from decide_eq_false (by simp; omega),cond_false,show L24_0 (R24 n) (left,g::s,0)=some r from k1,an];rcases k2 with⟨rfl,k3⟩ | ⟨rfl,k3⟩
  ·exact⟨true,rfl,fun _=>k3,fun _=>rfl⟩
  ·exact⟨false,rfl,fun h=>absurd h Bool.false_ne_true,fun h=>absurd h k3⟩
theorem eI:P4 ()=some true:=by kernel_rfl
noncomputable def wp (h:List Int×Int)(s:List Int):Option Bool:=
 (P6 (h,s)).bind fun(r5:Int×(List Int))=>(P7 (h,s)).bind fun(r6:Int)=>(
  cond (!decide (r5.1=r6)) (some false) (
  cond (!decide (r5.1=(0:Int))) (
  cond (decide ((0:Int) < (↑(List.length r5.2):Int))) (some false) (
  cond (!decide (r5.1=(0:Int))) ((P4 ()).bind fun(r7:Bool)=>(some r7)) (
  (P8 (h,s,r5.2)).bind fun(r8:Bool)=>(cond r8 ((P4 ()).bind fun(r9:Bool)=>(some r9)) (some false))))) (
  cond (!decide (r5.1=(0:Int))) ((P4 ()).bind fun(r10:Bool)=>(some r10)) (
  (P8 (h,s,r5.2)).bind fun(r11:Bool)=>(cond r11 ((P4 ()).bind fun(r12:Bool)=>(some r12)) (some false))))))
theorem zt (h:List Int×Int)(s:List Int)(l1:h.1.length≤30)(l2:s.length≤7∨12 < s.length)(l3:s.length≤30):wp h s=some true:=by
 unfold wp;have e6:P6 (h,s)=q6 mG eV P18 qX eW wc h s:=rfl;have e7:P7 (h,s)=q7 Cu Cz En h s:=rfl;unfold q6 at e6;unfold q7 at e7;rw[wn h (by omega),an]at e6;rw[EI h (by omega),an,EJ s (by omega),an]at e7;cases hh:CL h with
 | false=>
  rw[hh]at e6 e7;rw[e6,e7];simp only[Bool.not_false,cond_true,an,eI];rfl
 | true=>
  rw[hh,Bool.not_true,cond_false]at e6 e7;by_cases c:s.length≤12
  ·have c7:s.length≤7:=by omega
   cases ha:dT s.length (fun k=>wi (gt s k) 1 12)with
   | false=>
    rw[show decide ((12:Int) < (↑(List.length s):Int))=false from decide_eq_false (by omega),cond_false,pX s (by omega),ha,an]at e6;rw[ha]at e7;rw[e6,e7];simp only[Bool.not_false,cond_true,an,eI];rfl
   | true=>
    have hs:oI s:=fun k hk=>by have:=bM.1 ha k hk; exact gK.1 this
    have hh':=hh;simp only[CL,Bool.and_eq_true,gK]at hh';have hr:pY h.1:=fun k hk=>by have:=gK.1 (bM.1 hh'.1.1 k hk); omega
    obtain⟨b,e24,hb⟩:=EN s c7 hs 18446744073709551616 h.1 (by omega) hr l1;rw[ha,decide_eq_true c,Bool.true_and,Bool.not_true,cond_false,show En (h.1,s)=some b from e24,an]at e7;obtain⟨e,l,e39,hc⟩:=Jk hh ha c7;rw[e39,e7];rcases hc with⟨rfl,rfl,hc⟩ | ⟨rfl,hl,hc⟩
    ·have:b=false:=by
      cases b with
      | false=>rfl
      | true=>exact absurd (hb.1 rfl) hc
     subst this;simp only[Bool.not_false,cond_true,an,eI];rfl
    ·have:b=true:=hb.2 (zp hl hc);subst this;obtain⟨b,e40,hb⟩:=Jj (h:=h) (s:=s) (rows:=l) hs hr (by omega) (by omega) (by omega);have:b=true:=hb.2 ⟨hl,hc⟩;subst this;simp only[Bool.not_true,cond_false,an,e40,eI,decide_true];rfl
  ·rw[show decide ((12:Int) < (↑(List.length s):Int))=true from decide_eq_true (by omega),cond_true]at e6;rw[show decide (s.length≤12)=false from decide_eq_false c,Bool.and_false]at e7;rw[e6,e7];simp only[Bool.not_false,cond_true,an,eI];rfl
theorem Pure.SeatsPacks' (h:List Int×Int)(s:List Int):P3 (h,s)=some true:=by
 show q3 P4 P5 P6 P7 P8 h s=_;unfold q3;rw[eI];by_cases c1:30 < h.1.length
 ·rw[show decide ((30:Int) < (↑(List.length h.1):Int))=true from decide_eq_true (by omega)]; rfl
 ·rw[show decide ((30:Int) < (↑(List.length h.1):Int))=false from decide_eq_false (by omega),cond_false];by_cases c2:30 < s.length
  ·rw[show decide ((30:Int) < (↑(List.length s):Int))=true from decide_eq_true (by omega)]; rfl
  ·have e5:P5 (h,[])=some (h.2,h.1,[]):=by
    show q5 h []=_;unfold q5;rw[aw (dH (by simp; omega)),aw (dH (by simp)),List.nil_append]
   have ec:bI 8 s.length=true:=dH (by omega);have key:=fun l2=>zt h s (by omega) l2 (by omega);unfold wp at key;rw[eI]at key;rw[show decide ((30:Int) < (↑(List.length s):Int))=false from decide_eq_false (by omega),cond_false,e5];simp only[an,ec,dl];by_cases c3:7 < s.length
   ·rw[show decide ((7:Int) < (↑(List.length s):Int))=true from decide_eq_true (by omega),cond_true];by_cases c4:s.length≤12
    ·rw[show decide ((↑(List.length s):Int)≤12)=true from decide_eq_true (by omega)]; rfl
    ·rw[show decide ((↑(List.length s):Int)≤12)=false from decide_eq_false (by omega),cond_false];exact key (.inr (by omega))
   ·rw[show decide ((7:Int) < (↑(List.length s):Int))=false from decide_eq_false (by omega),cond_false];exact key (.inl (by omega))
theorem Pure.SeatsPacks (h:List Int×Int)(w0:Wf (.pair (.sl (.int .i64)) (.int .i64)) h)(s:List Int)(w1:Wf (.sl (.int .i64)) s):P3 (h,s)=some true:=Pure.SeatsPacks' h s
end Go.Proofs.YtdkaijofmigmbaaGreat.D
