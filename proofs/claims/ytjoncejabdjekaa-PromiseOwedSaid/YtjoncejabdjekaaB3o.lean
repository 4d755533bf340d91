import Derived.Test.YtjoncejabdjekaaB2o
import Derived.ProofKit
import Derived.OpenShut
import Derived.ShutString
import Derived.ChangeOld
import Derived.Below
import Derived.Carry
import Derived.SizedLaws
import Derived.Sort.AssemblyPlain
set_option linter.unusedVariables false
set_option linter.unusedSectionVars false
set_option linter.unusedSimpArgs false
namespace Go.Proofs.Ytjoncejabdjekaa.D
open Go Go.Proofs.Ytjoncejabdjekaa.L
variable [YP]
section
variable {π:Pi} {Fr:Store} {S:DSt} {s':Store}
theorem kF {b:Nat}{x:AObj}{D:List AV}{a:AV}(h:a.frz=true):fv b x D a=a:=by
 cases a <;> simp[AV.frz]at h <;> rfl
theorem A4 {b:Nat}{x:AObj}{D:List AV}{t:Ty}{y:t.den}{cs:List AV}(h:CR t y cs):cs.map (fv b x D)=cs:=by
 have:∀ (l:List AV),(∀ a∈l,a.frz=true)→l.map (fv b x D)=l:=fun l hl=>by
  induction l with
  | nil=>rfl
  | cons a l ih=>rw[List.map_cons,kF (hl a (by simp)),ih fun a ha=>hl a (by simp[ha])]
 exact this cs (bP h)
theorem A5 {b:Nat}{x:AObj}{D:List AV}{ag:Bool}{t:Ty}{y:t.den}{a:AV}(h:MR ag t y a):fv b x D a=a:=by
 cases ag with
 | true=>obtain⟨cs,rfl,_⟩:=h; rfl
 | false=>exact kF (bP h a (by simp))
theorem rJ {b:Nat}{x:AObj}{D:List AV}{ag:Bool}{t:Ty}:∀ {es:List (List Int×t.den)} {es':List (List Int×AV)},nY ag t es es'→∀ p∈es',fv b x D p.2=p.2
 | [],_,h,p,hp=>by simp only[nY]at h; subst h; cases hp
 | (k,y)::l,_,h,p,hp=>by
  simp only[nY]at h;obtain⟨a,l',rfl,h1,h⟩:=h;rcases List.mem_cons.1 hp with rfl | hp
  ·exact A5 h1
  ·exact rJ h p hp
theorem qs:∀ {es:List (List Int×AV)} {k:List Int} {v:AV} {p:List Int×AV},p∈mput es k v→p∈es∨p.2=v
 | [],k,v,p,h=>by simp[mput]at h; subst h; exact .inr rfl
 | (k',u)::l,k,v,p,h=>by
  simp only[mput]at h;split at h
  ·rcases List.mem_cons.1 h with rfl | h
   ·exact .inr rfl
   ·exact .inl (by simp[h])
  ·rcases List.mem_cons.1 h with rfl | h
   ·exact .inl (by simp)
   ·rcases qs h with h | h
    ·exact .inl (by simp[h])
    ·exact .inr h
theorem kG {b:Nat}{x:AObj}{D:List AV}{es:List (List Int×AV)}(h:∀ p∈es,fv b x D p.2=p.2):(es.map fun p=>(p.1,fv b x D p.2))=es:=by
 induction es with
 | nil=>rfl
 | cons p es ih=>rw[List.map_cons,h p (by simp),ih fun p hp=>h p (by simp[hp])]
theorem bJ {c:Nat}{d:DV}{a:AV}(h:RelV π d a):RelV π (bT S c d) a:=by
 unfold bT;split
 ·exact h
 ·simp only[RelV]
theorem jg (h:gl S=true){c p:Nat}(hc:S.get c=some (.pmap p)):∃ o,S.get p=some o:=by
 have:=List.all_eq_true.1 h _ (eC hc);simp only at this;cases hp:S.get p with
 | none=>rw[hp]at this; cases this
 | some o=>exact⟨o,rfl⟩
theorem mO {b:Nat}{x:AObj}{D:List AV}{f:Option (Nat×Nat×Nat)}(h:∀ p,f=some p→p.1≠b):fv b x D (ilv f)=ilv f:=by
 cases f with
 | none=>rfl
 | some p=>obtain⟨b2,c2,n2⟩:=p; simp only[ilv,fv]; rw[if_neg (h _ rfl)]
theorem zG {b:Nat}{x:AObj}{D:List AV}{g:List (Int×Nat)}(h:∀ k y,(k,y)∈g→y≠b):((fF g).map fun p=>(p.1,fv b x D p.2))=fF g:=by
 refine kG fun p hp=>?_;obtain⟨q,hq,rfl⟩:=List.mem_map.1 hp;simp only[fv]; rw[if_neg (h q.1 q.2 hq)]
theorem gX {b:Nat}{x:AObj}{D:List AV}{t:Ty}{l:List t.den}{ys:List (List AV)}(h:lL t l ys):(ys.map fun l=>l.map (fv b x D))=ys:=by
 refine List.ext_getElem (by simp) fun i h1 h2=>?_;have hi:i < l.length:=by rw[← h.1]; exact h2
 have:=h.2 i hi;rw[List.getD_eq_getElem?_getD,List.getElem?_eq_getElem h2]at this;simp only[List.getElem_map];exact A4 this
theorem pv (hS:RelS π Fr S s')(hpk:∀ c p,S.get c=some (.pmap p)→∃ o,S.get p=some o){b b':Nat}{x:AObj}{D:List AV}{s1:Store}(hs1:∀ c' y,c'≠b'→Fr c'=none→s' c'=some y→s1 c'=some (qX b' x D y))
  (H:∀ c o l y,S.get c=some o→c≠b→π c=some l→l.has y→y≠b') (hb:∀ g,π b≠some (.pol g)) {c:Nat} {o:DObj} (h:S.get c=some o) (hne:c≠b) (hnb:∀ cs,o ≠ .box cs):ObR π s1 c o:=by
 have hkey:∀ p g,o = .pmap p→π p=some (.pol g)→∀ k y,(k,y)∈g→y≠b':=fun p g e hp k y hy=>by
  subst e;obtain⟨o,ho⟩:=hpk _ _ h;have hne:p≠b:=fun e=>by subst e; exact hb _ hp
  have hO:=hS.obj _ _ ho;cases o with
  | pool t es=>
   obtain⟨g2,q1,hP⟩:=hO;rw[hp]at q1; cases q1;exact H p _ _ y ho hne hp ⟨k,mF hP.nd hy⟩
  | box _=>obtain⟨_,_,_,_,q,_⟩:=hO; rw[hp]at q; cases q
  | row _ _ _=>rcases hO with⟨q,_⟩ | ⟨_,_,_,q,_⟩ <;> (rw[hp]at q; cases q)
  | imap _ _ _ _ _=>obtain⟨_,_,_,_,q,_⟩:=hO; rw[hp]at q; cases q
  | rows _ _ _ _=>rcases hO with⟨q,_⟩ | ⟨_,_,_,q,_⟩ <;> (rw[hp]at q; cases q)
  | pmap _=>obtain⟨_,_,_,_,q,_⟩:=hO; rw[hp]at q; cases q
  | gone _=>obtain⟨_,_,q,_⟩:=hO; rw[hp]at q; cases q
  | raw _=>obtain⟨_,_,_,q,_⟩:=hO; rw[hp]at q; cases q
 have ne:∀ l y,π c=some l→l.has y→y≠b':=fun l y hl hy=>H c o l y h hne hl hy;have out:∀ l y,π c=some l→l.has y→Fr y=none:=fun l y hl hy=>hS.out' _ _ _ _ h hl hy;have hO:=hS.obj _ _ h;cases o with
 | box cs=>exact absurd rfl (hnb cs)
 | row T2 t2 l2=>
  rcases hO with⟨g1,g2⟩ | ⟨b3,c3,ys,g1,g2,g3,g4⟩
  ·exact .inl ⟨g1,g2⟩
  ·refine .inr ⟨b3,c3,ys,g1,g2,?_,g4⟩;rw[hs1 _ _ (ne _ _ g1 rfl) (out _ _ g1 rfl) g3];simp only[qX,gX g4]
 | imap kn ag t2 es pd=>
  obtain⟨b3,c3,n3,es',g1,g2,g3⟩:=hO;refine⟨b3,c3,n3,es',g1,g2,?_⟩;cases pd with
  | none=>
   have:=hs1 _ _ (ne _ _ g1 rfl) (out _ _ g1 rfl) g3;rw[show s1 b3=some (.imap kn es' none)by rw[this]; simp only[qX]; rw[kG (rJ g2)]]
  | some p=>
   obtain⟨tk,key,v0⟩:=p;obtain⟨y,v0',q1,q2,q3⟩:=g3;refine⟨y,v0',q1,q2,?_⟩;rw[hs1 _ _ (ne _ _ g1 rfl) (out _ _ g1 rfl) q3];simp only[qX];rw[kG fun p hp=>by
    rcases qs hp with hp | hp
    ·exact rJ g2 p hp
    ·rw[hp]; exact A5 q2]
 | rows T T' t l=>
  rcases hO with⟨g1,g2⟩ | ⟨b3,c3,f,g1,hR⟩
  ·exact .inl ⟨g1,g2⟩
  ·refine .inr ⟨b3,c3,f,g1,hR.cap,?_,fun i hi=>?_,hR.ne,hR.dj⟩
   ·obtain⟨xs,q1,q2,q3⟩:=hR.ex;refine⟨_,hs1 _ _ (ne _ _ g1 (.inl rfl)) (out _ _ g1 (.inl rfl)) q1,by simp[q2],fun i hi=>?_⟩;have hi':i < xs.length:=by rw[q2]; exact hi
    have e3:(xs.map fun l=>l.map (fv b' x D)).getD i []=(xs.getD i []).map (fv b' x D):=by
     simp[List.getD_eq_getElem?_getD,List.getElem?_map,hi']
    rw[e3,q3 i hi,List.map_cons,List.map_nil,mO fun p hp=>ne _ _ g1 (.inr ⟨i,p,hi,hp,rfl⟩)]
   ·have hI:=hR.ir i hi;cases hf:f i with
    | none=>rw[hf]at hI; exact hI
    | some q=>
     obtain⟨b4,c4,n4⟩:=q;rw[hf]at hI;obtain⟨k1,k2,ys,k3,k4⟩:=hI;have hh:Loc.has (.rls b3 c3 l.length f) b4:=.inr ⟨i,_,hi,hf,rfl⟩;refine⟨k1,k2,ys,?_,k4⟩;rw[hs1 _ _ (ne _ _ g1 hh) (out _ _ g1 hh) k3];simp only[qX,gX k4]
 | pool t es=>
  obtain⟨g,g1,hP⟩:=hO;refine⟨g,g1,hP.keys,hP.nd,fun k y hk=>?_,hP.dj⟩;obtain⟨as,q1,q2⟩:=hP.ex k y hk;refine⟨as,?_,q2⟩;rw[hs1 _ _ (ne _ _ g1 ⟨k,hk⟩) (out _ _ g1 ⟨k,hk⟩) q1];simp only[qX,A4 q2]
 | pmap p=>
  obtain⟨b3,c3,n3,g,g1,g2,g3⟩:=hO;refine⟨b3,c3,n3,g,g1,g2,?_⟩;rw[hs1 _ _ (ne _ _ g1 rfl) (out _ _ g1 rfl) g3];simp only[qX,zG (hkey p g rfl g2)]
 | gone p=>exact hO
 | raw k=>
  obtain⟨b3,c3,n3,g1,g2⟩:=hO;refine⟨b3,c3,n3,g1,?_⟩;rw[hs1 _ _ (ne _ _ g1 rfl) (out _ _ g1 rfl) g2];rfl
theorem rK (hS:RelS π Fr S s')(hpk:gl S=true){e:DEnv}{e':Env}(hE:RelE π e e'){b:Nat}{e1:DEnv}{S1:DSt}{T:Nat}{t:Ty}{l:List t.den}(hb:S.get b=some (.row T t l))(h:some (bG (yv S b t l) e,(⟨S.nx,bG (F8 S b t l) (gi S.m b)⟩:DSt))=some (e1,S1)):∃ e1' s1,Wk s' e' s1 e1'∧RelE π e1 e1'∧RelS π Fr S1 s1:=by
 ·cases h;have get:∀ c,(⟨S.nx,bG (F8 S b t l) (gi S.m b)⟩:DSt).get c=(if c=b then none else S.get c).map (F8 S b t l):=fun c=>by
   show bt (bG _ _) c=_;rw[bx,cW]; rfl
  have live:∀ c o,(⟨S.nx,bG (F8 S b t l) (gi S.m b)⟩:DSt).get c=some o→c≠b∧∃ o0,S.get c=some o0∧o=F8 S b t l o0:=fun c o hc=>by
   rw[get]at hc;split at hc
   ·cases hc
   ·rename_i hne;cases hg:S.get c with
    | none=>rw[hg]at hc; cases hc
    | some o0=>rw[hg]at hc; cases hc; exact⟨hne,o0,rfl,rfl⟩
  rcases hS.obj _ _ hb with⟨hv,rfl⟩ | ⟨b',c,xs,hp,hcap,hs,hr⟩
  ·
   have v1:∀ d a,RelV π d a→RelV π (my S b t [] d) a:=fun d a hd=>by
    cases d with
    | slc b2=>
     simp only[my];cases hc:Nat.beq b2 b with
     | true=>
      obtain rfl:=ai.1 hc;simp only[RelV]at hd;rcases hd with⟨_,_,_,hp,_⟩ | ⟨_,rfl⟩
      ·rw[hv]at hp; cases hp
      ·simp only[cond_true,yu,RelV]; exact .inl ⟨rfl,rfl⟩
     | false=>
      simp only[cond_false];split
      ·exact hd
      ·simp only[RelV]
    | ptr b2 o=>
     simp only[my];cases hc:Nat.beq b2 b with
     | true=>simp only[cond_true,RelV]
     | false=>
      simp only[cond_false];split
      ·exact hd
      ·simp only[RelV]
    | slr b2=>exact bJ hd
    | irow b2 i=>exact bJ hd
    | pel b2 k o=>exact bJ hd
    | _=>exact hd
   have vs1:∀ ds as,RelVs π ds as→RelVs π (ds.map (my S b t [])) as:=fun ds=>by
    induction ds with
    | nil=>intro as h; exact h
    | cons d ds ih=>
     intro as h;simp only[RelVs]at h;obtain⟨a,as',rfl,h1,h2⟩:=h;exact RelVs_cons (v1 d a h1) (ih as' h2)
   refine⟨e',s',Wk.refl _ _,fun u d hu=>?_,⟨fun c o hc=>?_,fun b1 b2 o1 o2 l1 l2 y h1 h2 p1 p2 x1 x2=>?_,hS.frm,fun c o lc y hc hp hy=>?_,hS.nx⟩⟩
   ·rw[bx]at hu;cases hg:bt e u with
    | none=>rw[hg]at hu; cases hu
    | some d0=>
     rw[hg]at hu;cases hu;have hd:=hE u d0 hg;cases d0 with
     | agg cs=>
      simp only[yv];simp only[RelV]at hd ⊢;obtain⟨as,e1,hd⟩:=hd;exact⟨as,e1,vs1 _ _ hd⟩
     | tup cs=>
      simp only[yv];simp only[RelV]at hd ⊢;obtain⟨as,e1,hd⟩:=hd;exact⟨as,e1,vs1 _ _ hd⟩
     | _=>exact v1 _ _ hd
   ·obtain⟨hne,o0,h0,rfl⟩:=live c o hc;have hO:=hS.obj _ _ h0;cases o0 with
    | box cs=>
     obtain⟨b',c,n,as,g1,g2,g3⟩:=hO;exact⟨b',c,n,as,g1,g2,vs1 _ _ g3⟩
    | _=>exact hO
   ·obtain⟨_,q1,g1,_⟩:=live _ _ h1;obtain⟨_,q2,g2,_⟩:=live _ _ h2;exact hS.inj' _ _ _ _ _ _ _ g1 g2 p1 p2 x1 x2
   ·obtain⟨_,q1,g1,_⟩:=live _ _ hc;exact hS.out' _ _ _ _ g1 hp hy
  ·have v1:∀ d a,RelV π d a→RelV π (my S b t l d) (fv b' (.row T t.w c xs) [] a):=fun d a hd=>by
    have nm:∀ b2 o2 b2' c2 n2,S.get b2=some o2→Nat.beq b2 b=false→π b2=some (.real b2' c2 n2)→b2'≠b':=fun b2 o2 b2' c2 n2 h1 h2 h3 e=>by
     subst e;have:=hS.inj _ _ _ _ _ _ _ _ _ h1 hb h3 hp;subst this
     simp at h2
    cases d with
    | slc b2=>
     simp only[my];cases hc:Nat.beq b2 b with
     | true=>
      obtain rfl:=ai.1 hc;simp only[RelV]at hd;rcases hd with⟨b3,c3,n3,hp3,rfl⟩ | ⟨hp3,rfl⟩
      ·rw[hp]at hp3; cases hp3;simp only[cond_true,fv,if_true];rw[if_pos ⟨by rw[hr.1]; exact Nat.le_refl _,hcap⟩];simp only[yu,RelV];exact .inr ⟨_,rfl,hr.2⟩
      ·rw[hp]at hp3; cases hp3
     | false=>
      simp only[cond_false];split
      ·rename_i o2 ho2;have hd0:=hd;simp only[RelV]at hd;rcases hd with⟨b3,c3,n3,hp3,rfl⟩ | ⟨hp3,rfl⟩
       ·simp only[fv]; rw[if_neg (nm _ _ _ _ _ ho2 hc hp3)]; exact hd0
       ·exact hd0
      ·simp only[RelV]
    | ptr b2 o=>
     simp only[my];cases hc:Nat.beq b2 b with
     | true=>simp only[cond_true,RelV]
     | false=>
      simp only[cond_false];split
      ·rename_i o2 ho2;have hd0:=hd;simp only[RelV]at hd;obtain⟨b3,c3,n3,hp3,rfl⟩:=hd;simp only[fv]; rw[if_neg (nm _ _ _ _ _ ho2 hc hp3)]; exact hd0
      ·simp only[RelV]
    | v x=>
     have:a.frz=true:=bP (by simpa only[RelV]using hd) a (by simp);rw[kF this]; exact hd
    | undef=>simp only[my,RelV]
    | emp=>simp only[RelV]at hd; subst hd; simp only[my,fv,RelV]
    | nilp=>simp only[RelV]at hd; subst hd; simp only[my,fv,RelV]
    | nilm=>simp only[RelV]at hd; subst hd; simp only[my,fv,RelV]
    | agg ds=>have hd0:=hd; simp only[RelV]at hd; obtain⟨as,rfl,_⟩:=hd; exact hd0
    | tup ds=>have hd0:=hd; simp only[RelV]at hd; obtain⟨as,rfl,_⟩:=hd; exact hd0
    | elm ds=>have hd0:=hd; simp only[RelV]at hd; obtain⟨as,rfl,_⟩:=hd; exact hd0
    | fn f ds=>have hd0:=hd; simp only[RelV]at hd; obtain⟨as,rfl,_⟩:=hd; rcases jb f as with⟨_,e⟩ | ⟨_,e⟩ <;> (rw[e]at hd0 ⊢; exact hd0)
    | rptr b k i j=>have hd0:=hd; simp only[RelV]at hd; obtain⟨_,_,_,_,_,rfl⟩:=hd; exact hd0
    | slo b k i j=>have hd0:=hd; simp only[RelV]at hd; obtain⟨_,_,_,_,_,rfl⟩:=hd; exact hd0
    | mp b=>have hd0:=hd; simp only[RelV]at hd; obtain⟨_,_,_,_,rfl⟩:=hd; exact hd0
    | stk b=>have hd0:=hd; simp only[RelV]at hd; obtain⟨_,_,rfl⟩:=hd; exact hd0
    | slr b2=>
     simp only[my,bT];split
     ·rename_i o2 ho2;have hd0:=hd;simp only[RelV]at hd;rcases hd with⟨b3,c3,n3,f3,hp3,rfl⟩ | ⟨hp3,rfl⟩
      ·simp only[fv]; rw[if_neg fun e=>?_]
       ·exact hd0
       ·subst e;have:=hS.inj' _ _ _ _ _ _ _ ho2 hb hp3 hp (.inl rfl) rfl;subst this;rw[hp3]at hp; cases hp
      ·exact hd0
     ·simp only[RelV]
    | irow b2 i=>
     simp only[my,bT];split
     ·rename_i o2 ho2;have hd0:=hd;simp only[RelV]at hd;obtain⟨b3,c3,n3,f3,hp3,hi3,rfl⟩:=hd;rw[mO fun p hf e=>?_]
      ·exact hd0
      ·subst e;have:=hS.inj' _ _ _ _ _ _ _ ho2 hb hp3 hp (.inr ⟨i,p,hi3,hf,rfl⟩) rfl;subst this;rw[hp3]at hp; cases hp
     ·simp only[RelV]
    | pel b2 k o=>
     simp only[my,bT];split
     ·rename_i o2 ho2;have hd0:=hd;simp only[RelV]at hd;obtain⟨g3,x3,hp3,hg3,rfl⟩:=hd;simp only[fv]; rw[if_neg fun e=>?_]
      ·exact hd0
      ·subst e;have:=hS.inj' _ _ _ _ _ _ _ ho2 hb hp3 hp ⟨k,hg3⟩ rfl;subst this;rw[hp3]at hp; cases hp
     ·simp only[RelV]
    | orow b i=>have hd0:=hd; simp only[RelV]at hd; obtain⟨_,_,_,_,_,_,rfl⟩:=hd; exact hd0
    | iptr b k i j o=>have hd0:=hd; simp only[RelV]at hd; obtain⟨_,_,_,_,_,_,_,_,_,_,_,rfl⟩:=hd; exact hd0
    | mpl b=>have hd0:=hd; simp only[RelV]at hd; obtain⟨_,_,rfl⟩:=hd; exact hd0
    | whn g d=>have hd0:=hd; simp only[RelV]at hd; obtain⟨_,rfl,_⟩:=hd; exact hd0
   have vs1:∀ ds as,RelVs π ds as→RelVs π (ds.map (my S b t l)) (as.map (fv b' (.row T t.w c xs) [])):=fun ds=>by
    induction ds with
    | nil=>intro as h; simp only[RelVs]at h; subst h; exact RelVs_nil
    | cons d ds ih=>
     intro as h;simp only[RelVs]at h;obtain⟨a,as',rfl,h1,h2⟩:=h;exact RelVs_cons (v1 d a h1) (ih as' h2)
   let x:AObj:=.row T t.w c xs
   let s1:Store:=fun c'=>if c'=b' then none else match Fr c' with
    | none=>(s' c').map (qX b' x [])
    | some _=>s' c'
   have s1v:∀ c' y,c'≠b'→Fr c'=none→s' c'=some y→s1 c'=some (qX b' x [] y):=fun c' y h1 h2 h3=>by
    show(if c'=b' then none else _)=_;rw[if_neg h1];simp only[h2,h3,Option.map_some]
   have hfrz:oY x:=fun l2 hl a ha=>by
    obtain⟨i,hi,rfl⟩:=List.getElem_of_mem hl;have:=hr.2 i (by rw[← hr.1]; exact hi);rw[List.getD_eq_getElem?_getD,List.getElem?_eq_getElem hi]at this;exact bP this a ha
   refine⟨fun u=>i6 b' x [] (e' u),s1,?_,fun u d hu=>?_,⟨fun c2 o hc=>?_,fun b1 b2 o1 o2 l1 l2 z h1 h2 p1 p2 x1 x2=>?_,fun b3 y h=>?_,fun c2 o lc z hc hp hz=>?_,hS.nx⟩⟩
   ·refine Wk.frz [] hs hfrz ?_ (fun c'=>?_) (fun u=>.inr (.inr rfl))
    ·show(if b'=b' then none else _)=none;rw[if_pos rfl]
    ·by_cases hcb:c'=b'
     ·left; show(if c'=b' then none else _)=none; rw[if_pos hcb]
     ·cases hf:Fr c' with
      | none=>right; right; show(if c'=b' then none else _)=_; rw[if_neg hcb]; simp only[hf]; rfl
      | some y=>right; left; show(if c'=b' then none else _)=_; rw[if_neg hcb]; simp only[hf]
   ·rw[bx]at hu;cases hg:bt e u with
    | none=>rw[hg]at hu; cases hu
    | some d0=>
     rw[hg]at hu;cases hu;have hd:=hE u d0 hg;show RelV π _ (i6 b' x [] (e' u));cases d0 with
     | agg cs=>
      simp only[yv];simp only[RelV]at hd ⊢;obtain⟨as,e1,hd⟩:=hd;rw[e1];exact⟨_,rfl,vs1 _ _ hd⟩
     | tup cs=>
      simp only[yv];simp only[RelV]at hd ⊢;obtain⟨as,e1,hd⟩:=hd;rw[e1];exact⟨_,rfl,vs1 _ _ hd⟩
     | undef=>simp only[yv,my,RelV]
     | v y=>
      have:(e' u).frz=true:=bP (by simpa only[RelV]using hd) _ (by simp);have e2:i6 b' x [] (e' u)=e' u:=by
       revert this; cases e' u <;> intro this <;> simp[AV.frz]at this <;> rfl
      rw[e2]; exact hd
     | slc b2=>
      have e2:i6 b' x [] (e' u)=fv b' x [] (e' u):=by
       simp only[RelV]at hd;rcases hd with⟨_,_,_,_,e3⟩ | ⟨_,e3⟩ <;> rw[e3] <;> rfl
      rw[e2]; exact v1 _ _ hd
     | ptr b2 o=>
      have e2:i6 b' x [] (e' u)=fv b' x [] (e' u):=by
       simp only[RelV]at hd;obtain⟨_,_,_,_,e3⟩:=hd; rw[e3]; rfl
      rw[e2]; exact v1 _ _ hd
     | emp=>simp only[RelV]at hd; rw[hd]; simp only[yv,my,i6,fv,RelV]
     | nilp=>simp only[RelV]at hd; rw[hd]; simp only[yv,my,i6,fv,RelV]
     | nilm=>simp only[RelV]at hd; rw[hd]; simp only[yv,my,i6,fv,RelV]
     | elm ds=>have hd0:=hd; simp only[RelV]at hd; obtain⟨as,e3,_⟩:=hd; rw[e3]at hd0 ⊢; exact hd0
     | fn f ds=>have hd0:=hd; simp only[RelV]at hd; obtain⟨as,e3,_⟩:=hd; rw[e3]at hd0 ⊢; rcases jb f as with⟨_,e⟩ | ⟨_,e⟩ <;> (rw[e]at hd0 ⊢; exact hd0)
     | rptr b k i j=>have hd0:=hd; simp only[RelV]at hd; obtain⟨_,_,_,_,_,e3⟩:=hd; rw[e3]at hd0 ⊢; exact hd0
     | slo b k i j=>have hd0:=hd; simp only[RelV]at hd; obtain⟨_,_,_,_,_,e3⟩:=hd; rw[e3]at hd0 ⊢; exact hd0
     | mp b=>have hd0:=hd; simp only[RelV]at hd; obtain⟨_,_,_,_,e3⟩:=hd; rw[e3]at hd0 ⊢; exact hd0
     | stk b=>have hd0:=hd; simp only[RelV]at hd; obtain⟨_,_,e3⟩:=hd; rw[e3]at hd0 ⊢; exact hd0
     | slr b2=>
      have e2:i6 b' x [] (e' u)=fv b' x [] (e' u):=by
       simp only[RelV]at hd;rcases hd with⟨_,_,_,_,_,e3⟩ | ⟨_,e3⟩ <;> rw[e3] <;> rfl
      rw[e2]; exact v1 _ _ hd
     | irow b2 i=>
      have e2:i6 b' x [] (e' u)=fv b' x [] (e' u):=by
       simp only[RelV]at hd;obtain⟨_,_,_,f3,_,_,e3⟩:=hd;rw[e3]; cases f3 i <;> rfl
      rw[e2]; exact v1 _ _ hd
     | pel b2 k o=>
      have e2:i6 b' x [] (e' u)=fv b' x [] (e' u):=by
       simp only[RelV]at hd;obtain⟨_,_,_,_,e3⟩:=hd; rw[e3]; rfl
      rw[e2]; exact v1 _ _ hd
     | orow b i=>have hd0:=hd; simp only[RelV]at hd; obtain⟨_,_,_,_,_,_,e3⟩:=hd; rw[e3]at hd0 ⊢; exact hd0
     | iptr b k i j o=>have hd0:=hd; simp only[RelV]at hd; obtain⟨_,_,_,_,_,_,_,_,_,_,_,e3⟩:=hd; rw[e3]at hd0 ⊢; exact hd0
     | mpl b=>have hd0:=hd; simp only[RelV]at hd; obtain⟨_,_,e3⟩:=hd; rw[e3]at hd0 ⊢; exact hd0
     | whn g d=>have hd0:=hd; simp only[RelV]at hd; obtain⟨_,e3,_⟩:=hd; rw[e3]at hd0 ⊢; exact hd0
   ·obtain⟨hne,o0,h0,rfl⟩:=live c2 o hc;have hO:=hS.obj _ _ h0;have ne:∀ b3 c3 n3,π c2=some (.real b3 c3 n3)→b3≠b':=fun b3 c3 n3 hp3 e=>by
     subst e; exact hne (hS.inj _ _ _ _ _ _ _ _ _ h0 hb hp3 hp)
    cases o0 with
    | box cs=>
     obtain⟨b3,c3,n3,as,g1,g2,g3⟩:=hO;exact⟨b3,c3,n3,_,g1,s1v _ _ (ne _ _ _ g1) (hS.out _ _ _ _ _ h0 g1) g2,vs1 _ _ g3⟩
    | _=>exact pv (x:=x) (D:=[]) hS (fun _ _ h=>jg hpk h) s1v (fun c3 o3 l3 y3 h3 n3 p3 q3 e3=>n3 (hS.inj' _ _ _ _ _ _ _ h3 hb p3 hp (e3▸q3) rfl)) (fun g hg=>by rw[hp]at hg; cases hg) h0 hne (fun cs h=>by cases h)
   ·obtain⟨_,q1,g1,_⟩:=live _ _ h1;obtain⟨_,q2,g2,_⟩:=live _ _ h2;exact hS.inj' _ _ _ _ _ _ _ g1 g2 p1 p2 x1 x2
   ·have hne:b3≠b':=fun e=>by rw[e,hS.out _ _ _ _ _ hb hp]at h; cases h
    show(if b3=b' then none else _)=_;rw[if_neg hne];simp only[h];exact hS.frm _ _ h
   ·obtain⟨_,q1,g1,_⟩:=live _ _ hc;exact hS.out' _ _ _ _ g1 hp hz
theorem sU:∀ {ds:List DV} {as:List AV},RelVs π ds as→ds.all DV.fzn=true→∀ a∈as,a.frz=true
 | [],as,h,_=>by simp only[RelVs]at h; subst h; intro a ha; cases ha
 | d::ds,as,h,hz=>by
  simp only[RelVs]at h;obtain⟨a,as',rfl,h1,h2⟩:=h;simp only[List.all_cons,Bool.and_eq_true]at hz;intro c hc;rcases List.mem_cons.1 hc with rfl | hc
  ·cases d with
   | v x=>exact bP (by simpa only[RelV]using h1) _ (by simp)
   | emp=>simp only[RelV]at h1; subst h1; rfl
   | nilp=>simp only[RelV]at h1; subst h1; rfl
   | nilm=>simp only[RelV]at h1; subst h1; rfl
   | elm ds=>simp only[RelV]at h1; obtain⟨_,rfl,_⟩:=h1; rfl
   | _=>simp[DV.fzn]at hz
  ·exact sU h2 hz.2 c hc
theorem rL (hS:RelS π Fr S s')(hpk:gl S=true){e:DEnv}{e':Env}(hE:RelE π e e'){b:Nat}{e1:DEnv}{S1:DSt}{cs:List DV}(hb:S.get b=some (.box cs))(hz:cs.all DV.fzn=true)(h:some (bG (A2 S b cs) e,(⟨S.nx,bG (Ga S b cs) (gi S.m b)⟩:DSt))=some (e1,S1)):∃ e1' s1,Wk s' e' s1 e1'∧RelE π e1 e1'∧RelS π Fr S1 s1:=by
 ·cases h;have get:∀ c,(⟨S.nx,bG (Ga S b cs) (gi S.m b)⟩:DSt).get c=(if c=b then none else S.get c).map (Ga S b cs):=fun c=>by
   show bt (bG _ _) c=_;rw[bx,cW]; rfl
  have live:∀ c o,(⟨S.nx,bG (Ga S b cs) (gi S.m b)⟩:DSt).get c=some o→c≠b∧∃ o0,S.get c=some o0∧o=Ga S b cs o0:=fun c o hc=>by
   rw[get]at hc;split at hc
   ·cases hc
   ·rename_i hne;cases hg:S.get c with
    | none=>rw[hg]at hc; cases hc
    | some o0=>rw[hg]at hc; cases hc; exact⟨hne,o0,rfl,rfl⟩
  obtain⟨b',c0,n0,ax,hp,hs,hr⟩:=hS.obj _ _ hb
  ·skip
   have v1:∀ d a,RelV π d a→RelV π (pg S b cs d) (fv b' (.box ax) [] a):=fun d a hd=>by
    have nm:∀ b2 o2 b2' c2 n2,S.get b2=some o2→Nat.beq b2 b=false→π b2=some (.real b2' c2 n2)→b2'≠b':=fun b2 o2 b2' c2 n2 h1 h2 h3 e=>by
     subst e;have:=hS.inj _ _ _ _ _ _ _ _ _ h1 hb h3 hp;subst this
     simp at h2
    cases d with
    | slc b2=>
     simp only[pg];cases hc:Nat.beq b2 b with
     | true=>simp only[cond_true,RelV]
     | false=>
      simp only[cond_false];split
      ·rename_i o2 ho2;have hd0:=hd;simp only[RelV]at hd;rcases hd with⟨b3,c3,n3,hp3,rfl⟩ | ⟨hp3,rfl⟩
       ·simp only[fv]; rw[if_neg (nm _ _ _ _ _ ho2 hc hp3)]; exact hd0
       ·exact hd0
      ·simp only[RelV]
    | ptr b2 o=>
     simp only[pg];cases hc:Nat.beq b2 b with
     | true=>
      obtain rfl:=ai.1 hc;simp only[RelV]at hd;obtain⟨b3,c3,n3,hp3,rfl⟩:=hd;rw[hp]at hp3; cases hp3;simp only[cond_true,fv,if_true];cases hl:ee o cs.length with
      | true=>
       simp only[ee,Nat.ble_eq]at hl;rw[if_pos (by rw[aL hr]; exact hl)];simp only[cond_true,RelV];exact⟨_,rfl,cu o hr⟩
      | false=>simp only[cond_false,RelV]
     | false=>
      simp only[cond_false];split
      ·rename_i o2 ho2;have hd0:=hd;simp only[RelV]at hd;obtain⟨b3,c3,n3,hp3,rfl⟩:=hd;simp only[fv]; rw[if_neg (nm _ _ _ _ _ ho2 hc hp3)]; exact hd0
      ·simp only[RelV]
    | v x=>
     have:a.frz=true:=bP (by simpa only[RelV]using hd) a (by simp);rw[kF this]; exact hd
    | undef=>simp only[pg,RelV]
    | emp=>simp only[RelV]at hd; subst hd; simp only[pg,fv,RelV]
    | nilp=>simp only[RelV]at hd; subst hd; simp only[pg,fv,RelV]
    | nilm=>simp only[RelV]at hd; subst hd; simp only[pg,fv,RelV]
    | agg ds=>have hd0:=hd; simp only[RelV]at hd; obtain⟨as,rfl,_⟩:=hd; exact hd0
    | tup ds=>have hd0:=hd; simp only[RelV]at hd; obtain⟨as,rfl,_⟩:=hd; exact hd0
    | elm ds=>have hd0:=hd; simp only[RelV]at hd; obtain⟨as,rfl,_⟩:=hd; exact hd0
    | fn f ds=>have hd0:=hd; simp only[RelV]at hd; obtain⟨as,rfl,_⟩:=hd; rcases jb f as with⟨_,e⟩ | ⟨_,e⟩ <;> (rw[e]at hd0 ⊢; exact hd0)
    | rptr b k i j=>have hd0:=hd; simp only[RelV]at hd; obtain⟨_,_,_,_,_,rfl⟩:=hd; exact hd0
    | slo b k i j=>have hd0:=hd; simp only[RelV]at hd; obtain⟨_,_,_,_,_,rfl⟩:=hd; exact hd0
    | mp b=>have hd0:=hd; simp only[RelV]at hd; obtain⟨_,_,_,_,rfl⟩:=hd; exact hd0
    | stk b=>have hd0:=hd; simp only[RelV]at hd; obtain⟨_,_,rfl⟩:=hd; exact hd0
    | slr b2=>
     simp only[pg,bT];split
     ·rename_i o2 ho2;have hd0:=hd;simp only[RelV]at hd;rcases hd with⟨b3,c3,n3,f3,hp3,rfl⟩ | ⟨hp3,rfl⟩
      ·simp only[fv]; rw[if_neg fun e=>?_]
       ·exact hd0
       ·subst e;have:=hS.inj' _ _ _ _ _ _ _ ho2 hb hp3 hp (.inl rfl) rfl;subst this;rw[hp3]at hp; cases hp
      ·exact hd0
     ·simp only[RelV]
    | irow b2 i=>
     simp only[pg,bT];split
     ·rename_i o2 ho2;have hd0:=hd;simp only[RelV]at hd;obtain⟨b3,c3,n3,f3,hp3,hi3,rfl⟩:=hd;rw[mO fun p hf e=>?_]
      ·exact hd0
      ·subst e;have:=hS.inj' _ _ _ _ _ _ _ ho2 hb hp3 hp (.inr ⟨i,p,hi3,hf,rfl⟩) rfl;subst this;rw[hp3]at hp; cases hp
     ·simp only[RelV]
    | pel b2 k o=>
     simp only[pg,bT];split
     ·rename_i o2 ho2;have hd0:=hd;simp only[RelV]at hd;obtain⟨g3,x3,hp3,hg3,rfl⟩:=hd;simp only[fv]; rw[if_neg fun e=>?_]
      ·exact hd0
      ·subst e;have:=hS.inj' _ _ _ _ _ _ _ ho2 hb hp3 hp ⟨k,hg3⟩ rfl;subst this;rw[hp3]at hp; cases hp
     ·simp only[RelV]
    | orow b i=>have hd0:=hd; simp only[RelV]at hd; obtain⟨_,_,_,_,_,_,rfl⟩:=hd; exact hd0
    | iptr b k i j o=>have hd0:=hd; simp only[RelV]at hd; obtain⟨_,_,_,_,_,_,_,_,_,_,_,rfl⟩:=hd; exact hd0
    | mpl b=>have hd0:=hd; simp only[RelV]at hd; obtain⟨_,_,rfl⟩:=hd; exact hd0
    | whn g d=>have hd0:=hd; simp only[RelV]at hd; obtain⟨_,rfl,_⟩:=hd; exact hd0
   have vs1:∀ ds as,RelVs π ds as→RelVs π (ds.map (pg S b cs)) (as.map (fv b' (.box ax) [])):=fun ds=>by
    induction ds with
    | nil=>intro as h; simp only[RelVs]at h; subst h; exact RelVs_nil
    | cons d ds ih=>
     intro as h;simp only[RelVs]at h;obtain⟨a,as',rfl,h1,h2⟩:=h;exact RelVs_cons (v1 d a h1) (ih as' h2)
   let x:AObj:=.box ax
   let s1:Store:=fun c'=>if c'=b' then none else match Fr c' with
    | none=>(s' c').map (qX b' x [])
    | some _=>s' c'
   have s1v:∀ c' y,c'≠b'→Fr c'=none→s' c'=some y→s1 c'=some (qX b' x [] y):=fun c' y h1 h2 h3=>by
    show(if c'=b' then none else _)=_;rw[if_neg h1];simp only[h2,h3,Option.map_some]
   have hfrz:oY x:=sU hr hz;refine⟨fun u=>i6 b' x [] (e' u),s1,?_,fun u d hu=>?_,⟨fun c2 o hc=>?_,fun b1 b2 o1 o2 l1 l2 z h1 h2 p1 p2 x1 x2=>?_,fun b3 y h=>?_,fun c2 o lc z hc hp hz=>?_,hS.nx⟩⟩
   ·refine Wk.frz [] hs hfrz ?_ (fun c'=>?_) (fun u=>.inr (.inr rfl))
    ·show(if b'=b' then none else _)=none;rw[if_pos rfl]
    ·by_cases hcb:c'=b'
     ·left; show(if c'=b' then none else _)=none; rw[if_pos hcb]
     ·cases hf:Fr c' with
      | none=>right; right; show(if c'=b' then none else _)=_; rw[if_neg hcb]; simp only[hf]; rfl
      | some y=>right; left; show(if c'=b' then none else _)=_; rw[if_neg hcb]; simp only[hf]
   ·rw[bx]at hu;cases hg:bt e u with
    | none=>rw[hg]at hu; cases hu
    | some d0=>
     rw[hg]at hu;cases hu;have hd:=hE u d0 hg;show RelV π _ (i6 b' x [] (e' u));cases d0 with
     | agg cs=>
      simp only[A2];simp only[RelV]at hd ⊢;obtain⟨as,e1,hd⟩:=hd;rw[e1];exact⟨_,rfl,vs1 _ _ hd⟩
     | tup cs=>
      simp only[A2];simp only[RelV]at hd ⊢;obtain⟨as,e1,hd⟩:=hd;rw[e1];exact⟨_,rfl,vs1 _ _ hd⟩
     | undef=>simp only[A2,pg,RelV]
     | v y=>
      have:(e' u).frz=true:=bP (by simpa only[RelV]using hd) _ (by simp);have e2:i6 b' x [] (e' u)=e' u:=by
       revert this; cases e' u <;> intro this <;> simp[AV.frz]at this <;> rfl
      rw[e2]; exact hd
     | slc b2=>
      have e2:i6 b' x [] (e' u)=fv b' x [] (e' u):=by
       simp only[RelV]at hd;rcases hd with⟨_,_,_,_,e3⟩ | ⟨_,e3⟩ <;> rw[e3] <;> rfl
      rw[e2]; exact v1 _ _ hd
     | ptr b2 o=>
      have e2:i6 b' x [] (e' u)=fv b' x [] (e' u):=by
       simp only[RelV]at hd;obtain⟨_,_,_,_,e3⟩:=hd; rw[e3]; rfl
      rw[e2]; exact v1 _ _ hd
     | emp=>simp only[RelV]at hd; rw[hd]; simp only[A2,pg,i6,fv,RelV]
     | nilp=>simp only[RelV]at hd; rw[hd]; simp only[A2,pg,i6,fv,RelV]
     | nilm=>simp only[RelV]at hd; rw[hd]; simp only[A2,pg,i6,fv,RelV]
     | elm ds=>have hd0:=hd; simp only[RelV]at hd; obtain⟨as,e3,_⟩:=hd; rw[e3]at hd0 ⊢; exact hd0
     | fn f ds=>have hd0:=hd; simp only[RelV]at hd; obtain⟨as,e3,_⟩:=hd; rw[e3]at hd0 ⊢; rcases jb f as with⟨_,e⟩ | ⟨_,e⟩ <;> (rw[e]at hd0 ⊢; exact hd0)
     | rptr b k i j=>have hd0:=hd; simp only[RelV]at hd; obtain⟨_,_,_,_,_,e3⟩:=hd; rw[e3]at hd0 ⊢; exact hd0
     | slo b k i j=>have hd0:=hd; simp only[RelV]at hd; obtain⟨_,_,_,_,_,e3⟩:=hd; rw[e3]at hd0 ⊢; exact hd0
     | mp b=>have hd0:=hd; simp only[RelV]at hd; obtain⟨_,_,_,_,e3⟩:=hd; rw[e3]at hd0 ⊢; exact hd0
     | stk b=>have hd0:=hd; simp only[RelV]at hd; obtain⟨_,_,e3⟩:=hd; rw[e3]at hd0 ⊢; exact hd0
     | slr b2=>
      have e2:i6 b' x [] (e' u)=fv b' x [] (e' u):=by
       simp only[RelV]at hd;rcases hd with⟨_,_,_,_,_,e3⟩ | ⟨_,e3⟩ <;> rw[e3] <;> rfl
      rw[e2]; exact v1 _ _ hd
     | irow b2 i=>
      have e2:i6 b' x [] (e' u)=fv b' x [] (e' u):=by
       simp only[RelV]at hd;obtain⟨_,_,_,f3,_,_,e3⟩:=hd;rw[e3]; cases f3 i <;> rfl
      rw[e2]; exact v1 _ _ hd
     | pel b2 k o=>
      have e2:i6 b' x [] (e' u)=fv b' x [] (e' u):=by
       simp only[RelV]at hd;obtain⟨_,_,_,_,e3⟩:=hd; rw[e3]; rfl
      rw[e2]; exact v1 _ _ hd
     | orow b i=>have hd0:=hd; simp only[RelV]at hd; obtain⟨_,_,_,_,_,_,e3⟩:=hd; rw[e3]at hd0 ⊢; exact hd0
     | iptr b k i j o=>have hd0:=hd; simp only[RelV]at hd; obtain⟨_,_,_,_,_,_,_,_,_,_,_,e3⟩:=hd; rw[e3]at hd0 ⊢; exact hd0
     | mpl b=>have hd0:=hd; simp only[RelV]at hd; obtain⟨_,_,e3⟩:=hd; rw[e3]at hd0 ⊢; exact hd0
     | whn g d=>have hd0:=hd; simp only[RelV]at hd; obtain⟨_,e3,_⟩:=hd; rw[e3]at hd0 ⊢; exact hd0
   ·obtain⟨hne,o0,h0,rfl⟩:=live c2 o hc;have hO:=hS.obj _ _ h0;have ne:∀ b3 c3 n3,π c2=some (.real b3 c3 n3)→b3≠b':=fun b3 c3 n3 hp3 e=>by
     subst e; exact hne (hS.inj _ _ _ _ _ _ _ _ _ h0 hb hp3 hp)
    cases o0 with
    | box cs=>
     obtain⟨b3,c3,n3,as,g1,g2,g3⟩:=hO;exact⟨b3,c3,n3,_,g1,s1v _ _ (ne _ _ _ g1) (hS.out _ _ _ _ _ h0 g1) g2,vs1 _ _ g3⟩
    | _=>exact pv (x:=x) (D:=[]) hS (fun _ _ h=>jg hpk h) s1v (fun c3 o3 l3 y3 h3 n3 p3 q3 e3=>n3 (hS.inj' _ _ _ _ _ _ _ h3 hb p3 hp (e3▸q3) rfl)) (fun g hg=>by rw[hp]at hg; cases hg) h0 hne (fun cs h=>by cases h)
   ·obtain⟨_,q1,g1,_⟩:=live _ _ h1;obtain⟨_,q2,g2,_⟩:=live _ _ h2;exact hS.inj' _ _ _ _ _ _ _ g1 g2 p1 p2 x1 x2
   ·have hne:b3≠b':=fun e=>by rw[e,hS.out _ _ _ _ _ hb hp]at h; cases h
    show(if b3=b' then none else _)=_;rw[if_neg hne];simp only[h];exact hS.frm _ _ h
   ·obtain⟨_,q1,g1,_⟩:=live _ _ hc;exact hS.out' _ _ _ _ g1 hp hz
def dC (S:DSt)(b:Nat):DV→DV
 | .slr b'=>bif Nat.beq b' b then .slr b' else bT S b' (.slr b')
 | .slc b'=>bT S b' (.slc b')
 | .ptr b' o=>bT S b' (.ptr b' o)
 | .irow b' i=>bif Nat.beq b' b then .undef else bT S b' (.irow b' i)
 | .pel b' k o=>bT S b' (.pel b' k o)
 | d=>d
def qZ (S:DSt)(b:Nat):DObj→DObj
 | .box ds=>.box (ds.map (dC S b))
 | o=>o
def wJ (π:Pi)(S:DSt)(b:Nat):DV→AV→Prop
 | .agg ds,a=>∃ as,a = .agg as∧RelVs π (ds.map (dC S b)) as
 | .tup ds,a=>∃ as,a = .tup as∧RelVs π (ds.map (dC S b)) as
 | d,a=>RelV π (dC S b d) a
theorem sV {b:Nat}{d:DV}{a:AV}(h:RelV π d a):RelV π (dC S b d) a:=by
 cases d with
 | slr b2=>simp only[dC]; cases Nat.beq b2 b with | true=>exact h | false=>exact bJ h
 | slc b2=>exact bJ h
 | ptr b2 o=>exact bJ h
 | irow b2 i=>simp only[dC]; cases Nat.beq b2 b with | true=>simp only[cond_true,RelV] | false=>exact bJ h
 | pel b2 k o=>exact bJ h
 | _=>exact h
theorem lQ {b:Nat}:∀ {ds:List DV} {as:List AV},RelVs π ds as→RelVs π (ds.map (dC S b)) as
 | [],as,h=>h
 | d::ds,as,h=>by
  simp only[RelVs]at h;obtain⟨a,as',rfl,h1,h2⟩:=h;exact RelVs_cons (sV h1) (lQ h2)
theorem zH {b:Nat}{d:DV}{a:AV}(h:RelV π d a):wJ π S b d a:=by
 cases d with
 | agg ds=>simp only[RelV]at h; obtain⟨as,e,h⟩:=h; exact⟨as,e,lQ h⟩
 | tup ds=>simp only[RelV]at h; obtain⟨as,e,h⟩:=h; exact⟨as,e,lQ h⟩
 | _=>exact sV h
theorem qt {b b2:Nat}{x:AObj}{bo co no:Nat}{f:Nat→Option (Nat×Nat×Nat)}(hp:π b=some (.rls bo co no f))(hbo:bo≠b2)(H:∀ c o l y,S.get c=some o→c≠b→π c=some l→l.has y→y≠b2){d:DV}{a:AV}
  (h:RelV π (dC S b d) a):RelV π (dC S b d) (fv b2 x [] a):=by
 have keep:∀ q d0,(∀ o,S.get q=some o→RelV π d0 a→RelV π d0 (fv b2 x [] a))→RelV π (bT S q d0) a→RelV π (bT S q d0) (fv b2 x [] a):=fun q d0 h1 h2=>by
  unfold bT at h2 ⊢;split
  ·rename_i o ho; simp only[ho]at h2; exact h1 o ho h2
  ·simp only[RelV]
 cases d with
 | slr q=>
  simp only[dC]at h ⊢;cases hc:Nat.beq q b with
  | true=>
   rw[hc]at h;obtain rfl:=ai.1 hc;simp only[cond_true]at h ⊢;have h0:=h;simp only[RelV]at h;rcases h with⟨b3,c3,n3,f3,hp3,rfl⟩ | ⟨hp3,rfl⟩
   ·rw[hp]at hp3; cases hp3;simp only[fv]; rw[if_neg hbo]; exact h0
   ·exact h0
  | false=>
   rw[hc]at h;simp only[cond_false]at h ⊢;refine keep q _ (fun o ho h=>?_) h;have h0:=h;simp only[RelV]at h;rcases h with⟨b3,c3,n3,f3,hp3,rfl⟩ | ⟨hp3,rfl⟩
   ·simp only[fv]; rw[if_neg (H q o _ b3 ho (fun e=>by subst e; simp at hc) hp3 (.inl rfl))]; exact h0
   ·exact h0
 | slc q=>
  refine keep q _ (fun o ho h=>?_) h;have h0:=h;simp only[RelV]at h;rcases h with⟨b3,c3,n3,hp3,rfl⟩ | ⟨hp3,rfl⟩
  ·simp only[fv]; rw[if_neg (H q o _ b3 ho (fun e=>by subst e; rw[hp]at hp3; cases hp3) hp3 rfl)]; exact h0
  ·exact h0
 | ptr q o2=>
  refine keep q _ (fun o ho h=>?_) h;have h0:=h;simp only[RelV]at h;obtain⟨b3,c3,n3,hp3,rfl⟩:=h;simp only[fv]; rw[if_neg (H q o _ b3 ho (fun e=>by subst e; rw[hp]at hp3; cases hp3) hp3 rfl)]; exact h0
 | irow q i=>
  simp only[dC]at h ⊢;cases hc:Nat.beq q b with
  | true=>simp only[cond_true,RelV]
  | false=>
   rw[hc]at h;simp only[cond_false]at h ⊢;refine keep q _ (fun o ho h=>?_) h;have h0:=h;simp only[RelV]at h;obtain⟨b3,c3,n3,f3,hp3,hi3,rfl⟩:=h;rw[mO fun p hf=>H q o _ p.1 ho (fun e=>by subst e; simp at hc) hp3 (.inr ⟨i,p,hi3,hf,rfl⟩)]; exact h0
 | pel q k o2=>
  refine keep q _ (fun o ho h=>?_) h;have h0:=h;simp only[RelV]at h;obtain⟨g3,x3,hp3,hg3,rfl⟩:=h;simp only[fv]; rw[if_neg (H q o _ x3 ho (fun e=>by subst e; rw[hp]at hp3; cases hp3) hp3 ⟨k,hg3⟩)]; exact h0
 | v y=>
  have:a.frz=true:=bP (by simpa only[dC,RelV]using h) a (by simp);rw[kF this]; exact h
 | undef=>simp only[dC,RelV]
 | emp=>simp only[dC,RelV]at h; subst h; simp only[dC,fv,RelV]
 | nilp=>simp only[dC,RelV]at h; subst h; simp only[dC,fv,RelV]
 | nilm=>simp only[dC,RelV]at h; subst h; simp only[dC,fv,RelV]
 | agg ds=>have h0:=h; simp only[dC,RelV]at h; obtain⟨as,rfl,_⟩:=h; exact h0
 | tup ds=>have h0:=h; simp only[dC,RelV]at h; obtain⟨as,rfl,_⟩:=h; exact h0
 | elm ds=>have h0:=h; simp only[dC,RelV]at h; obtain⟨as,rfl,_⟩:=h; exact h0
 | fn f ds=>have h0:=h; simp only[dC,RelV]at h; obtain⟨as,rfl,_⟩:=h; rcases jb f as with⟨_,e⟩ | ⟨_,e⟩ <;> (rw[e]at h0 ⊢; exact h0)
 | rptr b k i j=>have h0:=h; simp only[dC,RelV]at h; obtain⟨_,_,_,_,_,rfl⟩:=h; exact h0
 | slo b k i j=>have h0:=h; simp only[dC,RelV]at h; obtain⟨_,_,_,_,_,rfl⟩:=h; exact h0
 | mp b=>have h0:=h; simp only[dC,RelV]at h; obtain⟨_,_,_,_,rfl⟩:=h; exact h0
 | stk b=>have h0:=h; simp only[dC,RelV]at h; obtain⟨_,_,rfl⟩:=h; exact h0
 | orow b i=>have h0:=h; simp only[dC,RelV]at h; obtain⟨_,_,_,_,_,_,rfl⟩:=h; exact h0
 | iptr b k i j o=>have h0:=h; simp only[dC,RelV]at h; obtain⟨_,_,_,_,_,_,_,_,_,_,_,rfl⟩:=h; exact h0
 | mpl b=>have h0:=h; simp only[dC,RelV]at h; obtain⟨_,_,rfl⟩:=h; exact h0
 | whn g d=>have h0:=h; simp only[dC,RelV]at h; obtain⟨_,rfl,_⟩:=h; exact h0
theorem jL {b b2:Nat}{x:AObj}{bo co no:Nat}{f:Nat→Option (Nat×Nat×Nat)}(hp:π b=some (.rls bo co no f))(hbo:bo≠b2)(H:∀ c o l y,S.get c=some o→c≠b→π c=some l→l.has y→y≠b2):∀ {ds:List DV} {as:List AV},
  RelVs π (ds.map (dC S b)) as→RelVs π (ds.map (dC S b)) (as.map (fv b2 x []))
 | [],as,h=>by simp only[List.map_nil,RelVs]at h; subst h; exact RelVs_nil
 | d::ds,as,h=>by
  simp only[List.map_cons,RelVs]at h;obtain⟨a,as',rfl,h1,h2⟩:=h;exact RelVs_cons (qt hp hbo H h1) (jL hp hbo H h2)
theorem Fi {b b2:Nat}{x:AObj}{D:List AV}{d:DV}{a:AV}(hn:∀ ds,d ≠ .agg ds∧d ≠ .tup ds)(h:RelV π (dC S b d) a):dC S b d = .undef∨i6 b2 x D a=fv b2 x D a:=by
 have keep:∀ q d0,(RelV π d0 a→i6 b2 x D a=fv b2 x D a)→RelV π (bT S q d0) a→bT S q d0 = .undef∨i6 b2 x D a=fv b2 x D a:=fun q d0 h1 h2=>by
  unfold bT at h2 ⊢;split
  ·rename_i o ho; simp only[ho]at h2; exact .inr (h1 h2)
  ·exact .inl rfl
 have slr:∀ q,RelV π (.slr q) a→i6 b2 x D a=fv b2 x D a:=fun q h=>by
  simp only[RelV]at h;rcases h with⟨_,_,_,_,_,rfl⟩ | ⟨_,rfl⟩ <;> rfl
 have irow:∀ q i,RelV π (.irow q i) a→i6 b2 x D a=fv b2 x D a:=fun q i h=>by
  simp only[RelV]at h;obtain⟨_,_,_,f3,_,_,rfl⟩:=h;cases f3 i <;> rfl
 cases d with
 | slr q=>
  simp only[dC]at h ⊢;cases hc:Nat.beq q b with
  | true=>rw[hc]at h; exact .inr (slr q h)
  | false=>rw[hc]at h; exact keep q _ (slr q) h
 | slc q=>exact keep q _ (fun h=>by simp only[RelV]at h; rcases h with⟨_,_,_,_,rfl⟩ | ⟨_,rfl⟩ <;> rfl) h
 | ptr q o=>exact keep q _ (fun h=>by simp only[RelV]at h; obtain⟨_,_,_,_,rfl⟩:=h; rfl) h
 | irow q i=>
  simp only[dC]at h ⊢;cases hc:Nat.beq q b with
  | true=>exact .inl rfl
  | false=>rw[hc]at h; exact keep q _ (irow q i) h
 | pel q k o=>exact keep q _ (fun h=>by simp only[RelV]at h; obtain⟨_,_,_,_,rfl⟩:=h; rfl) h
 | v y=>
  have:a.frz=true:=bP (by simpa only[dC,RelV]using h) a (by simp);right;cases a <;> simp[AV.frz]at this <;> rfl
 | undef=>exact .inl rfl
 | agg ds=>exact absurd rfl (hn ds).1
 | tup ds=>exact absurd rfl (hn ds).2
 | emp=>simp only[dC,RelV]at h; subst h; exact .inr rfl
 | nilp=>simp only[dC,RelV]at h; subst h; exact .inr rfl
 | nilm=>simp only[dC,RelV]at h; subst h; exact .inr rfl
 | elm ds=>simp only[dC,RelV]at h; obtain⟨as,rfl,_⟩:=h; exact .inr rfl
 | fn f ds=>simp only[dC,RelV]at h; obtain⟨as,rfl,_⟩:=h; right; rcases jb f as with⟨_,e⟩ | ⟨_,e⟩ <;> (rw[e]; rfl)
 | rptr b k i j=>simp only[dC,RelV]at h; obtain⟨_,_,_,_,_,rfl⟩:=h; exact .inr rfl
 | slo b k i j=>simp only[dC,RelV]at h; obtain⟨_,_,_,_,_,rfl⟩:=h; exact .inr rfl
 | mp b=>simp only[dC,RelV]at h; obtain⟨_,_,_,_,rfl⟩:=h; exact .inr rfl
 | stk b=>simp only[dC,RelV]at h; obtain⟨_,_,rfl⟩:=h; exact .inr rfl
 | orow b i=>simp only[dC,RelV]at h; obtain⟨_,_,_,_,_,_,rfl⟩:=h; exact .inr rfl
 | iptr b k i j o=>simp only[dC,RelV]at h; obtain⟨_,_,_,_,_,_,_,_,_,_,_,rfl⟩:=h; exact .inr rfl
 | mpl b=>simp only[dC,RelV]at h; obtain⟨_,_,rfl⟩:=h; exact .inr rfl
 | whn g d=>simp only[dC,RelV]at h; obtain⟨_,rfl,_⟩:=h; exact .inr rfl
theorem zI {b:Nat}{d:DV}{a:AV}(hn:∀ ds,d ≠ .agg ds∧d ≠ .tup ds):wJ π S b d a=RelV π (dC S b d) a:=by
 cases d with
 | agg ds=>exact absurd rfl (hn ds).1
 | tup ds=>exact absurd rfl (hn ds).2
 | _=>rfl
theorem uN {b b2:Nat}{x:AObj}{bo co no:Nat}{f:Nat→Option (Nat×Nat×Nat)}(hp:π b=some (.rls bo co no f))(hbo:bo≠b2)(H:∀ c o l y,S.get c=some o→c≠b→π c=some l→l.has y→y≠b2){d:DV}{a:AV}
  (h:wJ π S b d a):wJ π S b d (i6 b2 x [] a):=by
 by_cases hn:∀ ds,d ≠ .agg ds∧d ≠ .tup ds
 ·rw[zI hn]at h ⊢;rcases Fi (b2:=b2) (x:=x) (D:=[]) hn h with e | e
  ·rw[e]; simp only[RelV]
  ·rw[e]; exact qt hp hbo H h
 ·cases d with
  | agg ds=>obtain⟨as,rfl,h⟩:=h; exact⟨_,rfl,jL hp hbo H h⟩
  | tup ds=>obtain⟨as,rfl,h⟩:=h; exact⟨_,rfl,jL hp hbo H h⟩
  | _=>exact absurd (fun ds=>⟨by simp,by simp⟩) hn
structure Frzn (π:Pi) (Fr:Store) (S:DSt) (b:Nat) (e:DEnv) (T T':Nat) (t:Ty) (l:List (List t.den)) (bo co:Nat) (f:Nat→Option (Nat×Nat×Nat)) (s0:Store) (e0:Env) (k:Nat) (ek:Env) (sk:Store):Prop where
 wk:Wk s0 e0 sk ek
 env:∀ u d,bt e u=some d→wJ π S b d (ek u)
 st:RelS π Fr ⟨S.nx,bG (qZ S b) (gi S.m b)⟩ sk
 out:∃ xs,sk bo=some (.row T 1 co xs)∧xs.length=l.length∧(∀ i,i < l.length→i < k→∃ a,xs.getD i []=[a]∧CR (.sl t) (l.getD i []) [a])∧∀ i,i < l.length→k≤i→xs.getD i []=[ilv (f i)]∧IR sk T' t (f i) (l.getD i [])
theorem uO (hS:RelS π Fr S s')(hpk:gl S=true){b:Nat}{e:DEnv}{T T':Nat}{t:Ty}{l:List (List t.den)}{bo co:Nat}{f:Nat→Option (Nat×Nat×Nat)}(hb:S.get b=some (.rows T T' t l))(hp:π b=some (.rls bo co l.length f))
  (hne:∀ i p,i < l.length→f i=some p→p.1≠bo) (hdj:∀ i j p q,i < l.length→j < l.length→f i=some p→f j=some q→p.1=q.1→i=j) {s0:Store} {e0:Env} {k:Nat} (hk:k < l.length) {ek:Env} {sk:Store} (h:Frzn π Fr S b e T T' t l bo co f s0 e0 k ek sk) :
  ∃ ek1 sk1,Frzn π Fr S b e T T' t l bo co f s0 e0 (k+1) ek1 sk1:=by
 obtain⟨hwk,henv,hst,xs,hxs,hxl,hx1,hx2⟩:=h;obtain⟨hxk,hIk⟩:=hx2 k hk (Nat.le_refl _);cases hf:f k with
 | none=>
  rw[hf]at hxk hIk;refine⟨ek,sk,hwk,henv,hst,xs,hxs,hxl,fun i hi hik=>?_,fun i hi hik=>hx2 i hi (by omega)⟩;by_cases e1:i=k
  ·subst e1; exact⟨_,hxk,.inl ⟨rfl,hIk⟩⟩
  ·exact hx1 i hi (by omega)
 | some q=>
  obtain⟨b2,c2,n2⟩:=q;rw[hf]at hxk hIk;obtain⟨hn2,hc2,ys,hs2,hy⟩:=hIk;have hh2:Loc.has (.rls bo co l.length f) b2:=.inr ⟨k,_,hk,hf,rfl⟩;have hbo:bo≠b2:=fun e=>hne k _ hk hf e.symm;have H:∀ c o lc y,S.get c=some o→c≠b→π c=some lc→lc.has y→y≠b2:=fun c o lc y h1 h2 h3 h4 e=>h2 (hS.inj' _ _ _ _ _ _ _ h1 hb h3 hp h4 (e▸hh2));have hF2:Fr b2=none:=hS.out' _ _ _ _ hb hp hh2;have hFo:Fr bo=none:=hS.out' _ _ _ _ hb hp (.inl rfl)
  let x:AObj:=.row T' t.w c2 ys
  have hfrz:oY x:=fun l2 hl a ha=>by
   obtain⟨i,hi,rfl⟩:=List.getElem_of_mem hl;have:=hy.2 i (by rw[← hy.1]; exact hi);have e3:ys.getD i []=ys[i]:=by simp[List.getD_eq_getElem?_getD,List.getElem?_eq_getElem hi]
   rw[e3]at this;exact bP this a ha
  let s1:Store:=fun c'=>if c'=b2 then none else match Fr c' with
   | none=>(sk c').map (qX b2 x [])
   | some _=>sk c'
  have s1v:∀ c' y,c'≠b2→Fr c'=none→sk c'=some y→s1 c'=some (qX b2 x [] y):=fun c' y h1 h2 h3=>by
   show(if c'=b2 then none else _)=_;rw[if_neg h1];simp only[h2,h3,Option.map_some]
  have get:∀ c,(⟨S.nx,bG (qZ S b) (gi S.m b)⟩:DSt).get c=(if c=b then none else S.get c).map (qZ S b):=fun c=>by
   show bt (bG _ _) c=_;rw[bx,cW]; rfl
  have live:∀ c o,(⟨S.nx,bG (qZ S b) (gi S.m b)⟩:DSt).get c=some o→c≠b∧∃ o0,S.get c=some o0∧o=qZ S b o0:=fun c o hc=>by
   rw[get]at hc;split at hc
   ·cases hc
   ·rename_i hne;cases hg:S.get c with
    | none=>rw[hg]at hc; cases hc
    | some o0=>rw[hg]at hc; cases hc; exact⟨hne,o0,rfl,rfl⟩
  have H':∀ c o lc y,(⟨S.nx,bG (qZ S b) (gi S.m b)⟩:DSt).get c=some o→c≠b→π c=some lc→lc.has y→y≠b2:=fun c o lc y h1 h2 h3 h4=>by
   obtain⟨_,o0,h0,_⟩:=live c o h1;exact H c o0 lc y h0 h2 h3 h4
  have hpk':∀ c p,(⟨S.nx,bG (qZ S b) (gi S.m b)⟩:DSt).get c=some (.pmap p)→∃ o,(⟨S.nx,bG (qZ S b) (gi S.m b)⟩:DSt).get p=some o:=fun c p hc=>by
   obtain⟨_,o0,h0,e0⟩:=live c _ hc;have:o0 = .pmap p:=by cases o0 <;> simp[qZ]at e0; rw[e0]
   subst this;obtain⟨o,ho⟩:=jg hpk h0;have hpb:p≠b:=fun e=>by
    subst e;obtain⟨_,_,_,g,_,q2,_⟩:=hS.obj _ _ h0;rw[hp]at q2; cases q2
   exact⟨qZ S b o,by rw[get,if_neg hpb,ho]; rfl⟩
  refine⟨fun u=>i6 b2 x [] (ek u),s1,hwk.trans (Wk.frz [] hs2 hfrz ?_ (fun c'=>?_) (fun u=>.inr (.inr rfl))),fun u d hu=>uN hp hbo H (henv u d hu),⟨fun c o hc=>?_,hst.inj',fun b3 y h3=>?_,hst.out',hst.nx⟩,xs.map fun l=>l.map (fv b2 x []),?_,by simpa using hxl,fun i hi hik=>?_,fun i hi hik=>?_⟩
  ·show(if b2=b2 then none else _)=none;rw[if_pos rfl]
  ·by_cases hcb:c'=b2
   ·left; show(if c'=b2 then none else _)=none; rw[if_pos hcb]
   ·cases hfr:Fr c' with
    | none=>right; right; show(if c'=b2 then none else _)=_; rw[if_neg hcb]; simp only[hfr]; rfl
    | some y=>right; left; show(if c'=b2 then none else _)=_; rw[if_neg hcb]; simp only[hfr]
  ·obtain⟨hne',o0,h0,rfl⟩:=live c o hc;have hO:=hst.obj _ _ hc;cases o0 with
   | box cs=>
    obtain⟨b3,c3,n3,as,g1,g2,g3⟩:=hO;exact⟨b3,c3,n3,_,g1,s1v _ _ (H _ _ _ _ h0 hne' g1 rfl) (hS.out' _ _ _ _ h0 g1 rfl) g2,jL hp hbo H g3⟩
   | _=>exact pv (x:=x) (D:=[]) hst hpk' s1v H' (fun g hg=>by rw[hp]at hg; cases hg) hc hne' (fun cs h=>by cases h)
  ·have:b3≠b2:=fun e=>by rw[e,hF2]at h3; cases h3
   show(if b3=b2 then none else _)=_;rw[if_neg this];simp only[h3];exact hst.frm _ _ h3
  ·exact s1v _ _ hbo hFo hxs
  ·have hi':i < xs.length:=by rw[hxl]; exact hi
   have e3:(xs.map fun l=>l.map (fv b2 x [])).getD i []=(xs.getD i []).map (fv b2 x []):=by
    simp[List.getD_eq_getElem?_getD,List.getElem?_map,hi']
   rw[e3];by_cases e1:i=k
   ·subst e1;rw[hxk];refine⟨_,rfl,.inr ⟨fun j=>ys.getD j [],?_,hy.2⟩⟩;simp only[ilv,fv,if_true,x];rw[if_pos ⟨by rw[hn2,hy.1]; exact Nat.le_refl _,hc2⟩,hn2]
   ·obtain⟨a,ha,hcr⟩:=hx1 i hi (by omega);rw[ha];exact⟨a,by rw[List.map_cons,List.map_nil,kF (bP hcr a (by simp))],hcr⟩
  ·have hi':i < xs.length:=by rw[hxl]; exact hi
   have e3:(xs.map fun l=>l.map (fv b2 x [])).getD i []=(xs.getD i []).map (fv b2 x []):=by
    simp[List.getD_eq_getElem?_getD,List.getElem?_map,hi']
   obtain⟨g1,g2⟩:=hx2 i hi (by omega);have nb:∀ p,f i=some p→p.1≠b2:=fun p hpi e1=>by
    have:=hdj i k p _ hi hk hpi hf e1;omega
   rw[e3,g1,List.map_cons,List.map_nil,mO nb];refine⟨rfl,?_⟩;cases hfi:f i with
   | none=>rw[hfi]at g2; exact g2
   | some p=>
    obtain⟨b3,c3,n3⟩:=p;rw[hfi]at g2;obtain⟨k1,k2,zs,k3,k4⟩:=g2;refine⟨k1,k2,zs,?_,k4⟩;rw[s1v _ _ (nb _ hfi) (hS.out' _ _ _ _ hb hp (.inr ⟨i,_,hi,hfi,rfl⟩)) k3];simp only[x,qX,gX k4]
theorem mP {b:Nat}{bo co no:Nat}{f:Nat→Option (Nat×Nat×Nat)}(hp:π b=some (.rls bo co no f))(hx:Ext π (addP π S.nx (.real bo co no))){d:DV}{a:AV}(h:RelV π (dC S b d) a):RelV (addP π S.nx (.real bo co no)) (vq S b d) a:=by
 cases d with
 | slr q=>
  simp only[dC,vq]at h ⊢;cases hc:Nat.beq q b with
  | true=>
   rw[hc]at h;obtain rfl:=ai.1 hc;simp only[cond_true]at h ⊢;simp only[RelV]at h ⊢;rcases h with⟨b3,c3,n3,f3,hp3,rfl⟩ | ⟨hp3,rfl⟩
   ·rw[hp]at hp3; cases hp3;exact .inl ⟨bo,_,_,addP_same _ _ _,rfl⟩
   ·rw[hp]at hp3; cases hp3
  | false=>rw[hc]at h; exact h.ext hx
 | irow q i=>
  simp only[dC,vq]at h ⊢;cases hc:Nat.beq q b with
  | true=>simp only[cond_true,RelV]
  | false=>rw[hc]at h; exact h.ext hx
 | _=>exact h.ext hx
theorem fg {b:Nat}{bo co no:Nat}{f:Nat→Option (Nat×Nat×Nat)}(hp:π b=some (.rls bo co no f))(hx:Ext π (addP π S.nx (.real bo co no))):∀ {ds:List DV} {as:List AV},RelVs π (ds.map (dC S b)) as→RelVs (addP π S.nx (.real bo co no)) (ds.map (vq S b)) as
 | [],as,h=>by simp only[List.map_nil,RelVs]at h; subst h; exact RelVs_nil
 | d::ds,as,h=>by
  simp only[List.map_cons,RelVs]at h;obtain⟨a,as',rfl,h1,h2⟩:=h;exact RelVs_cons (mP hp hx h1) (fg hp hx h2)
theorem qu {b:Nat}(hp:π b=some .virt)(hx:Ext π (addP π S.nx .virt)){d:DV}{a:AV}(h:RelV π d a):RelV (addP π S.nx .virt) (vq S b d) a:=by
 cases d with
 | slr q=>
  simp only[vq];cases hc:Nat.beq q b with
  | true=>
   obtain rfl:=ai.1 hc;simp only[cond_true];simp only[RelV]at h ⊢;rcases h with⟨b3,c3,n3,f3,hp3,rfl⟩ | ⟨hp3,rfl⟩
   ·rw[hp]at hp3; cases hp3
   ·exact .inr ⟨addP_same _ _ _,rfl⟩
  | false=>exact bJ (h.ext hx)
 | slc q=>exact bJ (h.ext hx)
 | ptr q o=>exact bJ (h.ext hx)
 | irow q i=>
  simp only[vq];cases hc:Nat.beq q b with
  | true=>simp only[cond_true,RelV]
  | false=>exact bJ (h.ext hx)
 | pel q k o=>exact bJ (h.ext hx)
 | _=>exact h.ext hx
theorem iv {b:Nat}(hp:π b=some .virt)(hx:Ext π (addP π S.nx .virt)):∀ {ds:List DV} {as:List AV},RelVs π ds as→RelVs (addP π S.nx .virt) (ds.map (vq S b)) as
 | [],as,h=>by simp only[RelVs]at h; subst h; exact RelVs_nil
 | d::ds,as,h=>by
  simp only[RelVs]at h;obtain⟨a,as',rfl,h1,h2⟩:=h;exact RelVs_cons (qu hp hx h1) (iv hp hx h2)
theorem rM (hS:RelS π Fr S s')(hpk:gl S=true){e:DEnv}{e':Env}(hE:RelE π e e'){b T T':Nat}{t:Ty}{l:List (List t.den)}(hb:S.get b=some (.rows T T' t l)):
  ∃ π1 e1' s1,Ext π π1∧Wk s' e' s1 e1'∧RelE π1 (bG (Gb S b) e) e1'∧RelS π1 Fr ⟨S.nx+1,j0 (bG (Fc S b) (gi S.m b)) S.nx (.row T (.sl t) l)⟩ s1:=by
 have get:∀ c,(⟨S.nx+1,j0 (bG (Fc S b) (gi S.m b)) S.nx (.row T (.sl t) l)⟩:DSt).get c=if c=S.nx then some (.row T (.sl t) l)else(if c=b then none else S.get c).map (Fc S b):=fun c=>by
  show bt (j0 (bG _ _) _ _) c=_;rw[cN,bx,cW]; rfl
 have inv:∀ c o,(⟨S.nx+1,j0 (bG (Fc S b) (gi S.m b)) S.nx (.row T (.sl t) l)⟩:DSt).get c=some o→(c=S.nx∧o = .row T (.sl t) l)∨(c≠S.nx∧c≠b∧∃ o0,S.get c=some o0∧o=Fc S b o0):=fun c o hc=>by
  rw[get]at hc;split at hc
  ·rename_i e1; cases hc; exact .inl ⟨e1,rfl⟩
  ·rename_i e1;split at hc
   ·cases hc
   ·rename_i e2;cases hg:S.get c with
    | none=>rw[hg]at hc; cases hc
    | some o0=>rw[hg]at hc; cases hc; exact .inr ⟨e1,e2,o0,rfl,rfl⟩
 rcases hS.obj _ _ hb with⟨hv,rfl⟩ | ⟨bo,co,f,hp,hR⟩
 ·have hx:Ext π (addP π S.nx .virt):=cA (hS.nx _ (Nat.le_refl _)) _;refine⟨_,e',s',hx,Wk.refl _ _,fun u d hu=>?_,fun c o hc=>?_,fun b1 b2 o1 o2 l1 l2 y h1 h2 p1 p2 x1 x2=>?_,hS.frm,fun c o lc y hc hl hy=>?_,fun c hc=>?_⟩
  ·rw[bx]at hu;cases hg:bt e u with
   | none=>rw[hg]at hu; cases hu
   | some d0=>
    rw[hg]at hu;cases hu;have hd:=hE u d0 hg;cases d0 with
    | agg cs=>
     simp only[Gb];simp only[RelV]at hd ⊢;obtain⟨as,e1,hd⟩:=hd;exact⟨as,e1,iv hv hx hd⟩
    | tup cs=>
     simp only[Gb];simp only[RelV]at hd ⊢;obtain⟨as,e1,hd⟩:=hd;exact⟨as,e1,iv hv hx hd⟩
    | _=>exact qu hv hx hd
  ·rcases inv c o hc with⟨rfl,rfl⟩ | ⟨e1,e2,o0,h0,rfl⟩
   ·exact .inl ⟨addP_same _ _ _,rfl⟩
   ·have hO:=hS.obj _ _ h0;cases o0 with
    | box cs=>
     obtain⟨b3,c3,n3,as,g1,g2,g3⟩:=hO;exact⟨b3,c3,n3,as,hx _ _ g1,g2,iv hv hx g3⟩
    | _=>exact hO.mono hx fun _ _ _ _=>rfl
  ·have f1:b1≠S.nx:=fun e=>by rw[e,addP_same]at p1; cases p1; exact x1
   have f2:b2≠S.nx:=fun e=>by rw[e,addP_same]at p2; cases p2; exact x2
   rcases inv _ _ h1 with⟨e1,_⟩ | ⟨_,_,o3,h3,_⟩
   ·exact absurd e1 f1
   ·rcases inv _ _ h2 with⟨e1,_⟩ | ⟨_,_,o4,h4,_⟩
    ·exact absurd e1 f2
    ·rw[addP_ne _ _ f1]at p1;rw[addP_ne _ _ f2]at p2;exact hS.inj' _ _ _ _ _ _ _ h3 h4 p1 p2 x1 x2
  ·have f1:c≠S.nx:=fun e=>by rw[e,addP_same]at hl; cases hl; exact hy
   rcases inv _ _ hc with⟨e1,_⟩ | ⟨_,_,o3,h3,_⟩
   ·exact absurd e1 f1
   ·rw[addP_ne _ _ f1]at hl;exact hS.out' _ _ _ _ h3 hl hy
  ·have hc:S.nx+1≤c:=hc;rw[addP_ne _ _ (by omega)]; exact hS.nx _ (by omega)
 ·have hx:Ext π (addP π S.nx (.real bo co l.length)):=cA (hS.nx _ (Nat.le_refl _)) _;have getk:∀ c,(⟨S.nx,bG (qZ S b) (gi S.m b)⟩:DSt).get c=(if c=b then none else S.get c).map (qZ S b):=fun c=>by
   show bt (bG _ _) c=_;rw[bx,cW]; rfl
  have livek:∀ c o,(⟨S.nx,bG (qZ S b) (gi S.m b)⟩:DSt).get c=some o→c≠b∧∃ o0,S.get c=some o0∧o=qZ S b o0:=fun c o hc=>by
   rw[getk]at hc;split at hc
   ·cases hc
   ·rename_i hne;cases hg:S.get c with
    | none=>rw[hg]at hc; cases hc
    | some o0=>rw[hg]at hc; cases hc; exact⟨hne,o0,rfl,rfl⟩
  have all:∀ k,k≤l.length→∃ ek sk,Frzn π Fr S b e T T' t l bo co f s' e' k ek sk:=fun k=>by
   induction k with
   | zero=>
    intro _;obtain⟨xs,h1,h2,h3⟩:=hR.ex;refine⟨e',s',Wk.refl _ _,fun u d hu=>zH (hE u d hu),⟨fun c o hc=>?_,fun b1 b2 o1 o2 l1 l2 y g1 g2 p1 p2 x1 x2=>?_,hS.frm,fun c o lc y hc hl hy=>?_,hS.nx⟩,xs,h1,h2,fun i _ hi=>by omega,fun i hi _=>⟨h3 i hi,hR.ir i hi⟩⟩
    ·obtain⟨_,o0,h0,rfl⟩:=livek c o hc;have hO:=hS.obj _ _ h0;cases o0 with
     | box cs=>
      obtain⟨b3,c3,n3,as,g1,g2,g3⟩:=hO;exact⟨b3,c3,n3,as,g1,g2,lQ g3⟩
     | _=>exact hO
    ·obtain⟨_,o3,h3,_⟩:=livek _ _ g1;obtain⟨_,o4,h4,_⟩:=livek _ _ g2;exact hS.inj' _ _ _ _ _ _ _ h3 h4 p1 p2 x1 x2
    ·obtain⟨_,o3,h3,_⟩:=livek _ _ hc;exact hS.out' _ _ _ _ h3 hl hy
   | succ k ih=>
    intro hk;obtain⟨ek,sk,h⟩:=ih (by omega);exact uO hS hpk hb hp hR.ne hR.dj (by omega) h
  obtain⟨ek,sk,hwk,henv,hst,xs,hxs,hxl,hx1,_⟩:=all l.length (Nat.le_refl _);have crs:lL (.sl t) l xs:=⟨hxl,fun i hi=>by
   obtain⟨a,ha,hcr⟩:=hx1 i hi hi;rw[ha]; exact hcr⟩
  have notnx:∀ {c o},S.get c=some o→c≠S.nx:=fun {c o} h=>by
   obtain⟨lc,hl⟩:=(hS.obj _ _ h).loc;exact hS.lt hl
  refine⟨_,ek,sk,hx,hwk,fun u d hu=>?_,fun c o hc=>?_,fun b1 b2 o1 o2 l1 l2 y h1 h2 p1 p2 x1 x2=>?_,hst.frm,fun c o lc y hc hl hy=>?_,fun c hc=>?_⟩
  ·rw[bx]at hu;cases hg:bt e u with
   | none=>rw[hg]at hu; cases hu
   | some d0=>
    rw[hg]at hu;cases hu;have hd:=henv u d0 hg;cases d0 with
    | agg cs=>
     obtain⟨as,e1,hd⟩:=hd;simp only[Gb,RelV];exact⟨as,e1,fg hp hx hd⟩
    | tup cs=>
     obtain⟨as,e1,hd⟩:=hd;simp only[Gb,RelV];exact⟨as,e1,fg hp hx hd⟩
    | _=>exact mP hp hx hd
  ·rcases inv c o hc with⟨rfl,rfl⟩ | ⟨e1,e2,o0,h0,rfl⟩
   ·exact .inr ⟨bo,co,xs,addP_same _ _ _,hR.cap,hxs,crs⟩
   ·have hk:(⟨S.nx,bG (qZ S b) (gi S.m b)⟩:DSt).get c=some (qZ S b o0):=by rw[getk,if_neg e2,h0]; rfl
    have hO:=hst.obj _ _ hk;cases o0 with
    | box cs=>
     obtain⟨b3,c3,n3,as,g1,g2,g3⟩:=hO;exact⟨b3,c3,n3,as,hx _ _ g1,g2,fg hp hx g3⟩
    | _=>exact hO.mono hx fun _ _ _ _=>rfl
  ·have key:∀ c o lc y,c≠S.nx→(⟨S.nx+1,j0 (bG (Fc S b) (gi S.m b)) S.nx (.row T (.sl t) l)⟩:DSt).get c=some o→π c=some lc→lc.has y→y≠bo:=fun c o lc y hne hc hl hy e=>by
    rcases inv _ _ hc with⟨e1,_⟩ | ⟨_,e2,o3,h3,_⟩
    ·exact hne e1
    ·exact e2 (hS.inj' _ _ _ _ _ _ _ h3 hb hl hp hy (by rw[e]; exact .inl rfl))
   by_cases f1:b1=S.nx <;> by_cases f2:b2=S.nx
   ·rw[f1,f2]
   ·rw[f1,addP_same]at p1; cases p1;rw[addP_ne _ _ f2]at p2;exact absurd x1 (key _ _ _ _ f2 h2 p2 x2)
   ·rw[f2,addP_same]at p2; cases p2;rw[addP_ne _ _ f1]at p1;exact absurd x2 (key _ _ _ _ f1 h1 p1 x1)
   ·rw[addP_ne _ _ f1]at p1;rw[addP_ne _ _ f2]at p2;rcases inv _ _ h1 with⟨e1,_⟩ | ⟨_,_,o3,h3,_⟩
    ·exact absurd e1 f1
    ·rcases inv _ _ h2 with⟨e1,_⟩ | ⟨_,_,o4,h4,_⟩
     ·exact absurd e1 f2
     ·exact hS.inj' _ _ _ _ _ _ _ h3 h4 p1 p2 x1 x2
  ·by_cases f1:c=S.nx
   ·rw[f1,addP_same]at hl; cases hl;cases hy;exact hS.out' _ _ _ _ hb hp (.inl rfl)
   ·rw[addP_ne _ _ f1]at hl;rcases inv _ _ hc with⟨e1,_⟩ | ⟨_,_,o3,h3,_⟩
    ·exact absurd e1 f1
    ·exact hS.out' _ _ _ _ h3 hl hy
  ·have hc:S.nx+1≤c:=hc;rw[addP_ne _ _ (by omega)]; exact hS.nx _ (by omega)
theorem uP (hS:RelS π Fr S s'){e:DEnv}{e':Env}(hE:RelE π e e'){b:Nat}{e1:DEnv}{S1:DSt}(h:LE e S b=some (e1,S1)):∃ π1 e1' s1,Ext π π1∧Wk s' e' s1 e1'∧RelE π1 e1 e1'∧RelS π1 Fr S1 s1:=by
 unfold LE at h;cases hpk:gl S with
 | false=>rw[hpk]at h; cases h
 | true=>
 rw[hpk]at h;simp only[cond_true]at h;split at h
 ·rename_i cs hb;cases hz:cs.all DV.fzn with
  | false=>rw[hz]at h; cases h
  | true=>
   rw[hz]at h;obtain⟨e2,s2,g1,g2,g3⟩:=rL hS hpk hE hb hz h;exact⟨π,e2,s2,Ext.refl _,g1,g2,g3⟩
 ·rename_i T t l hb;obtain⟨e2,s2,g1,g2,g3⟩:=rK hS hpk hE hb h;exact⟨π,e2,s2,Ext.refl _,g1,g2,g3⟩
 ·rename_i T T' t l hb;cases h;exact rM hS hpk hE hb
 ·cases h
end
end Go.Proofs.Ytjoncejabdjekaa.D

set_option linter.unusedVariables false
set_option linter.unusedSectionVars false
set_option linter.unusedSimpArgs false
namespace Go.Proofs.Ytjoncejabdjekaa.D
open Go Go.Proofs.Ytjoncejabdjekaa.L
variable [YP]
section
variable {π:Pi} {Fr:Store} {S:DSt} {s':Store}
theorem Fj (π:Pi)(S:DSt):HR π S [] (fun _=>False):=⟨fun b hb=>by simp at hb,fun b _ _ _ hb=>by simp at hb,fun _ h=>h.elim⟩
theorem fM {P:Program}{T:List FEnt}(hT:aw P T){α:Type}{k:DEnv→DSt→Option α}{r:α}{K:Env→Store→Prop}:∀ (l:List DOper) {π:Pi} {S:DSt} {s':Store} {e:DEnv} {e':Env},A3 T l k e S=some r→RelE π e e'→RelS π Fr S s' →
  (∀ e1 S1 π1 e1' s1,k e1 S1=some r→Ext π π1→RelE π1 e1 e1'→RelS π1 Fr S1 s1→K e1' s1)→vn P [] (dI l) K e' s'
 | [],π,S,s',e,e',h,hE,hS,hK=>⟨e',s',Wk.refl _ _,hK _ _ π _ _ h (Ext.refl _) hE hS⟩
 | .op o a::l,π,S,s',e,e',h,hE,hS,hK=>by
  simp only[A3]at h;exact⟨e',s',Wk.refl _ _,oh hT h hE hS (Fj π S) fun e1 S1 π1 e1' s1 g1 g2 g3 g4 g5=>
   fM hT l g1 g3 g4 fun e2 S2 π2 e2' s2 q1 q2 q3 q4=>hK _ _ π2 _ _ q1 (g2.trans q2) q3 q4⟩
 | .fz u p::l,π,S,s',e,e',h,hE,hS,hK=>by
  simp only[A3]at h;split at h
  ·split at h
   ·rename_i b hb e1 S1 hz;obtain⟨π1,e1',s1,hx,w,g1,g2⟩:=uP hS hE hz;exact EU w _ (fM hT l h g1 g2 fun e2 S2 π2 e2' s2 q1 q2 q3 q4=>hK _ _ π2 _ _ q1 (hx.trans q2) q3 q4)
   ·cases h
  ·exact fM hT l h hE hS hK
theorem mQ {P:Program}{T:List FEnt}(hT:aw P T){RD:List Nat}{R:Nat→Prop}{α:Type}{k:DEnv→DSt→Option α}{r:α}{K:Env→Store→Prop}:∀ (l:List (AOper×sI)) {π:Pi} {S:DSt} {s':Store} {e:DEnv} {e':Env},zz RD T l k e S=some r→RelE π e e'→RelS π Fr S s'→HR π S RD R →
  (∀ e1 S1 π1 e1' s1,k e1 S1=some r→Ext π π1→RelE π1 e1 e1'→RelS π1 Fr S1 s1→K e1' s1)→xr P [] R (l.map (·.1)) K e' s'
 | [],π,S,s',e,e',h,hE,hS,hH,hK=>hK _ _ π _ _ h (Ext.refl _) hE hS
 | (o,a)::l,π,S,s',e,e',h,hE,hS,hH,hK=>by
  simp only[zz]at h;exact oh hT h hE hS hH fun e1 S1 π1 e1' s1 g1 g2 g3 g4 g5=>
   mQ hT l g1 g3 g4 g5 fun e2 S2 π2 e2' s2 q1 q2 q3 q4=>hK _ _ π2 _ _ q1 (g2.trans q2) q3 q4
theorem mR {e:DEnv}{e':Env}(hE:RelE π e e')(hS:RelS π Fr S s'):∀ {rs RD:List Nat},zB e S rs=some RD→HR π S RD (rOf e' rs)∧∀ b,rOf e' rs b→own s' b
 | [],RD,h=>by
  cases h;exact⟨⟨fun b hb=>by simp at hb,fun b _ _ _ hb=>by simp at hb,fun _ h=>h.elim⟩,fun b h=>h.elim⟩
 | t::l,RD,h=>by
  simp only[zB]at h;split at h
  ·rename_i bs hbs;obtain⟨h1,h2⟩:=mR hE hS hbs;have hr:RelV π (e.get t) (e' t):=dx hE (.t t);have name:∀ b o,S.get b=some o→RD=b::bs→(∀ b' c n,π b=some (.real b' c n)→o6 (e' t).val=some b')→(∀ b',o6 (e' t).val=some b'→∃ l,π b=some l∧l.has b')→HR π S RD (rOf e' (t::l))∧∀ b,rOf e' (t::l) b→own s' b:=by
    intro b o hb e1 n1 n2;subst e1;refine⟨⟨fun c hc=>?_,fun c b' m n hc hp=>?_,fun b' hR=>?_⟩,fun b' hR=>?_⟩
    ·rcases List.mem_cons.1 (cY.1 hc)with rfl | hc
     ·exact⟨o,hb,(hS.obj _ _ hb).loc⟩
     ·exact h1.live c (cY.2 hc)
    ·rcases List.mem_cons.1 (cY.1 hc)with rfl | hc
     ·exact .inl (n1 _ _ _ hp)
     ·exact .inr (h1.to c b' m n (cY.2 hc) hp)
    ·rcases hR with hR | hR
     ·obtain⟨l,hp,hh⟩:=n2 _ hR; exact⟨b,l,cY.2 (by simp),hp,hh⟩
     ·obtain⟨c,m,q1,q2,q3⟩:=h1.of b' hR; exact⟨c,m,cY.2 (by simp[cY.1 q1]),q2,q3⟩
    ·rcases hR with hR | hR
     ·obtain⟨l,hp,hh⟩:=n2 _ hR; exact(hS.obj _ _ hb).some'' hp hh
     ·exact h2 b' hR
   have none':RD=bs→o6 (e' t).val=none→HR π S RD (rOf e' (t::l))∧∀ b,rOf e' (t::l) b→own s' b:=by
    intro e1 hn;subst e1;have iff:∀ b,rOf e' (t::l) b↔rOf e' l b:=fun b=>⟨fun h=>h.elim (fun h=>by rw[hn]at h; cases h) id,.inr⟩
    exact⟨⟨h1.live,fun c b' m n hc hp=>(iff _).2 (h1.to c b' m n hc hp),fun b' hR=>h1.of b' ((iff _).1 hR)⟩,fun b' hR=>h2 b' ((iff _).1 hR)⟩
   split at h
   ·rename_i b o hg;rw[hg]at hr;simp only[RelV]at hr;obtain⟨b',c,n,hp,e1⟩:=hr;split at h
    ·rename_i o2 hb;cases h;exact name b o2 hb rfl (fun b2 c2 n2 hp2=>by rw[hp]at hp2; cases hp2; rw[e1]; rfl) (fun b2 hn=>by rw[e1]at hn; cases hn; exact⟨_,hp,rfl⟩)
    ·cases h
   ·rename_i b k i j hg;rw[hg]at hr;simp only[RelV]at hr;obtain⟨b',c,n,hp,_,e1⟩:=hr;split at h
    ·rename_i o2 hb;cases h;exact name b o2 hb rfl (fun b2 c2 n2 hp2=>by rw[hp]at hp2; cases hp2; rw[e1]; rfl) (fun b2 hn=>by rw[e1]at hn; cases hn; exact⟨_,hp,rfl⟩)
    ·cases h
   ·rename_i b hg;rw[hg]at hr;simp only[RelV]at hr;split at h
    ·rename_i o2 hb;cases h;rcases hr with⟨b',c,n,hp,e1⟩ | ⟨hp,e1⟩
     ·exact name b o2 hb rfl (fun b2 c2 n2 hp2=>by rw[hp]at hp2; cases hp2; rw[e1]; rfl) (fun b2 hn=>by rw[e1]at hn; cases hn; exact⟨_,hp,rfl⟩)
     ·exact name b o2 hb rfl (fun b2 c2 n2 hp2=>by rw[hp]at hp2; cases hp2) (fun b2 hn=>by rw[e1]at hn; cases hn)
    ·cases h
   ·rename_i b k i j hg;rw[hg]at hr;simp only[RelV]at hr;obtain⟨b',c,n,hp,_,e1⟩:=hr;split at h
    ·rename_i o2 hb;cases h;exact name b o2 hb rfl (fun b2 c2 n2 hp2=>by rw[hp]at hp2; cases hp2; rw[e1]; rfl) (fun b2 hn=>by rw[e1]at hn; cases hn; exact⟨_,hp,rfl⟩)
    ·cases h
   ·rename_i b hg;rw[hg]at hr;simp only[RelV]at hr;obtain⟨b',c,n,hp,e1⟩:=hr;split at h
    ·rename_i o2 hb;cases h;exact name b o2 hb rfl (fun b2 c2 n2 hp2=>by rw[hp]at hp2; cases hp2; rw[e1]; rfl) (fun b2 hn=>by rw[e1]at hn; cases hn; exact⟨_,hp,rfl⟩)
    ·cases h
   ·rename_i b hg;rw[hg]at hr;simp only[RelV]at hr;split at h
    ·rename_i o2 hb;cases h;rcases hr with⟨b',c,n,f,hp,e1⟩ | ⟨hp,e1⟩
     ·exact name b o2 hb rfl (fun b2 c2 n2 hp2=>by rw[hp]at hp2; cases hp2) (fun b2 hn=>by rw[e1]at hn; cases hn; exact⟨_,hp,.inl rfl⟩)
     ·exact name b o2 hb rfl (fun b2 c2 n2 hp2=>by rw[hp]at hp2; cases hp2) (fun b2 hn=>by rw[e1]at hn; cases hn)
    ·cases h
   ·rename_i b i hg;rw[hg]at hr;simp only[RelV]at hr;obtain⟨b',c,n,f,hp,hi,e1⟩:=hr;split at h
    ·rename_i o2 hb;cases h;exact name b o2 hb rfl (fun b2 c2 n2 hp2=>by rw[hp]at hp2; cases hp2) (fun b2 hn=>by rw[e1]at hn; cases hn; exact⟨_,hp,.inl rfl⟩)
    ·cases h
   ·rename_i b i hg;rw[hg]at hr;simp only[RelV]at hr;obtain⟨b',c,n,f,hp,hi,e1⟩:=hr;split at h
    ·rename_i o2 hb;cases h;refine name b o2 hb rfl (fun b2 c2 n2 hp2=>by rw[hp]at hp2; cases hp2) (fun b2 hn=>?_);rw[e1]at hn;cases hf:f i with
     | none=>rw[hf]at hn; cases hn
     | some q=>obtain⟨q1,q2,q3⟩:=q; rw[hf]at hn; cases hn; exact⟨_,hp,.inr ⟨i,_,hi,hf,rfl⟩⟩
    ·cases h
   ·rename_i b k i j o hg;rw[hg]at hr;simp only[RelV]at hr;obtain⟨b',c,n,f,b2,c2,n2,hp,hi,hf,hj,e1⟩:=hr;split at h
    ·rename_i o2 hb;cases h;exact name b o2 hb rfl (fun b2 c2 n2 hp2=>by rw[hp]at hp2; cases hp2) (fun b2 hn=>by rw[e1]at hn; cases hn; exact⟨_,hp,.inr ⟨i,_,hi,hf,rfl⟩⟩)
    ·cases h
   ·rename_i b k o hg;rw[hg]at hr;simp only[RelV]at hr;obtain⟨g,y,hp,hgk,e1⟩:=hr;split at h
    ·rename_i o2 hb;cases h;exact name b o2 hb rfl (fun b2 c2 n2 hp2=>by rw[hp]at hp2; cases hp2) (fun b2 hn=>by rw[e1]at hn; cases hn; exact⟨_,hp,k,hgk⟩)
    ·cases h
   ·rename_i x hg;rw[hg]at hr;have hfrz:(e' t).frz=true:=bP (by simpa only[RelV]using hr) _ (by simp);cases ho:E6 x.t with
    | false=>rw[ho]at h; cases h
    | true=>
     rw[ho]at h; cases h;refine none' rfl ?_
     revert hfrz; cases e' t <;> intro hfrz <;> simp[AV.frz]at hfrz <;> rfl
   ·rename_i cs hg;rw[hg]at hr;simp only[RelV]at hr;obtain⟨as,e1,_⟩:=hr;cases h;exact none' rfl (by rw[e1]; rfl)
   ·cases h
  ·cases h
theorem sW {a b:Exit}(h:uB a b=true):a=b:=by
 cases a <;> cases b <;> simp only[uB]at h <;> first
  | rfl
  | cases h
  | (rw[ai.1 h])
theorem kH {β:Type}{f:XSh→List Leaf→Option β}{r:β}{ex:Exit}{e:DEnv}{S:DSt}:∀ {xs:List XSh} {y:XD xs},ph xs ex e S=some y→sK xs y f=some r→∃ a z,a.ex=ex∧GY a e S=some z∧f a (ofDens a.o.ts z)=some r
 | [],y,h,_=>by simp[ph]at h
 | [a],y,h,h2=>by
  simp only[ph]at h;cases he:uB a.ex ex with
  | false=>rw[he]at h; cases h
  | true=>rw[he]at h; exact⟨a,y,sW he,h,h2⟩
 | a::b::l,y,h,h2=>by
  simp only[ph]at h;split at h
  ·rename_i z hz;cases h;cases he:uB a.ex ex with
   | false=>rw[he]at hz; cases hz
   | true=>rw[he]at hz; exact⟨a,z,sW he,hz,h2⟩
  ·split at h
   ·rename_i z hz;cases h;exact kH (xs:=b::l) hz h2
   ·cases h
theorem cB {e:DEnv}{e':Env}(hE:RelE π e e'):∀ (rs:List Nat),RelVs π (ws e rs) (rs.map e')
 | []=>RelVs_nil
 | t::l=>RelVs_cons (dx hE (.t t)) (cB hE l)
theorem eN {e':Env}:∀ {rs:List Nat} {ds:List DV},RelVs π ds (rs.map e')→RelE π (eT rs ds) e'
 | [],ds,h=>by intro t d ht; cases ds <;> simp[eT,bt]at ht
 | r::rs,ds,h=>by
  cases ds with
  | nil=>intro t d ht; simp[eT,bt]at ht
  | cons d0 ds=>
   simp only[List.map_cons,RelVs]at h;obtain⟨a,as',e1,h1,h2⟩:=h;cases e1;intro t d ht;simp only[eT,bt]at ht;by_cases e2:r=t
   ·subst e2; simp at ht; subst ht; exact h1
   ·simp only[bO e2,cond_false]at ht; exact eN h2 t d ht
theorem gY {ids:List Nat}{k:Nat}(h:ids.any (Nat.beq k)=true):bt (qg ids) k=some (some k):=by
 induction ids with
 | nil=>simp at h
 | cons c ids ih=>
  by_cases e:c=k
  ·subst e; simp[qg,bt]
  ·have h':ids.any (Nat.beq k)=true:=by
    rcases List.mem_cons.1 (cY.1 h)with h | h
    ·exact absurd h.symm e
    ·exact cY.2 h
   have:=ih h';simp only[qg,List.map_cons,bt,bO e,cond_false]at this ⊢;exact this
theorem fN {l m:List Nat}(h:gm l m=true){k:Nat}(hk:l.any (Nat.beq k)=true):m.any (Nat.beq k)=true:=List.all_eq_true.1 h k (cY.1 hk)
theorem jM {sh:StSh}{l:List Leaf}{ds:List DV}{os:List (Nat×DObj)}(h:fillSt (fun k=>k) sh l=some (ds,os)){k:Nat}(hk:(sh.objs.map (·.1)).any (Nat.beq k)=true):∃ o,bt os k=some o:=by
 unfold fillSt at h;split at h
 ·split at h
  ·rename_i ho;cases h;have:=gU ho;have hm:k∈os.map (·.1):=by rw[this]; exact cY.1 hk
   obtain⟨⟨k2,o⟩,h1,rfl⟩:=List.mem_map.1 hm;exact sP h1
  ·cases h
 ·cases h
def dO (s:Store)(q:Nat)(x:Option AObj):Store:=fun c=>if c=q then x else s c
theorem cn (s:Store)(q:Nat)(x:Option AObj):dO s q x q=x:=by simp[dO]
theorem gv (s:Store){q c:Nat}(x:Option AObj)(h:c≠q):dO s q x c=s c:=by simp[dO,h]
theorem jN (s:Store)(q:Nat)(x y:Option AObj):dO (dO s q x) q y=dO s q y:=by
 funext c; unfold dO; split <;> rfl
theorem oi (s:Store)(q:Nat):dO s q (s q)=s:=by
 funext c; unfold dO; split
 ·rename_i h; rw[h]
 ·rfl
theorem gZ (hS:RelS π Fr S s'){q:Nat}(hno:∀ b o l y,S.get b=some o→π b=some l→l.has y→y≠q)(x:Option AObj):RelS π (dO Fr q x) S (dO s' q x):=by
 refine⟨fun b o h=>(hS.obj b o h).mono (Ext.refl _) fun l y hp hh=>gv _ _ (hno _ _ _ _ h hp hh),hS.inj',fun b' y h=>?_,fun b o l b' h hp hh=>?_,hS.nx⟩
 ·unfold dO at h ⊢;split
  ·rename_i e; rw[if_pos e]at h; exact h
  ·rename_i e; rw[if_neg e]at h; exact hS.frm _ _ h
 ·rw[gv _ _ (hno _ _ _ _ h hp hh)]; exact hS.out' _ _ _ _ h hp hh
theorem uQ {Fr':Store}{s:Store}(h:RelS π Fr' S s){m b:Nat}{c n:Nat}{x y:AObj}{o:DObj}(hF:∀ q z,Fr q=some z→Fr' q=some z∧q≠m)(hm:Fr' m=some y)(hp:π b=some (.real m c n))(hO:ObR π (upd s m x) b o):RelS π Fr (S.set b o) (upd s m x):=by
 have ne:∀ b2 o2 l2 b',S.get b2=some o2→π b2=some l2→l2.has b'→b'≠m:=fun b2 o2 l2 b' h1 h2 h3 e=>by
  subst e; rw[h.out' _ _ _ _ h1 h2 h3]at hm; cases hm
 refine⟨fun b2 o2 hb=>?_,fun b1 b2 o1 o2 l1 l2 b' h1 h2 p1 p2 x1 x2=>?_,fun b' z hz=>?_,fun b2 o2 l2 b' hb hp2 hh=>?_,fun b2 hb=>h.nx _ hb⟩
 ·rw[DSt.get_set]at hb;split at hb
  ·rename_i e; subst e; cases hb; exact hO
  ·exact(h.obj _ _ hb).mono (Ext.refl _) fun l2 b' hp2 hh=>aD _ _ (ne _ _ _ _ hb hp2 hh)
 ·rw[DSt.get_set]at h1 h2;split at h1 <;> split at h2
  ·rename_i e1 e2; rw[e1,e2]
  ·rename_i e1 e2;rw[e1,hp]at p1; cases p1;cases x1;exact absurd rfl (ne _ _ _ _ h2 p2 x2)
  ·rename_i e1 e2;rw[e2,hp]at p2; cases p2;cases x2;exact absurd rfl (ne _ _ _ _ h1 p1 x1)
  ·exact h.inj' _ _ _ _ _ _ _ h1 h2 p1 p2 x1 x2
 ·obtain⟨g1,g2⟩:=hF _ _ hz;rw[aD _ _ g2]; exact h.frm _ _ g1
 ·rw[DSt.get_set]at hb;split at hb
  ·rename_i e; subst e;rw[hp]at hp2; cases hp2;cases hh;cases hf:Fr m with
   | none=>rfl
   | some z=>exact absurd rfl (hF _ _ hf).2
  ·have:=h.out' _ _ _ _ hb hp2 hh;cases hf:Fr b' with
   | none=>rfl
   | some z=>rw[(hF _ _ hf).1]at this; cases this
theorem uR {m:Nat}{os:List (Nat×DObj)}(hS:RelS π Fr ⟨m,os⟩ s')(l:Loc):RelS (addP π m l) Fr ⟨m+1,os⟩ s':=by
 have hx:Ext π (addP π m l):=cA (hS.nx _ (Nat.le_refl _)) _;have live:∀ b o,(⟨m+1,os⟩:DSt).get b=some o→b≠m:=fun b o h e=>by
  obtain⟨l2,hl⟩:=(hS.obj b o h).loc;rw[e,hS.nx _ (Nat.le_refl _)]at hl; cases hl
 refine⟨fun b o h=>(hS.obj b o h).mono hx fun _ _ _ _=>rfl,fun b1 b2 o1 o2 l1 l2 y h1 h2 p1 p2 x1 x2=>?_,hS.frm,fun b o l2 y h hp hh=>?_,fun b h=>?_⟩
 ·rw[addP_ne _ _ (live _ _ h1)]at p1;rw[addP_ne _ _ (live _ _ h2)]at p2;exact hS.inj' _ _ _ _ _ _ _ h1 h2 p1 p2 x1 x2
 ·rw[addP_ne _ _ (live _ _ h)]at hp;exact hS.out' _ _ _ _ h hp hh
 ·have h':m+1≤b:=h;rw[addP_ne _ _ (by omega)]; exact hS.nx _ (show m≤b by omega)
theorem kI {α σ:Type}(step:σ→α→Option σ):∀ (a b:List α) (x:σ),eY step (a++b) x=(eY step a x).bind (eY step b)
 | [],b,x=>rfl
 | c::a,b,x=>by
  simp only[List.cons_append,eY];cases step x c with
  | none=>rfl
  | some y=>simp only[Option.bind_some]; exact kI step a b y
theorem qv {α σ:Type}{es:List α}{step:σ→α→Option σ}{x z:σ}(h:pj es step x=some z):∀ p:List α,p.Perm es→eY step p x=some z:=by
 unfold pj at h;split at h
 ·rename_i hp; intro p hpp; rw[hp p hpp]; exact h
 ·cases h
theorem rN {n:Nat}{v:List Nat}(hn:v.Nodup)(hl:∀ p∈v,p < n):∃ r,(v++r).Perm (List.range n):=by
 refine⟨(List.range n).filter fun p=>!v.contains p,?_⟩;refine(List.perm_ext_iff_of_nodup ?_ List.nodup_range).2 fun a=>?_
 ·rw[List.nodup_append];refine⟨hn,List.nodup_range.sublist List.filter_sublist,fun a ha b hb e=>?_⟩;subst e;have:=(List.mem_filter.1 hb).2
  simp[ha]at this
 ·rw[List.mem_append,List.mem_filter,List.mem_range];constructor
  ·rintro(h | h)
   ·exact hl a h
   ·exact h.1
  ·intro h;by_cases ha:a∈v
   ·exact .inl ha
   ·exact .inr ⟨h,by simpa using ha⟩
theorem iQ {α:Type}(es:List α)(d:α):(List.range es.length).map (fun i=>es.getD i d)=es:=by
 refine List.ext_getElem (by simp) fun i h1 h2=>?_
 simp[List.getD_eq_getElem?_getD,h2]
theorem wK {ag:Bool}{t:Ty}:∀ {es:List (List Int×t.den)} {es':List (List Int×AV)} {i:Nat} (d:List Int×t.den),nY ag t es es'→i < es.length→(es'.getD i default).1=(es.getD i d).1∧MR ag t (es.getD i d).2 (es'.getD i default).2
 | [],_,i,d,h,hi=>by simp at hi
 | (k,x)::l,es',i,d,h,hi=>by
  simp only[nY]at h;obtain⟨a,l',rfl,h1,h⟩:=h;cases i with
  | zero=>exact⟨rfl,h1⟩
  | succ i=>simpa using wK (i:=i) d h (by simpa using hi)
theorem wL (kn:Nat)(k:List Int):RelV π (zA kn k) (zc kn k):=by
 cases kn with
 | zero=>exact aP _ _
 | succ n=>
  simp only[zA,zc,RelV];refine⟨_,rfl,?_⟩
  induction k with
  | nil=>exact RelVs_nil
  | cons a k ih=>exact RelVs_cons (aP _ _) ih
theorem mS:∀ {rs:List Nat} {ds:List DV} {t:Nat} {d:DV},bt (eT rs ds) t=some d→t∈rs
 | [],ds,t,d,h=>by cases ds <;> simp[eT,bt]at h
 | r::rs,[],t,d,h=>by simp[eT,bt]at h
 | r::rs,d0::ds,t,d,h=>by
  simp only[eT,bt]at h;by_cases e:r=t
  ·subst e; simp
  ·simp only[bO e,cond_false]at h;exact List.mem_cons_of_mem _ (mS h)
theorem mT {rs:List Nat}{a b:Nat}(h:dw rs a b=true):∀ t∈rs,t≠a∧t≠b:=fun t ht=>by
 have:=List.all_eq_true.1 h t ht;simp only[Bool.and_eq_true,Bool.not_eq_true']at this;exact⟨fun e=>by subst e; simp at this,fun e=>by subst e; simp at this⟩
def hD {ε:Type}(h:LSh)(it et:Nat)(ent:ε→DV)(body:(Exit→DEnv→DSt→Option (dens h.ts))→DEnv→DSt→Option (dens h.ts))(x:dens h.ts)(en:ε):Option (dens h.ts):=match fillSt (fun k=>k) h.st (ofDens h.ts x)with
 | some (ds,os)=>body (iM h it) ((et,ent en)::(it,.ptr h.m 0)::eT h.regs ds) ⟨h.m+1,os⟩
 | none=>none
theorem qw {P:Program}{T:List FEnt}{c:DCode}(ih:∀ {α:Type} {K:Exit→DEnv→DSt→Option α} {e:DEnv} {S:DSt} {r:α},bW T c K e S=some r→∀ {π:Pi} {Fr:Store} {e':Env} {s':Store},RelE π e e'→RelS π Fr S s' →
   ∀ {C:Exit→Env→Store→Prop},(∀ x e1 S1 π1 e1' s1,K x e1 S1=some r→Ext π π1→RelE π1 e1 e1'→RelS π1 Fr S1 s1→C x e1' s1)→xc P [] (erase c) C e' s')
  {it nx bb et j:Nat} {hd:LSh} {e:DEnv} {S:DSt} {kn:Nat} {ε:Type} (d0:ε) (entD:ε→DV) {es:List ε} {es':List (List Int×AV)} (hlen:es'.length=es.length)
  (hnr:(dw (it::hd.regs) nx bb&&dw hd.regs it it)=true) (hids:gm hd.ids (hd.st.objs.map (·.1))=true)
  {π:Pi} {Fr:Store} {e':Env} {s':Store} (hE:RelE π e e') (hS0:RelS π Fr S s') {m r cl:Nat} {en:Array MapEntry} (hr:s' r=none) (hrm:r≠m)
  (no_m:∀ b2 o l y,S.get b2=some o→π b2=some l→l.has y→y≠m) (hFm:Fr m=none)
  {y0:dens hd.ts} {nm:Nm} (hrd:qY hd e S []=some (y0,nm))
  (hent:∀ π1:Pi,(∀ k,hd.ids.any (Nat.beq k)=true→π1 k=cL π nm k)→∀ i,i < es.length→RelV π1 (entD (es.getD i d0)) (.tup [zc kn (es'.getD i default).1,(es'.getD i default).2]))
  {z:dens hd.ts} (hz:pj es (hD hd it et entD fun K'=>bW T c (gQ j K')) y0=some z)
  {C:Env→Store→Prop} (hK:∀ ds3 S3 π3 e2 sv,eL S nm ⟨hd.st,hd.ts,hd.ids,hd.m⟩ (ofDens hd.ts z)=some (ds3,S3)→Ext π π3→RelE π3 (eT hd.regs ds3) e2→RelS π3 (dO Fr m (some (.rmap en cl))) S3 sv→C e2 (upd sv m (.imap kn es' none))) :
  ∃ (I:List Nat→Env→Store→Prop) (e0:Env) (s0:Store),Wk (upd (upd s' m (.rmap en cl)) r (.rit m cl #[])) (Env.set e' it (.ptr r 0)) s0 e0∧s0 r=some (.rit m cl #[])∧I [] e0 s0 ∧
  (∀ v e s,I v e s→e it = .ptr r 0∧s m=some (.rmap en cl)) ∧
  (∀ v e s seen,I v e s→∀ i,i < es'.length→i∉v→xc P [] (erase c) (iU j (rngK fun e' s'=>s' r=some (.rit m cl seen)∧I (v++[i]) e' s'))
   (Env.set (Env.set (Env.set e nx .undef) bb .undef) et (.tup [zc kn (es'.getD i default).1,(es'.getD i default).2])) (upd s r (.rit m cl seen))) ∧
  (∀ v e s,I v e s→(∀ i,i < es'.length→i∈v)→C (Env.set (Env.set e nx .undef) bb .undef) (upd (del s r) m (.imap kn es' none))):=by
 simp only[Bool.and_eq_true]at hnr;have nr1:=mT hnr.1;have nr2:=mT hnr.2;have no_r:∀ b2 o l y,S.get b2=some o→π b2=some l→l.has y→y≠r:=fun b2 o l y h1 h2 h3 e=>by
  subst e; exact(hS0.obj _ _ h1).some'' h2 h3 hr
 have hS2:=gZ (gZ hS0 no_m (some (.rmap en cl))) no_r (some (.rit m cl #[]));have hFr:Fr r=none:=hS0.free hr;generalize hF2:dO (dO Fr m (some (.rmap en cl))) r (some (.rit m cl #[]))=Fr2 at hS2;have es2:upd (upd s' m (.rmap en cl)) r (.rit m cl #[])=dO (dO s' m (some (.rmap en cl))) r (some (.rit m cl #[])):=rfl;rw[es2];generalize hs2:dO (dO s' m (some (.rmap en cl))) r (some (.rit m cl #[]))=s2 at hS2;have f2m:Fr2 m=some (.rmap en cl):=by rw[← hF2,gv _ _ (Ne.symm hrm),cn]
 have f2r:Fr2 r=some (.rit m cl #[]):=by rw[← hF2,cn]
 unfold qY at hrd;split at hrd
 ·rename_i l nm1 hr1;split at hrd
  ·rename_i x1 htd;cases hrd;have hl:=bj htd;obtain⟨q1,q2,q3,live,ds0,os0,q4,q5,q6⟩:=ff hS2 hr1 (cB hE hd.regs) (Fr1:=dh π nm s2) (fun b' x h=>lO h) (fun k b lc x h1 h2 h3=>iu h1 h2 h3);have fm:dh π nm s2 m=some (.rmap en cl):=lP hS2 live f2m;have fr:dh π nm s2 r=some (.rit m cl #[]):=lP hS2 live f2r
   let get:Nat→ε:=fun i=>es.getD i d0
   let step:=hD hd it et entD fun K'=>bW T c (gQ j K')
   let I:List Nat→Env→Store→Prop:=fun v e2 sv=>∃ y π1 ds os,eY step (v.map get) y0=some y∧fillSt (fun k=>k) hd.st (ofDens hd.ts y)=some (ds,os)∧RelVs π1 ds (hd.regs.map e2) ∧
    RelS π1 (dO (dh π nm s2) r (sv r)) ⟨hd.m,os⟩ sv∧e2 it = .ptr r 0∧sv m=some (.rmap en cl)∧(∃ seen,sv r=some (.rit m cl seen))∧v.Nodup∧(∀ p∈v,p < es.length)∧∀ k,hd.ids.any (Nat.beq k)=true→π1 k=cL π nm k
   have regs_it:∀ (e2:Env) (a:AV),hd.regs.map (Env.set e2 it a)=hd.regs.map e2:=fun e2 a=>List.map_congr_left fun q hq=>by
    simp only[Env.set]; rw[if_neg (nr2 q hq).1]
   refine⟨I,Env.set e' it (.ptr r 0),s2,Wk.refl _ _,by rw[← hs2,cn],⟨y0,cL π nm,ds0,os0,rfl,by rw[hl]; exact q4,by rw[regs_it]; exact q5,?_,by simp[Env.set],by rw[← hs2,gv _ _ (Ne.symm hrm),cn],⟨_,by rw[← hs2,cn]⟩,List.nodup_nil,(fun p hp=>by cases hp),fun _ _=>rfl⟩,?_,?_,?_⟩
   ·have e3:dO (dh π nm s2) r (s2 r)=dh π nm s2:=by
     rw[show s2 r=dh π nm s2 r by rw[fr,← hs2,cn],oi]
    rw[e3]; exact q6
   ·rintro v e2 sv ⟨y,π1,ds,os,g1,g2,g3,g4,g5,g6,_⟩;exact⟨g5,g6⟩
   ·rintro v e2 sv seen ⟨y,π1,ds,os,g1,g2,g3,g4,g5,g6,g7,g8,g9,g10⟩ i hi hiv;rw[hlen]at hi;have hnd:(v++[i]).Nodup:=by
     rw[List.nodup_append];exact⟨g8,by simp,fun a ha b hb e=>by simp at hb; subst hb; subst e; exact hiv ha⟩
    have hlt:∀ p∈v++[i],p < es.length:=fun p hp=>by
     rcases List.mem_append.1 hp with h | h
     ·exact g9 p h
     ·simp at h; subst h; exact hi
    obtain⟨rest,hperm⟩:=rN hnd hlt;have hall:=qv hz (((v++[i])++rest).map get) (by have:=hperm.map get; rwa [iQ es d0]at this);rw[List.map_append,kI]at hall;cases hy1:eY step ((v++[i]).map get) y0 with
    | none=>rw[show eY (hD hd it et entD fun K'=>bW T c (gQ j K')) ((v++[i]).map get) y0=none from hy1]at hall; cases hall
    | some y1=>
     have hst:step y (get i)=some y1:=by
      have:=hy1;rw[List.map_append,kI,g1]at this;simp only[Option.bind_some,List.map_cons,List.map_nil,eY]at this;cases hs:step y (get i)with
      | none=>rw[hs]at this; cases this
      | some y2=>rw[hs]at this; simpa using this
     have hst0:=hst;simp only[step,hD,g2]at hst;have no_r1:∀ b2 o l b',(⟨hd.m,os⟩:DSt).get b2=some o→π1 b2=some l→l.has b'→b'≠r:=fun b2 o l b' h1 h2 h3 e=>by
      subst e;obtain⟨sn,hsn⟩:=g7;have:=g4.out' _ _ _ _ h1 h2 h3;rw[cn,hsn]at this; cases this
     have hS5:=uR (gZ g4 no_r1 (some (.rit m cl seen))) (.real r 0 0);rw[jN]at hS5;have hnm:π1 hd.m=none:=g4.nx _ (Nat.le_refl _);have hx1:Ext π1 (addP π1 hd.m (.real r 0 0)):=cA hnm _;have hE5:RelE (addP π1 hd.m (.real r 0 0)) ((et,entD (get i))::(it,.ptr hd.m 0)::eT hd.regs ds)
       (Env.set (Env.set (Env.set e2 nx .undef) bb .undef) et (.tup [zc kn (es'.getD i default).1,(es'.getD i default).2])):=by
      intro u d hu;simp only[bt]at hu;by_cases e1:et=u
      ·subst e1;simp only[Nat.beq_refl,cond_true,Option.some.injEq]at hu;subst hu;simp only[Env.set,if_true];exact(hent π1 g10 i hi).ext hx1
      ·simp only[bO e1,cond_false]at hu;have hne:u≠et:=fun e=>e1 e.symm;by_cases e2':it=u
       ·subst e2';simp only[Nat.beq_refl,cond_true,Option.some.injEq]at hu;subst hu;have:=nr1 it (by simp);simp only[Env.set,if_neg hne,if_neg this.1,if_neg this.2,g5,RelV];exact⟨r,0,0,addP_same _ _ _,rfl⟩
       ·simp only[bO e2',cond_false]at hu;have hmem:=mS hu;have:=nr1 u (by simp[hmem]);have hr':=eN g3 u d hu;simp only[Env.set,if_neg hne,if_neg this.1,if_neg this.2];exact hr'.ext hx1
     refine ih hst hE5 hS5 fun ex e3 S3 π3 e3' s3 k1 k2 k3 k4=>?_;have idsome:∀ k,hd.ids.any (Nat.beq k)=true→∃ lc,π1 k=some lc:=fun k hk=>by
      obtain⟨o,ho⟩:=jM g2 (fN hids hk);exact(g4.obj k o ho).loc
     have fin:iM hd it .normal e3 S3=some y1→rngK (fun e' s'=>s' r=some (.rit m cl seen)∧I (v++[i]) e' s') .normal e3' s3:=fun hk=>by
      simp only[iM]at hk;split at hk
      ·rename_i b0 hg;cases hbq:Nat.beq b0 hd.m with
       | false=>rw[hbq]at hk; cases hk
       | true=>
        rw[hbq]at hk;obtain rfl:=ai.1 hbq;simp only[cond_true]at hk;have hitr:=dx k3 (.t it);simp only[ck,hg,RelV,opd]at hitr;obtain⟨r',c',n',hpr,hite⟩:=hitr;rw[k2 _ _ (addP_same π1 hd.m (.real r 0 0))]at hpr;cases hpr;have hs3r:s3 r=some (.rit m cl seen):=k4.frm _ _ (cn _ _ _);split at hk
        ·rename_i x2 nm2 hr2;cases hk;unfold qY at hr2;split at hr2
         ·rename_i l2 nm3 hr3;split at hr2
          ·rename_i x3 htd3;cases hr2;have hl3:=bj htd3;obtain⟨p1,p2,p3,p4,ds2,os2,p5,p6,p7⟩:=ff k4 hr3 (cB k3 hd.regs) (Fr1:=dO (dh π nm s2) r (some (.rit m cl seen))) k4.frm (fun k b lc x h1 h2 h3=>by
            obtain⟨o,ho⟩:=(ff k4 hr3 (cB k3 hd.regs) (Fr1:=rG) (fun _ _ h=>by cases h) (fun _ _ _ _ _ _ _=>rfl)).2.2.2.1 k b h1;exact k4.out' b o lc x ho h2 h3)
           refine⟨e3',s3,Wk.refl _ _,hs3r,y1,cL π3 nm2,ds2,os2,hy1,by rw[hl3]; exact p5,p6,by rw[hs3r]; exact p7,hite,k4.frm _ _ (by rw[gv _ _ (Ne.symm hrm)]; exact fm),⟨_,hs3r⟩,hnd,hlt,fun k hk=>?_⟩;have hf:=p1 _ _ (gY hk);have e3:cL π3 nm2 k=π3 k:=by simp only[cL,hf,fe]
           obtain⟨lc,hlc⟩:=idsome k hk;rw[e3,← g10 k hk,hlc];exact k2 _ _ (hx1 _ _ hlc)
          ·cases hr2
         ·cases hr2
        ·cases hk
      ·cases hk
     cases ex with
     | normal=>exact fin k1
     | exit q=>
      simp only[gQ]at k1;simp only[iU];by_cases hq:q=j
      ·subst hq;rw[if_pos rfl];simp only[Nat.beq_refl,cond_true]at k1;exact fin k1
      ·simp only[bO hq,cond_false,iM]at k1;cases k1
     | ret=>simp only[gQ,iM]at k1; cases k1
     | goto q=>simp only[gQ,iM]at k1; cases k1
     | panic q=>simp only[gQ,iM]at k1; cases k1
     | outgrown=>simp only[gQ,iM]at k1; cases k1
   ·rintro v e2 sv ⟨y,π1,ds,os,g1,g2,g3,g4,g5,g6,⟨sn,g7⟩,g8,g9,g10⟩ hallv;have hperm:v.Perm (List.range es.length):=(List.perm_ext_iff_of_nodup g8 List.nodup_range).2 fun a=>by
     rw[List.mem_range]; exact⟨g9 a,fun h=>hallv a (by rw[hlen]; exact h)⟩
    have hyz:y=z:=by
     have:=qv hz (v.map get) (by have:=hperm.map get; rwa [iQ es d0]at this);rw[show eY (hD hd it et entD fun K'=>bW T c (gQ j K')) (v.map get) y0=some y from g1]at this;exact Option.some.inj this
    subst hyz;have no_r1:∀ b2 o l b',(⟨hd.m,os⟩:DSt).get b2=some o→π1 b2=some l→l.has b'→b'≠r:=fun b2 o l b' h1 h2 h3 e=>by
     subst e;have:=g4.out' _ _ _ _ h1 h2 h3;rw[cn,g7]at this; cases this
    have h4:=gZ g4 no_r1 (some (.rit m cl #[]));rw[jN]at h4;have e4:dO (dh π nm s2) r (some (.rit m cl #[]))=dh π nm s2:=by rw[← fr,oi]
    rw[e4]at h4;obtain⟨ds3,S3,π3,a1,a2,a3,a4,a5,a6⟩:=dZ (o:=⟨hd.st,hd.ts,hd.ids,hd.m⟩) hS2 live g2 q3 g3 h4 (fun k hk b hb=>by
     rw[g10 k hk];simp only[cL,hb,fe])
    have no_r3:∀ b2 o l b',S3.get b2=some o→π3 b2=some l→l.has b'→b'≠r:=fun b2 o l b' h1 h2 h3 e=>by
     subst e;have:=a4.out' _ _ _ _ h1 h2 h3;rw[f2r]at this; cases this
    have h5:=gZ a4 no_r3 none;rw[jN]at h5;have e5:dO Fr2 r none=dO Fr m (some (.rmap en cl)):=by
     rw[← hF2,jN]
     funext q
     unfold dO;by_cases e1:q=r
     ·rw[if_pos e1,e1,if_neg hrm,hFr]
     ·rw[if_neg e1]
    rw[e5]at h5;refine hK ds3 S3 π3 _ _ a1 a2 (fun u d hu=>?_) h5;have hmem:=mS hu;have hne:=nr1 u (by simp[hmem]);have:=eN a3 u d hu;simp only[Env.set,if_neg hne.1,if_neg hne.2];exact this
  ·cases hrd
 ·cases hrd
theorem rO {P:Program}{T:List FEnt}{c:DCode}(ih:∀ {α:Type} {K:Exit→DEnv→DSt→Option α} {e:DEnv} {S:DSt} {r:α},bW T c K e S=some r→∀ {π:Pi} {Fr:Store} {e':Env} {s':Store},RelE π e e'→RelS π Fr S s' →
   ∀ {C:Exit→Env→Store→Prop},(∀ x e1 S1 π1 e1' s1,K x e1 S1=some r→Ext π π1→RelE π1 e1 e1'→RelS π1 Fr S1 s1→C x e1' s1)→xc P [] (erase c) C e' s')
  {x:Opd} {it nx bb et j:Nat} {hd:LSh} {α:Type} {K:DEnv→DSt→Option α} {e:DEnv} {S:DSt} {r0:α} {b kn:Nat} {ag:Bool} {t:Ty} {es:List (List Int×t.den)}
  (hx:(ck e x).val = .mp b) (hb:S.get b=some (.imap kn ag t es none)) (hdf:(ck e x).df.all id=true) (hnr:(dw (it::hd.regs) nx bb&&dw hd.regs it it)=true) (hids:gm hd.ids (hd.st.objs.map (·.1))=true)
  {y0:dens hd.ts} {nm:Nm} (hrd:qY hd e (S.del b) []=some (y0,nm)) {z:dens hd.ts} (hz:pj es (pk hd it et kn ag t fun K'=>bW T c (gQ j K')) y0=some z)
  (hK0:(match eL (S.del b) nm ⟨hd.st,hd.ts,hd.ids,hd.m⟩ (ofDens hd.ts z)with
   | some (ds,S')=>K (eT hd.regs ds) (S'.set b (.imap kn ag t es none))
   | none=>none)=some r0)
  {π:Pi} {Fr:Store} {e':Env} {s':Store} (hE:RelE π e e') (hS:RelS π Fr S s') {C:Env→Store→Prop} (hK:∀ e1 S1 π1 e1' s1,K e1 S1=some r0→Ext π π1→RelE π1 e1 e1'→RelS π1 Fr S1 s1→C e1' s1) :
  pX x it nx bb et (fun K'=>xc P [] (erase c) (iU j K')) C e' s':=by
 have hxr:=dx hE x;have hxv:=bv hxr hdf;rw[hx]at hxv;simp only[RelV]at hxv;obtain⟨m,cm,nm0,hp,hmv⟩:=hxv;obtain⟨m2,c2,n2,es',hp2,hers,hsm⟩:=hS.obj _ _ hb;rw[hp]at hp2; cases hp2;have hsm:s' m=some (.imap kn es' none):=hsm;have hlen:=po hers;refine⟨bE hxr hdf,m,kn,es',hmv,hsm,fun r en cl hr hrm=>?_⟩;have hFm:Fr m=none:=hS.out _ _ _ _ _ hb hp;refine qw ih (([],t.zero):List Int×t.den) (fun en=>.tup [zA kn en.1,A1 ag t en.2]) hlen hnr hids hE (dY hS b) hr hrm (fun b2 o l y h1 h2 h3 e=>?_) hFm hrd (fun π1 _ i hi=>?_) hz fun ds3 S3 π3 e2 sv a1 a2 a3 a4=>?_
 ·subst e;rw[DSt.get_del]at h1;split at h1
  ·cases h1
  ·rename_i hne; exact hne (hS.inj' _ _ _ _ _ _ _ h1 hb h2 hp h3 rfl)
 ·obtain⟨k1,k2⟩:=wK ([],t.zero) hers hi;simp only[RelV];refine⟨_,rfl,RelVs_cons ?_ (aQ (pn k2))⟩;rw[k1]; exact wL _ _
 ·rw[a1]at hK0;have hfin:=uQ (Fr:=Fr) (m:=m) (b:=b) (x:=.imap kn es' none) (y:=.rmap en cl) (o:=.imap kn ag t es none) a4 (fun q w hq=>by
    have h2:q≠m:=fun e=>by rw[e,hFm]at hq; cases hq
    exact⟨by rw[gv _ _ h2]; exact hq,h2⟩) (cn _ _ _) (a2 _ _ hp) ⟨m,cm,nm0,es',a2 _ _ hp,hers,upd_same _ _ _⟩
  exact hK _ _ π3 _ _ hK0 a2 a3 hfin
theorem sX {b m c n:Nat}{d:DV}{a:AV}(hp:π b=some (.real m c n))(hx:Ext π (addP π S.nx (.mlk m)))(h:RelV π d a):RelV (addP π S.nx (.mlk m)) (Fd b S.nx d) a:=by
 cases d with
 | mp q=>
  simp only[Fd];cases hc:Nat.beq q b with
  | true=>
   obtain rfl:=ai.1 hc;simp only[RelV]at h;obtain⟨b',c',n',h1,rfl⟩:=h;rw[hp]at h1; cases h1;simp only[cond_true,RelV];exact⟨m,addP_same _ _ _,rfl⟩
  | false=>exact h.ext hx
 | _=>exact h.ext hx
theorem lR {b m c n:Nat}(hp:π b=some (.real m c n))(hx:Ext π (addP π S.nx (.mlk m))):∀ {ds:List DV} {as:List AV},RelVs π ds as→RelVs (addP π S.nx (.mlk m)) (ds.map (Fd b S.nx)) as
 | [],as,h=>by simp only[RelVs]at h; subst h; exact RelVs_nil
 | d::ds,as,h=>by
  simp only[RelVs]at h;obtain⟨a,as',rfl,h1,h2⟩:=h;exact RelVs_cons (sX hp hx h1) (lR hp hx h2)
theorem zJ {b m c n:Nat}(hp:π b=some (.real m c n))(hx:Ext π (addP π S.nx (.mlk m))){e:DEnv}{e':Env}(hE:RelE π e e'):RelE (addP π S.nx (.mlk m)) (bG (G0 b S.nx) e) e':=fun u d hu=>by
 rw[bx]at hu;cases hg:bt e u with
 | none=>rw[hg]at hu; cases hu
 | some d0=>
  rw[hg]at hu;cases hu;have hd:=hE u d0 hg;cases d0 with
  | agg cs=>
   simp only[G0];simp only[RelV]at hd ⊢;obtain⟨as,e1,hd⟩:=hd;exact⟨as,e1,lR hp hx hd⟩
  | tup cs=>
   simp only[G0];simp only[RelV]at hd ⊢;obtain⟨as,e1,hd⟩:=hd;exact⟨as,e1,lR hp hx hd⟩
  | _=>exact sX hp hx hd
theorem sY {b m c n q:Nat}{d:DV}{a:AV}(hq:π q=some (.mlk m))(hp:π b=some (.real m c n))(h:RelV π d a):RelV π (Fe b q d) a:=by
 cases d with
 | mpl p=>
  simp only[Fe];cases hc:Nat.beq p q with
  | true=>
   obtain rfl:=ai.1 hc;simp only[RelV]at h;obtain⟨b',h1,rfl⟩:=h;rw[hq]at h1; cases h1;simp only[cond_true,RelV];exact⟨m,c,n,hp,rfl⟩
  | false=>exact h
 | _=>exact h
theorem lS {b m c n q:Nat}(hq:π q=some (.mlk m))(hp:π b=some (.real m c n)):∀ {ds:List DV} {as:List AV},RelVs π ds as→RelVs π (ds.map (Fe b q)) as
 | [],as,h=>by simp only[RelVs]at h; subst h; exact RelVs_nil
 | d::ds,as,h=>by
  simp only[RelVs]at h;obtain⟨a,as',rfl,h1,h2⟩:=h;exact RelVs_cons (sY hq hp h1) (lS hq hp h2)
theorem zK {b m c n q:Nat}(hq:π q=some (.mlk m))(hp:π b=some (.real m c n)){e:DEnv}{e':Env}(hE:RelE π e e'):RelE π (bG (G1 b q) e) e':=fun u d hu=>by
 rw[bx]at hu;cases hg:bt e u with
 | none=>rw[hg]at hu; cases hu
 | some d0=>
  rw[hg]at hu;cases hu;have hd:=hE u d0 hg;cases d0 with
  | agg cs=>
   simp only[G1];simp only[RelV]at hd ⊢;obtain⟨as,e1,hd⟩:=hd;exact⟨as,e1,lS hq hp hd⟩
  | tup cs=>
   simp only[G1];simp only[RelV]at hd ⊢;obtain⟨as,e1,hd⟩:=hd;exact⟨as,e1,lS hq hp hd⟩
  | _=>exact sY hq hp hd
theorem lockD_inv {b p c:Nat}{o:DObj}(h:(nX S b p).get c=some o):(c=S.nx∧o = .gone p)∨(c≠S.nx∧c≠b∧∃ o0,S.get c=some o0∧o=LF b S.nx o0):=by
 have h:bt (j0 (bG (LF b S.nx) (gi S.m b)) S.nx (.gone p)) c=some o:=h;rw[cN,bx,cW]at h;split at h
 ·rename_i e; cases h; exact .inl ⟨e,rfl⟩
 ·rename_i e1;split at h
  ·cases h
  ·rename_i e2;cases hg:S.get c with
   | none=>rw[show bt S.m c=none from hg]at h; cases h
   | some o0=>rw[show bt S.m c=some o0 from hg]at h; cases h; exact .inr ⟨e1,e2,o0,rfl,rfl⟩
theorem uS (hS:RelS π Fr S s'){b p m c n:Nat}{g:List (Int×Nat)}{o:DObj}(hb:S.get b=some o)(hp:π b=some (.real m c n))(hpp:π p=some (.pol g)):RelS (addP π S.nx (.mlk m)) Fr (nX S b p) s':=by
 have hx:Ext π (addP π S.nx (.mlk m)):=cA (hS.nx _ (Nat.le_refl _)) _;have nn:∀ q l y,addP π S.nx (.mlk m) q=some l→l.has y→q≠S.nx:=fun q l y h hh e=>by rw[e,addP_same]at h; cases h; exact hh
 refine⟨fun q o h=>?_,fun b1 b2 o1 o2 l1 l2 y h1 h2 p1 p2 x1 x2=>?_,hS.frm,fun q o l y h hl hh=>?_,fun q h=>?_⟩
 ·rcases lockD_inv h with⟨rfl,rfl⟩ | ⟨e1,e2,o0,h0,rfl⟩
  ·exact⟨m,g,addP_same _ _ _,hx _ _ hpp⟩
  ·have hO:=hS.obj _ _ h0;cases o0 with
   | box cs=>
    obtain⟨b3,c3,n3,as,g1,g2,g3⟩:=hO;exact⟨b3,c3,n3,as,hx _ _ g1,g2,lR hp hx g3⟩
   | _=>exact hO.mono hx fun _ _ _ _=>rfl
 ·have f1:=nn _ _ _ p1 x1;have f2:=nn _ _ _ p2 x2;rcases lockD_inv h1 with⟨e1,_⟩ | ⟨_,_,o3,h3,_⟩
  ·exact absurd e1 f1
  ·rcases lockD_inv h2 with⟨e1,_⟩ | ⟨_,_,o4,h4,_⟩
   ·exact absurd e1 f2
   ·rw[addP_ne _ _ f1]at p1;rw[addP_ne _ _ f2]at p2;exact hS.inj' _ _ _ _ _ _ _ h3 h4 p1 p2 x1 x2
 ·have f1:=nn _ _ _ hl hh;rcases lockD_inv h with⟨e1,_⟩ | ⟨_,_,o3,h3,_⟩
  ·exact absurd e1 f1
  ·rw[addP_ne _ _ f1]at hl;exact hS.out' _ _ _ _ h3 hl hh
 ·have h:S.nx+1≤q:=h;rw[addP_ne _ _ (by omega)]; exact hS.nx _ (by omega)
theorem unlockD_inv {b p q c:Nat}{o:DObj}(h:(lK S b p q).get c=some o):(c=b∧o = .pmap p)∨(c≠b∧c≠q∧∃ o0,S.get c=some o0∧o=LG b q o0):=by
 have h:bt (j0 (bG (LG b q) (gi S.m q)) b (.pmap p)) c=some o:=h;rw[cN,bx,cW]at h;split at h
 ·rename_i e; cases h; exact .inl ⟨e,rfl⟩
 ·rename_i e1;split at h
  ·cases h
  ·rename_i e2;cases hg:S.get c with
   | none=>rw[show bt S.m c=none from hg]at h; cases h
   | some o0=>rw[show bt S.m c=some o0 from hg]at h; cases h; exact .inr ⟨e1,e2,o0,rfl,rfl⟩
theorem qx {Fr':Store}{s:Store}(h:RelS π Fr' S s){m b p q c n:Nat}{g:List (Int×Nat)}{y:AObj}(hF:∀ u z,Fr u=some z→Fr' u=some z∧u≠m)(hm:Fr' m=some y)(hp:π b=some (.real m c n))(hpp:π p=some (.pol g))(hq:π q=some (.mlk m)):
  RelS π Fr (lK S b p q) (upd s m (.imap 0 (fF g) none)):=by
 have ne:∀ b2 o2 l2 b',S.get b2=some o2→π b2=some l2→l2.has b'→b'≠m:=fun b2 o2 l2 b' h1 h2 h3 e=>by
  subst e; rw[h.out' _ _ _ _ h1 h2 h3]at hm; cases hm
 refine⟨fun b2 o2 hb=>?_,fun b1 b2 o1 o2 l1 l2 b' h1 h2 p1 p2 x1 x2=>?_,fun b' z hz=>?_,fun b2 o2 l2 b' hb hp2 hh=>?_,fun b2 hb=>h.nx _ hb⟩
 ·rcases unlockD_inv hb with⟨rfl,rfl⟩ | ⟨e1,e2,o0,h0,rfl⟩
  ·exact⟨m,c,n,g,hp,hpp,upd_same _ _ _⟩
  ·have same:∀ l2 b',π b2=some l2→l2.has b'→upd s m (.imap 0 (fF g) none) b'=s b':=fun l2 b' hp2 hh=>aD _ _ (ne _ _ _ _ h0 hp2 hh);have hO:=h.obj _ _ h0;cases o0 with
   | box cs=>
    obtain⟨b3,c3,n3,as,g1,g2,g3⟩:=hO;exact⟨b3,c3,n3,as,g1,(same _ _ g1 rfl).trans g2,lS hq hp g3⟩
   | _=>exact hO.mono (Ext.refl _) same
 ·rcases unlockD_inv h1 with⟨e1,_⟩ | ⟨e1,_,o3,h3,_⟩ <;> rcases unlockD_inv h2 with⟨e2,_⟩ | ⟨e2,_,o4,h4,_⟩
  ·rw[e1,e2]
  ·rw[e1,hp]at p1; cases p1;cases x1;exact absurd rfl (ne _ _ _ _ h4 p2 x2)
  ·rw[e2,hp]at p2; cases p2;cases x2;exact absurd rfl (ne _ _ _ _ h3 p1 x1)
  ·exact h.inj' _ _ _ _ _ _ _ h3 h4 p1 p2 x1 x2
 ·obtain⟨g1,g2⟩:=hF _ _ hz;rw[aD _ _ g2]; exact h.frm _ _ g1
 ·rcases unlockD_inv hb with⟨e1,_⟩ | ⟨e1,_,o3,h3,_⟩
  ·rw[e1,hp]at hp2; cases hp2;cases hh;cases hf:Fr m with
   | none=>rfl
   | some z=>exact absurd rfl (hF _ _ hf).2
  ·have:=h.out' _ _ _ _ h3 hp2 hh;cases hf:Fr b' with
   | none=>rfl
   | some z=>rw[(hF _ _ hf).1]at this; cases this
theorem kJ {p:Nat}:∀ {nm:Nm} {k:Nat},b6 (nm.map (·.1))=true→ld p nm=some k→bt nm k=some (some p)
 | [],k,_,h=>by simp[ld]at h
 | (k',some b)::nm,k,hn,h=>by
  obtain⟨g1,g2⟩:=gr (b:=k') (l:=nm.map (·.1)) (show b6 (k'::nm.map (·.1))=true from hn);simp only[ld]at h;cases hc:Nat.beq b p with
  | true=>
   rw[hc]at h; cases h;obtain rfl:=ai.1 hc
   simp[bt]
  | false=>
   rw[hc]at h;have ih:=kJ g2 h;have:k'≠k:=fun e=>by subst e; exact g1 (List.mem_map.2 ⟨_,eC ih,rfl⟩)
   simp only[bt,bO this,cond_false]; exact ih
 | (k',none)::nm,k,hn,h=>by
  obtain⟨g1,g2⟩:=gr (b:=k') (l:=nm.map (·.1)) (show b6 (k'::nm.map (·.1))=true from hn);simp only[ld]at h;have ih:=kJ g2 h;have:k'≠k:=fun e=>by subst e; exact g1 (List.mem_map.2 ⟨_,eC ih,rfl⟩)
  simp only[bt,bO this,cond_false]; exact ih
theorem Fk {h:LSh}{e:DEnv}{S:DSt}{nm0 nm:Nm}{x:dens h.ts}(hr:qY h e S nm0=some (x,nm)):b6 (nm.map (·.1))=true:=by
 unfold qY nw at hr;split at hr
 ·rename_i l nm1 h1;split at h1
  ·split at h1
   ·rename_i l2 nm2 h2;cases hc:(b6 (aW nm2)&&(b6 (nm2.map (·.1))&&(gP h.st.objs nm2&&(ja h.m h.st.objs&&b6 (h.st.objs.map (·.1))))))with
    | false=>rw[hc]at h1; cases h1
    | true=>
     rw[hc]at h1; cases h1;simp only[Bool.and_eq_true]at hc;split at hr
     ·cases hr; exact hc.2.1
     ·cases hr
   ·cases h1
  ·cases h1
 ·cases hr
theorem zL {g:List (Int×Nat)}{i:Nat}(hi:i < g.length):(fF g).getD i default=([(g.getD i (0,0)).1],.ptr (g.getD i (0,0)).2 0):=by
 simp[fF,List.getD_eq_getElem?_getD,hi]
theorem qy {P:Program}{T:List FEnt}{c:DCode}(ih:∀ {α:Type} {K:Exit→DEnv→DSt→Option α} {e:DEnv} {S:DSt} {r:α},bW T c K e S=some r→∀ {π:Pi} {Fr:Store} {e':Env} {s':Store},RelE π e e'→RelS π Fr S s' →
   ∀ {C:Exit→Env→Store→Prop},(∀ x e1 S1 π1 e1' s1,K x e1 S1=some r→Ext π π1→RelE π1 e1 e1'→RelS π1 Fr S1 s1→C x e1' s1)→xc P [] (erase c) C e' s')
  {x:Opd} {it nx bb et j:Nat} {hd:LSh} {α:Type} {K:DEnv→DSt→Option α} {e:DEnv} {S:DSt} {r0:α} {b p kp:Nat} {t:Ty} {es:List (Int×t.den)}
  (hx:(ck e x).val = .mp b) (hb:S.get b=some (.pmap p)) (hpo:S.get p=some (.pool t es)) (hdf:(ck e x).df.all id=true) (hnr:(dw (it::hd.regs) nx bb&&dw hd.regs it it)=true) (hids:gm hd.ids (hd.st.objs.map (·.1))=true)
  {y0:dens hd.ts} {nm:Nm} (hrd:qY hd (bG (G0 b S.nx) e) (nX S b p) []=some (y0,nm)) (hkp:ld p nm=some kp) (hki:hd.ids.any (Nat.beq kp)=true) {z:dens hd.ts} (hz:pj (es.map (·.1)) (mz hd it et kp fun K'=>bW T c (gQ j K')) y0=some z)
  (hK0:(match eL (nX S b p) nm ⟨hd.st,hd.ts,hd.ids,hd.m⟩ (ofDens hd.ts z)with
   | some (ds,S')=>K (bG (G1 b S.nx) (eT hd.regs ds)) (lK S' b p S.nx)
   | none=>none)=some r0)
  {π:Pi} {Fr:Store} {e':Env} {s':Store} (hE:RelE π e e') (hS:RelS π Fr S s') {C:Env→Store→Prop} (hK:∀ e1 S1 π1 e1' s1,K e1 S1=some r0→Ext π π1→RelE π1 e1 e1'→RelS π1 Fr S1 s1→C e1' s1) :
  pX x it nx bb et (fun K'=>xc P [] (erase c) (iU j K')) C e' s':=by
 have hxr:=dx hE x;have hxv:=bv hxr hdf;rw[hx]at hxv;simp only[RelV]at hxv;obtain⟨m,cm,nm0,hp,hmv⟩:=hxv;obtain⟨m2,c2,n2,g,hp2,hpp,hsm⟩:=hS.obj _ _ hb;rw[hp]at hp2; cases hp2;obtain⟨g2,hg2,hP⟩:=hS.obj _ _ hpo;rw[hpp]at hg2; cases hg2;have hlen:(fF g).length=(es.map (·.1)).length:=by rw[hP.keys]; simp[fF]
 refine⟨bE hxr hdf,m,0,fF g,hmv,hsm,fun r en cl hr hrm=>?_⟩;have hFm:Fr m=none:=hS.out _ _ _ _ _ hb hp;have hx1:Ext π (addP π S.nx (.mlk m)):=cA (hS.nx _ (Nat.le_refl _)) _;refine qw ih (0:Int) (fun key=>.tup [gD .i64 key,.pel kp key 0]) hlen hnr hids (zJ hp hx1 hE) (uS hS hb hp hpp) hr hrm (fun b2 o l y h1 h2 h3 e=>?_) hFm hrd (fun π1 hπ i hi=>?_) hz fun ds3 S3 π3 e2 sv a1 a2 a3 a4=>?_
 ·subst e;have f1:b2≠S.nx:=fun e=>by rw[e,addP_same]at h2; cases h2; exact h3
  rcases lockD_inv h1 with⟨e1,_⟩ | ⟨_,e2,o0,h0,_⟩
  ·exact f1 e1
  ·rw[addP_ne _ _ f1]at h2;exact e2 (hS.inj' _ _ _ _ _ _ _ h0 hb h2 hp h3 rfl)
 ·have hgi:i < g.length:=by
   have:g.length=es.length:=by have:=congrArg List.length hP.keys; simpa using this.symm
   rw[this]; simpa using hi
  have ek:(es.map (·.1)).getD i 0=(g.getD i (0,0)).1:=by
   rw[hP.keys]; simp[List.getD_eq_getElem?_getD,hgi]
  have hfk:=kJ (Fk hrd) hkp;have hloc:π1 kp=some (.pol g):=by
   rw[hπ kp hki];simp only[cL,hfk,fe];exact hx1 _ _ hpp
  rw[zL hgi,ek];simp only[RelV];refine⟨_,rfl,RelVs_cons (aP _ _) (aQ ?_)⟩;simp only[RelV];refine⟨g,_,hloc,mF hP.nd ?_,rfl⟩;have:(g.getD i (0,0))∈g:=by
   rw[List.getD_eq_getElem?_getD,List.getElem?_eq_getElem hgi]; exact List.getElem_mem hgi
  exact this
 ·rw[a1]at hK0;refine hK _ _ π3 _ _ hK0 (hx1.trans a2) (zK (a2 _ _ (addP_same _ _ _)) (a2 _ _ (hx1 _ _ hp)) a3) (qx a4 (fun q w hq=>?_) (cn _ _ _) (a2 _ _ (hx1 _ _ hp)) (a2 _ _ (hx1 _ _ hpp)) (a2 _ _ (addP_same _ _ _)));have h2:q≠m:=fun e=>by rw[e,hFm]at hq; cases hq
  exact⟨by rw[gv _ _ h2]; exact hq,h2⟩
theorem cE {P:Program}{T:List FEnt}(hT:aw P T):∀ (c:DCode) {α:Type} {K:Exit→DEnv→DSt→Option α} {e:DEnv} {S:DSt} {r:α},bW T c K e S=some r→∀ {π:Pi} {Fr:Store} {e':Env} {s':Store},RelE π e e'→RelS π Fr S s' →
  ∀ {C:Exit→Env→Store→Prop},(∀ x e1 S1 π1 e1' s1,K x e1 S1=some r→Ext π π1→RelE π1 e1 e1'→RelS π1 Fr S1 s1→C x e1' s1)→xc P [] (erase c) C e' s'
 | .skip,α,K,e,S,r,h,π,Fr,e',s',hE,hS,C,hK=>hK _ _ _ π _ _ h (Ext.refl _) hE hS
 | .ret,α,K,e,S,r,h,π,Fr,e',s',hE,hS,C,hK=>hK _ _ _ π _ _ h (Ext.refl _) hE hS
 | .exit i,α,K,e,S,r,h,π,Fr,e',s',hE,hS,C,hK=>hK _ _ _ π _ _ h (Ext.refl _) hE hS
 | .reg l,α,K,e,S,r,h,π,Fr,e',s',hE,hS,C,hK=>fM hT l h hE hS fun e1 S1 π1 e1' s1 g1 g2 g3 g4=>hK _ _ _ π1 _ _ g1 g2 g3 g4
 | .drw rs l,α,K,e,S,r,h,π,Fr,e',s',hE,hS,C,hK=>by
  simp only[bW]at h;split at h
  ·rename_i RD hrd;obtain⟨h1,h2⟩:=mR hE hS hrd;exact⟨h2,mQ hT l h hE hS h1 fun e1 S1 π1 e1' s1 g1 g2 g3 g4=>hK _ _ _ π1 _ _ g1 g2 g3 g4⟩
  ·cases h
 | .seq a b,α,K,e,S,r,h,π,Fr,e',s',hE,hS,C,hK=>by
  simp only[bW]at h;refine cE hT a h hE hS fun x e1 S1 π1 e1' s1 g1 g2 g3 g4=>?_;cases x with
  | normal=>exact cE hT b g1 g3 g4 fun x e2 S2 π2 e2' s2 q1 q2 q3 q4=>hK _ _ _ π2 _ _ q1 (g2.trans q2) q3 q4
  | exit i=>exact hK _ _ _ π1 _ _ g1 g2 g3 g4
  | goto i=>exact hK _ _ _ π1 _ _ g1 g2 g3 g4
  | ret=>exact hK _ _ _ π1 _ _ g1 g2 g3 g4
  | panic i=>exact hK _ _ _ π1 _ _ g1 g2 g3 g4
  | outgrown=>exact hK _ _ _ π1 _ _ g1 g2 g3 g4
 | .cond c a b,α,K,e,S,r,h,π,Fr,e',s',hE,hS,C,hK=>by
  simp only[bW]at h;split at h
  ·rename_i g hg;obtain⟨h1,h2⟩:=b7 h;have hr:=dx hE c;have e1:=cV hg (bv hr h1);refine⟨bE hr h1,?_⟩;rw[e1];cases g with
   | true=>exact⟨fun _=>cE hT a h2 hE hS hK,fun h=>(by cases h)⟩
   | false=>exact⟨fun h=>(by cases h),fun _=>cE hT b h2 hE hS hK⟩
  ·cases h
 | .blk i c,α,K,e,S,r,h,π,Fr,e',s',hE,hS,C,hK=>by
  simp only[bW]at h;refine cE hT c h hE hS fun x e1 S1 π1 e1' s1 g1 g2 g3 g4=>?_;cases x with
  | exit j=>
   simp only[gQ]at g1;simp only[iU];by_cases hj:j=i
   ·subst hj;rw[if_pos rfl];simp only[Nat.beq_refl,cond_true]at g1;exact hK _ _ _ π1 _ _ g1 g2 g3 g4
   ·rw[if_neg hj];simp only[bO hj,cond_false]at g1;exact hK _ _ _ π1 _ _ g1 g2 g3 g4
  | normal=>exact hK _ _ _ π1 _ _ g1 g2 g3 g4
  | goto i=>exact hK _ _ _ π1 _ _ g1 g2 g3 g4
  | ret=>exact hK _ _ _ π1 _ _ g1 g2 g3 g4
  | panic i=>exact hK _ _ _ π1 _ _ g1 g2 g3 g4
  | outgrown=>exact hK _ _ _ π1 _ _ g1 g2 g3 g4
 | .loop hd xs c,α,K,e,S,r,h,π,Fr,e',s',hE,hS,C,hK=>by
  simp only[bW]at h;cases hids:gm hd.ids (hd.st.objs.map (·.1))with
  | false=>rw[hids]at h; cases h
  | true=>
   rw[hids]at h;simp only[cond_true]at h;split at h
   ·rename_i x nm hrd;cases hw:aa (aN (xs:=xs) hd (bW T c)) x with
    | none=>rw[hw]at h; cases h
    | some y=>
     rw[hw]at h;simp only[Option.bind_some]at h;unfold qY at hrd;split at hrd
     ·rename_i l nm1 hr1;split at hrd
      ·rename_i x1 htd;cases hrd;have hl:=bj htd;obtain⟨q1,q2,q3,live,ds0,os0,q4,q5,q6⟩:=ff hS hr1 (cB hE hd.regs) (Fr1:=dh π nm s') (fun b' x h=>lO h) (fun k b lc x h1 h2 h3=>iu h1 h2 h3)
       let I:Nat→Env→Store→Prop:=fun m e1' s1=>∃ x1 π1 ds os,yw (aN (xs:=xs) hd (bW T c)) m x1=some y∧fillSt (fun k=>k) hd.st (ofDens hd.ts x1)=some (ds,os)∧RelVs π1 ds (hd.regs.map e1')∧RelS π1 (dh π nm s') ⟨hd.m,os⟩ s1 ∧
        ∀ k,hd.ids.any (Nat.beq k)=true→π1 k=cL π nm k
       refine⟨I,18446744073709551616,e',s',Wk.refl _ _,⟨x,cL π nm,ds0,os0,hw,by rw[hl]; exact q4,q5,q6,fun _ _=>rfl⟩,?_⟩;rintro m e1' s1 ⟨x1,π1,ds,os,hgo,hfl,hrv,hrs,hid⟩;cases m with
       | zero=>cases hgo
       | succ m=>
        simp only[yw]at hgo;have idsome:∀ k,hd.ids.any (Nat.beq k)=true→∃ lc,π1 k=some lc:=fun k hk=>by
         obtain⟨o,ho⟩:=jM hfl (fN hids hk);exact(hrs.obj k o ho).loc
        cases hst:aN (xs:=xs) hd (bW T c) x1 with
        | none=>rw[hst]at hgo; cases hgo
        | some z=>
         rw[hst]at hgo;unfold aN at hst;rw[hfl]at hst;simp only at hst;refine cE hT c hst (eN hrv) hrs fun ex e2 S2 π2 e2' s2 g1 g2 g3 g4=>?_;have idk:∀ k,hd.ids.any (Nat.beq k)=true→π2 k=cL π nm k:=fun k hk=>by
          obtain⟨lc,hlc⟩:=idsome k hk;rw[← hid k hk,hlc]; exact g2 _ _ hlc
         have exit:∀ yy,ph xs ex e2 S2=some yy→z = .inr yy→C ex e2' s2:=fun yy hin hz=>by
          subst hz;simp only at hgo;cases hgo;obtain⟨a,w,ha,hrx,hk⟩:=kH hin h;cases hsub:gm a.o.ids hd.ids with
          | false=>rw[hsub]at hk; cases hk
          | true=>
           rw[hsub]at hk;simp only[cond_true]at hk;unfold GY at hrx;split at hrx
           ·rename_i l2 nm2 hr2;have hl2:=bj hrx;obtain⟨p1,p2,p3,p4,ds2,os2,p5,p6,p7⟩:=ff g4 hr2 (cB g3 a.regs) (Fr1:=dh π nm s') g4.frm (fun k b lc x h1 h2 h3=>by
             obtain⟨o,ho⟩:=(ff g4 hr2 (cB g3 a.regs) (Fr1:=rG) (fun _ _ h=>by cases h) (fun _ _ _ _ _ _ _=>rfl)).2.2.2.1 k b h1;exact g4.out' b o lc x ho h2 h3)
            rw[hl2]at hk;obtain⟨ds3,S3,π3,a1,a2,a3,a4,a5,a6⟩:=dZ hS live p5 p3 p6 p7 (fun k hk b hb=>by
             have hf:=p1 _ _ (gY hk);have e3:cL π2 nm2 k=π2 k:=by simp only[cL,hf,fe]
             rw[e3,idk k (fN hsub hk)];simp only[cL,hb,fe])
            rw[a1]at hk;rw[← ha];exact hK _ _ _ π3 _ _ hk a2 (eN a3) a4
           ·cases hrx
         have other:(match ph xs ex e2 S2 with | some y=>some (.inr y) | none=>none)=some z→C ex e2' s2:=fun hg=>by
          split at hg
          ·rename_i yy hyy; cases hg; exact exit yy hyy rfl
          ·cases hg
         cases ex with
         | normal=>
          simp only[GZ]at g1;split at g1
          ·rename_i x2 nm2 hr2;cases g1;unfold qY at hr2;split at hr2
           ·rename_i l2 nm3 hr3;split at hr2
            ·rename_i x3 htd3;cases hr2;have hl3:=bj htd3;obtain⟨p1,p2,p3,p4,ds2,os2,p5,p6,p7⟩:=ff g4 hr3 (cB g3 hd.regs) (Fr1:=dh π nm s') g4.frm (fun k b lc x h1 h2 h3=>by
              obtain⟨o,ho⟩:=(ff g4 hr3 (cB g3 hd.regs) (Fr1:=rG) (fun _ _ h=>by cases h) (fun _ _ _ _ _ _ _=>rfl)).2.2.2.1 k b h1;exact g4.out' b o lc x ho h2 h3)
             refine⟨m,e2',s2,Wk.refl _ _,Nat.lt_succ_self m,x2,cL π2 nm2,ds2,os2,hgo,by rw[hl3]; exact p5,p6,p7,fun k hk=>?_⟩;have hf:=p1 _ _ (gY hk);have e3:cL π2 nm2 k=π2 k:=by simp only[cL,hf,fe]
             rw[e3,idk k hk]
            ·cases hr2
           ·cases hr2
          ·cases g1
         | exit i=>exact other g1
         | ret=>exact other g1
         | goto i=>exact other g1
         | panic i=>exact other g1
         | outgrown=>exact other g1
      ·cases hrd
     ·cases hrd
   ·cases h
 | .mrng pre x it nx bb et j hd c,α,K,e,S,r,h,π,Fr,e',s',hE,hS,C,hK=>by
  simp only[bW]at h;refine fM hT pre h hE hS fun e1 S1 π1 e1' s1 g1 g2 g3 g4=>?_;split at g1
  ·rename_i b hx;split at g1
   ·rename_i kn ag t es hb;obtain⟨o1,g1⟩:=b7 g1;obtain⟨o1,o2⟩:=ah o1;simp only[List.all_cons,List.all_nil,id,Bool.and_true]at o2;split at g1
    ·rename_i y nm hrd;cases hids:gm hd.ids (hd.st.objs.map (·.1))with
     | false=>rw[hids]at hrd; cases hrd
     | true=>
      rw[hids,cond_true]at hrd;cases hz:pj es (pk hd it et kn ag t fun K'=>bW T c (gQ j K')) y with
      | none=>rw[hz]at g1; cases g1
      | some z=>
       rw[hz]at g1;simp only[Option.bind_some]at g1;exact rO (K:=K .normal) (C:=C .normal) (cE hT c) hx hb o1 o2 hids hrd hz g1 g3 g4 fun e2 S2 π2 e2' s2 q1 q2 q3 q4=>hK _ _ _ π2 _ _ q1 (g2.trans q2) q3 q4
    ·cases g1
   ·rename_i p hb;split at g1
    ·rename_i t es hpo;obtain⟨o1,g1⟩:=b7 g1;obtain⟨o1,o2⟩:=ah o1;simp only[List.all_cons,List.all_nil,id,Bool.and_true]at o2;split at g1
     ·rename_i y nm hrd;cases hids:gm hd.ids (hd.st.objs.map (·.1))with
      | false=>rw[hids]at hrd; cases hrd
      | true=>
       rw[hids,cond_true]at hrd;split at g1
       ·rename_i kp hkp;cases hki:hd.ids.any (Nat.beq kp)with
        | false=>rw[hki]at g1; cases g1
        | true=>
         rw[hki,cond_true]at g1;cases hz:pj (es.map (·.1)) (mz hd it et kp fun K'=>bW T c (gQ j K')) y with
         | none=>rw[hz]at g1; cases g1
         | some z=>
          rw[hz]at g1;simp only[Option.bind_some]at g1;exact qy (K:=K .normal) (C:=C .normal) (cE hT c) hx hb hpo o1 o2 hids hrd hkp hki hz g1 g3 g4 fun e2 S2 π2 e2' s2 q1 q2 q3 q4=>hK _ _ _ π2 _ _ q1 (g2.trans q2) q3 q4
       ·cases g1
     ·cases g1
    ·cases g1
   ·cases g1
  ·cases g1
 | .once hd xs c,α,K,e,S,r,h,π,Fr,e',s',hE,hS,C,hK=>by
  simp only[bW]at h;cases hids:gm hd.ids (hd.st.objs.map (·.1))with
  | false=>rw[hids]at h; cases h
  | true=>
   rw[hids]at h;simp only[cond_true]at h;split at h
   ·rename_i x nm hrd;cases hw:jE (xs:=xs) hd (bW T c) x with
    | none=>rw[hw]at h; cases h
    | some y=>
     rw[hw]at h;simp only[Option.bind_some]at h;unfold qY at hrd;split at hrd
     ·rename_i l nm1 hr1;split at hrd
      ·rename_i x1 htd;cases hrd;have hl:=bj htd;obtain⟨q1,q2,q3,live,ds0,os0,q4,q5,q6⟩:=ff hS hr1 (cB hE hd.regs) (Fr1:=dh π nm s') (fun b' x h=>lO h) (fun k b lc x h1 h2 h3=>iu h1 h2 h3);rw[← hl]at q4;unfold jE at hw;rw[q4]at hw;simp only at hw;have idsome:∀ k,hd.ids.any (Nat.beq k)=true→∃ lc,cL π nm k=some lc:=fun k hk=>by
        obtain⟨o,ho⟩:=jM q4 (fN hids hk);exact(q6.obj k o ho).loc
       refine cE hT c hw (eN q5) q6 fun ex e2 S2 π2 e2' s2 g1 g2 g3 g4=>?_;have idk:∀ k,hd.ids.any (Nat.beq k)=true→π2 k=cL π nm k:=fun k hk=>by
        obtain⟨lc,hlc⟩:=idsome k hk;rw[hlc]; exact g2 _ _ hlc
       obtain⟨a,w,ha,hrx,hk⟩:=kH g1 h;cases hsub:gm a.o.ids hd.ids with
       | false=>rw[hsub]at hk; cases hk
       | true=>
        rw[hsub]at hk;simp only[cond_true]at hk;unfold GY at hrx;split at hrx
        ·rename_i l2 nm2 hr2;have hl2:=bj hrx;obtain⟨p1,p2,p3,p4,ds2,os2,p5,p6,p7⟩:=ff g4 hr2 (cB g3 a.regs) (Fr1:=dh π nm s') g4.frm (fun k b lc x h1 h2 h3=>by
          obtain⟨o,ho⟩:=(ff g4 hr2 (cB g3 a.regs) (Fr1:=rG) (fun _ _ h=>by cases h) (fun _ _ _ _ _ _ _=>rfl)).2.2.2.1 k b h1;exact g4.out' b o lc x ho h2 h3)
         rw[hl2]at hk;obtain⟨ds3,S3,π3,a1,a2,a3,a4,a5,a6⟩:=dZ hS live p5 p3 p6 p7 (fun k hk b hb=>by
          have hf:=p1 _ _ (gY hk);have e3:cL π2 nm2 k=π2 k:=by simp only[cL,hf,fe]
          rw[e3,idk k (fN hsub hk)];simp only[cL,hb,fe])
         rw[a1]at hk;rw[← ha];exact hK _ _ _ π3 _ _ hk a2 (eN a3) a4
        ·cases hrx
      ·cases hrd
     ·cases hrd
   ·cases h
theorem qz {as:List AV}:∀ {ds:List DV} {bs:List AV} (i:Nat),RelVs π ds bs→(∀ j,at_ as (i+j)=at_ bs j)→RelE π (wu i ds) (pH as)
 | [],bs,i,h,hb=>by intro t d ht; simp[wu,bt]at ht
 | d0::ds,bs,i,h,hb=>by
  simp only[RelVs]at h;obtain⟨a,as',rfl,h1,h2⟩:=h;intro t d ht;simp only[wu,bt]at ht;by_cases e1:i=t
  ·subst e1
   simp at ht
   subst ht;show RelV π d0 (at_ as i);rw[show i=i+0 from rfl,hb 0]; exact h1
  ·simp only[bO e1,cond_false]at ht;refine qz (i+1) h2 (fun j=>?_) t d ht;rw[show i+1+j=i+(j+1)by omega,hb (j+1)]; rfl
theorem uT {e:DEnv}{e':Env}(hE:RelE π e e')(hS:RelS π Fr S s'){r:Res}{d:DV}(h:wt e S r=some d):∃ a,kc e' s' r=some a∧RelV π d a:=by
 cases r with
 | t n=>cases h; exact⟨_,rfl,dx hE (.t n)⟩
 | cell a ag k=>
  simp only[wt]at h;split at h
  ·rename_i b hg;have hr:=dx hE (.t a);simp only[ck,hg,RelV,opd]at hr;obtain⟨b',c,n,hp,e1⟩:=hr;split at h
   ·rename_i cs hb;obtain⟨b2,c2,n2,as,hp2,hs,hv⟩:=hS.obj _ _ hb;rw[hp]at hp2; cases hp2;cases hc:Nat.beq cs.length k with
    | false=>rw[hc]at h; cases h
    | true=>
     rw[hc]at h;simp only[cond_true]at h;have hlen:as.length=k:=by rw[aL hv]; exact ai.1 hc
     simp only[kc,e1,hs];cases ag with
     | true=>
      cases h;exact⟨.agg as,by simp[hlen],by simp only[RelV]; exact⟨as,rfl,hv⟩⟩
     | false=>
      simp only at h;split at h
      ·cases h;simp only[RelVs]at hv;obtain⟨a,as',rfl,h1,h2⟩:=hv;exact⟨a,by simp only[List.length_cons]at hlen; simp only[List.length_cons,hlen,if_true,Bool.false_eq_true,if_false]; rfl,h1⟩
      ·cases h
   ·cases h
  ·cases h
theorem kK {e:DEnv}{e':Env}(hE:RelE π e e')(hS:RelS π Fr S s'):∀ {rs:List Res} {ds:List DV},sL e S rs=some ds→∃ as,gH e' s' rs=some as∧RelVs π ds as
 | [],ds,h=>by cases h; exact⟨[],rfl,RelVs_nil⟩
 | r::rs,ds,h=>by
  simp only[sL]at h;split at h
  ·rename_i d ds' h1 h2;cases h;obtain⟨a,g1,g2⟩:=uT hE hS h1;obtain⟨as,g3,g4⟩:=kK hE hS h2;exact⟨a::as,by simp only[gH,g1,g3],RelVs_cons g2 g4⟩
  ·cases h
theorem wM {e:DEnv}{e':Env}(hE:RelE π e e')(hS:RelS π Fr S s'){rs:List Res}{d:DV}(h:zC e S rs=some d):∃ a,kS e' s' rs=some a∧RelV π d a:=by
 unfold zC at h;split at h
 ·rename_i d1 hd;cases h;obtain⟨as,g1,g2⟩:=kK hE hS hd;simp only[RelVs]at g2;obtain⟨a,as',rfl,g2,rfl⟩:=g2;exact⟨a,by simp only[kS,g1],g2⟩
 ·rename_i ds hne hd;cases h;obtain⟨as,g1,g2⟩:=kK hE hS hd;refine⟨.tup as,?_,by simp only[RelV]; exact⟨as,rfl,g2⟩⟩;unfold kS;rw[g1];split
  ·rename_i v hv;cases hv;have:=aL g2
   match ds,this,hne with
   | [x],_,hne=>exact absurd rfl (hne x)
  ·rename_i vs _ hv; cases hv; rfl
  ·rename_i hv; cases hv
 ·cases h
theorem kL {P:Program}{T:List FEnt}(hT:aw P T){f:FuncId}{n:Nat}{rs:List Res}{c:DCode}(hF:L.Fn P f n rs (erase c)){sh:FSh}(hn:Nat.ble sh.ins.vals.length n=true):DC P f sh (bH T sh rs c):=by
 refine⟨fun _=>hF.callR,fun x r h π Fr as s' hin=>?_⟩;obtain⟨ds,os,h1,h2,h3⟩:=hin;unfold bH at h;rw[h1]at h;simp only at h;have hids:gm sh.out.ids (sh.ins.objs.map (·.1))=true:=by
  cases hc:gm sh.out.ids (sh.ins.objs.map (·.1))with
  | true=>rfl
  | false=>rw[hc]at h; cases h
 rw[hids,cond_true]at h;have hlen:as.length≤n:=by
  rw[aL h2];have:ds.length=sh.ins.vals.length:=by
   unfold fillSt at h1;split at h1
   ·rename_i ds1 l1 hv;split at h1
    ·cases h1
     clear h h2
     revert hv
     generalize ofDens sh.ts x=l;generalize sh.ins.vals=rs;intro hv
     induction rs generalizing ds l with
     | nil=>simp only[fillVs]at hv; cases hv; rfl
     | cons r rs ih=>
      simp only[fillVs]at hv;split at hv
      ·split at hv
       ·rename_i h2; cases hv; simp[ih _ _ h2]
       ·cases hv
      ·cases hv
    ·cases h1
   ·cases h1
  rw[this]
  simpa [Nat.ble_eq]using hn
 refine rl (ui _) hF hlen (cE hT c h (qz 0 h2 fun j=>by rw[Nat.zero_add]) h3 fun ex e1 S1 π1 e1' s1 g1 g2 g3 g4=>?_);have fin:(match zC e1 S1 rs with
   | some d=>match nw none S1 sh.out.st sh.out.q [d] (qg sh.out.ids)with
    | some (l,_)=>dH sh.out.ts l
    | none=>none
   | none=>none)=some r→∃ r0,kS e1' s1 rs=some r0∧∃ r' s'',Wk1 s1 r0 s'' r'∧∃ π1,Ot π π1 Fr sh.out r r' s'':=fun hg=>by
  split at hg
  ·rename_i d hd;split at hg
   ·rename_i l nm hr;obtain⟨a,q1,q2⟩:=wM g3 g4 hd;refine⟨a,q1,a,s1,Wk1.refl _ _,cL π1 nm,?_⟩;obtain⟨p1,p2,p3,p4,ds2,os2,p5,p6,p7⟩:=ff g4 hr (aQ q2) (Fr1:=Fr) g4.frm (fun k b lc x h1 h2 h3=>by
     obtain⟨o,ho⟩:=(ff g4 hr (aQ q2) (Fr1:=rG) (fun _ _ h=>by cases h) (fun _ _ _ _ _ _ _=>rfl)).2.2.2.1 k b h1;exact g4.out' b o lc x ho h2 h3)
    have hl:ofDens sh.out.ts r=l:=bj hg;cases ds2 with
    | nil=>simp only[RelVs]at p6; cases p6
    | cons d2 ds2=>
     simp only[RelVs]at p6;obtain⟨a',as',e1,p6,p8⟩:=p6;cases e1;cases ds2 with
     | cons d3 ds3=>simp only[RelVs]at p8; obtain⟨_,_,e1,_⟩:=p8; cases e1
     | nil=>
      refine⟨d2,os2,by rw[hl]; exact p5,p3,p6,p7,fun k hk=>?_⟩;have hf:=p1 _ _ (gY hk);simp only[cL,hf,fe];obtain⟨o,ho⟩:=jM h1 (fN hids hk);obtain⟨lc,hlc⟩:=(h3.obj k o ho).loc;rw[hlc]; exact g2 _ _ hlc
   ·cases hg
  ·cases hg
 cases ex with
 | normal=>exact fin g1
 | ret=>exact fin g1
 | _=>cases g1
end
end Go.Proofs.Ytjoncejabdjekaa.D

set_option linter.unusedVariables false
set_option linter.unusedSectionVars false
set_option linter.unusedSimpArgs false
namespace Go.Proofs.Ytjoncejabdjekaa.D
open Go Go.Proofs.Ytjoncejabdjekaa.L
variable [YP]
theorem A6 {P:Program}{f:FuncId}{sh:FSh}{F F':dens sh.ts→Option (dens sh.out.ts)}(h:F=F')(k:DC P f sh F):DC P f sh F':=h▸k
theorem zM {P:Program}{f:FuncId}{sh:FSh}(h:f≠YB→lY P f):DC P f sh (fun _=>none):=⟨h,fun x r hr=>by cases hr⟩
theorem jh {P:Program}{f:FuncId}{sh:FSh}{F:dens sh.ts→Option (dens sh.out.ts)}{T:List FEnt}(h:DC P f sh F)(hv:(!sh.bw||uI sh)=true)(hT:aw P T):aw P (⟨f,sh,F⟩::T):=uM (ent:=⟨f,sh,F⟩) h hv hT
end Go.Proofs.Ytjoncejabdjekaa.D

set_option linter.unusedVariables false
set_option linter.unusedSectionVars false
set_option linter.unusedSimpArgs false
namespace Go.Proofs.Ytjoncejabdjekaa.D
open Go Go.Proofs.Ytjoncejabdjekaa.L
variable [YP]
inductive Mk where
 | a (i:Nat) (ag:Bool) (t:Ty)
 | f (i r:Nat) (p:List Nat)
def G5:List Mk→Nat→List DOper
 | .f i r p::hs,k=>bif Nat.beq i k then .fz r p::G5 hs k else []
 | _,_=>[]
def LH:List Mk→Nat→List Mk
 | .f i r p::hs,k=>bif Nat.beq i k then LH hs k else .f i r p::hs
 | hs,_=>hs
def Ou:List Mk→Nat→sI
 | .a i ag t::_,k=>bif Nat.beq i k then some (ag,t)else none
 | _,_=>none
def Ov:List Mk→Nat→List Mk
 | .a i ag t::hs,k=>bif Nat.beq i k then hs else .a i ag t::hs
 | hs,_=>hs
def rP:List AOper→List Mk→Nat→List DOper
 | [],hs,k=>G5 hs k
 | o::l,hs,k=>G5 hs k ++ .op o (Ou (LH hs k) k)::rP l (Ov (LH hs k) k) (k+1)
def wN:List AOper→List Mk→Nat→List (AOper×sI)
 | [],_,_=>[]
 | o::l,hs,k=>(o,Ou hs k)::wN l (Ov hs k) (k+1)
theorem ji:∀ (a b:List DOper),dI (a++b)=dI a++dI b
 | [],_=>rfl
 | .op o _::a,b=>by simp[dI,ji a b]
 | .fz ..::a,b=>by simp[dI,ji a b]
theorem jj:∀ (hs:List Mk) (k:Nat),dI (G5 hs k)=[]
 | [],_=>rfl
 | .a ..::_,_=>rfl
 | .f i r p::hs,k=>by
  simp only[G5];cases Nat.beq i k
  ·rfl
  ·exact jj hs k
theorem eO:∀ (l:List AOper) (hs:List Mk) (k:Nat),dI (rP l hs k)=l
 | [],hs,k=>jj hs k
 | o::l,hs,k=>by simp only[rP,ji,jj,List.nil_append,dI,eO l]
theorem jk:∀ (l:List AOper) (hs:List Mk) (k:Nat),(wN l hs k).map (·.1)=l
 | [],_,_=>rfl
 | o::l,hs,k=>by simp only[wN,List.map_cons,jk l]
inductive HT where
 | n
 | r (l:List Mk)
 | s (x y:HT)
 | b (x:HT)
 | l (h:LSh) (xs:List XSh) (x:HT)
 | o (h:LSh) (xs:List XSh) (x:HT)
 | m (l:List Mk) (h:LSh) (x:HT)
def Ow:LSh:=⟨[],⟨[],[]⟩,[],0,[]⟩
def iE:ACode→DCode
 | .skip=>.skip
 | .ret=>.ret
 | .exit i=>.exit i
 | .reg l=>.reg (rP (l ()) [] 0)
 | .drw rs l=>.drw rs (wN (l ()) [] 0)
 | .seq x y=>.seq (iE x) (iE y)
 | .cond c x y=>.cond c (iE x) (iE y)
 | .blk i x=>.blk i (iE x)
 | .loop c=>.loop Ow [] (iE (c ()))
 | .mrng pre x it nx bb et j c=>.mrng (rP (pre ()) [] 0) x it nx bb et j Ow (iE (c ()))
def ann:HT→ACode→DCode
 | .r hs,.reg l=>.reg (rP (l ()) hs 0)
 | .r hs,.drw rs l=>.drw rs (wN (l ()) hs 0)
 | .s h k,.seq x y=>.seq (ann h x) (ann k y)
 | .s h k,.cond c x y=>.cond c (ann h x) (ann k y)
 | .b h,.blk i x=>.blk i (ann h x)
 | .l h xs k,.loop c=>.loop h xs (ann k (c ()))
 | .o h xs k,c=>.once h xs (ann k c)
 | .m hs h k,.mrng pre x it nx bb et j c=>.mrng (rP (pre ()) hs 0) x it nx bb et j h (ann k (c ()))
 | _,c=>iE c
theorem bB:∀ c:ACode,erase (iE c)=c
 | .skip | .ret | .exit _=>rfl
 | .reg l=>by simp only[iE,erase,eO]
 | .drw rs l=>by simp only[iE,erase,jk]
 | .seq x y=>by simp only[iE,erase,bB x,bB y]
 | .cond c x y=>by simp only[iE,erase,bB x,bB y]
 | .blk i x=>by simp only[iE,erase,bB x]
 | .loop c=>by simp only[iE,erase,bB (c ())]
 | .mrng pre x it nx bb et j c=>by simp only[iE,erase,eO,bB (c ())]
theorem uU:∀ (h:HT) (c:ACode),erase (ann h c)=c:=by
 intro h
 induction h with
 | n=>intro c; cases c <;> exact bB _
 | r hs=>
  intro c;cases c <;> first
   | exact bB _
   | simp only[ann,erase,eO,jk]
 | s h k ih1 ih2=>
  intro c;cases c <;> first
   | exact bB _
   | simp only[ann,erase,ih1,ih2]
 | b h ih=>
  intro c;cases c <;> first
   | exact bB _
   | simp only[ann,erase,ih]
 | l h xs k ih=>
  intro c;cases c <;> first
   | exact bB _
   | simp only[ann,erase,ih]
 | o h xs k ih=>intro c; simp only[ann,erase,ih]
 | m hs h k ih=>
  intro c;cases c <;> first
   | exact bB _
   | simp only[ann,erase,eO,ih]
def Fl (P:Program)(n:Nat)(c:RCh)(ops:Array Oper)(draw:Bool):ACode:=match draw with
 | false=>.reg fun _=>(kv P n ops c.ch ops.toList).getD []
 | true=>.drw c.rs fun _=>mj ((kv P n ops c.ch ops.toList).getD []).toArray (AX c ops.size)
theorem zN {P:Program}{n:Nat}{c:RCh}{ops:Array Oper}{draw:Bool}{a:ACode}(h:wm P n c ops draw=some a):Fl P n c ops draw=a:=by
 unfold wm at h;unfold Fl;split at h
 ·rename_i l hl;rw[hl];split at h
  ·cases h; rfl
  ·simp only[]at h;split at h
   ·cases h; rfl
   ·cases h
 ·cases h
def fh (P:Program)(n:Nat)(cs:List (Nat×RCh)):Code→ACode
 | .skip=>.skip
 | .ret=>.ret
 | .exit i=>.exit i
 | .region id ops draw=>Fl P n (LB cs id) ops draw
 | .seq a b=>zo P n a b (fh P n cs a) (fh P n cs b)
 | .cond c a b=>.cond ((cOpd c).getD (.t 0)) (fh P n cs a) (fh P n cs b)
 | .block i c=>.blk i (fh P n cs c)
 | .loop c=>.loop fun _=>fh P n cs c
 | .label _=>.skip
 | .scope c=>fh P n cs c
 | _=>.skip
theorem d7 {P:Program}{n:Nat}{cs:List (Nat×RCh)}:∀ {c:Code} {a:ACode},da P n cs c=some a→fh P n cs c=a
 | .skip,_,h=>by cases h; rfl
 | .ret,_,h=>by cases h; rfl
 | .exit i,_,h=>by cases h; rfl
 | .region id ops draw,_,h=>zN h
 | .seq x y,_,h=>by
  simp only[da]at h;split at h
  ·rename_i h1 h2; cases h; rw[fh,d7 h1,d7 h2]
  ·cases h
 | .cond c x y,_,h=>by
  simp only[da]at h;split at h
  ·rename_i h0 h1 h2; cases h; rw[fh,d7 h1,d7 h2,h0]; rfl
  ·cases h
 | .block i c,_,h=>by
  simp only[da]at h;split at h
  ·rename_i h1; cases h; rw[fh,d7 h1]
  ·cases h
 | .loop c,_,h=>by
  simp only[da]at h;split at h
  ·rename_i h1; cases h; rw[fh,d7 h1]
  ·cases h
 | .label l,_,h=>by cases h; rfl
 | .scope c,_,h=>by
  simp only[da]at h;rw[fh,d7 h]
def ef (P:Program)(cs:List (Nat×RCh))(fn:Func)(h:HT):DCode:=match fn.body with
 | some b=>ann h (fh P fn.ntmps cs b)
 | none=>.skip
theorem Fn.ofA {P:Program}(hm:P.follows .mixedOrders=true){f:FuncId}{fn:Func}(hf:P.funcs[f]?=some fn)(cs:List (Nat×RCh)){n:Nat}{rs:List Res}(H:HT)(h:(F3 P cs fn).map (fun x=>(x.1,x.2.1))=some (n,rs))(hne:Nat.beq f YB=false:=by rfl):L.Fn P f n rs (erase (ef P cs fn H)):=by
 cases hc:F3 P cs fn with
 | none=>rw[hc]at h; cases h
 | some x=>
  rw[hc]at h;obtain⟨n',rs',c⟩:=x;cases h;have:erase (ef P cs fn H)=c:=by
   have hc':=hc;unfold F3 at hc';split at hc'
   ·split at hc'
    ·rename_i b rs0 hb hr;split at hc'
     ·rename_i c0 h0;cases hc';simp only[ef,hb,uU];exact d7 h0
     ·cases hc'
    ·cases hc'
   ·cases hc'
  rw[this];exact L.Fn.of hm hf cs hc hne
def sb:List Nat→DCode→DCode
 | [],c=>c
 | 0::p,.seq x _=>sb p x
 | _::p,.seq _ y=>sb p y
 | 0::p,.cond _ x _=>sb p x
 | _::p,.cond _ _ y=>sb p y
 | _::p,.blk _ x=>sb p x
 | _::p,.loop _ _ x=>sb p x
 | _::p,.once _ _ x=>sb p x
 | _::p,.mrng _ _ _ _ _ _ _ _ x=>sb p x
 | _::_,c=>c
end Go.Proofs.Ytjoncejabdjekaa.D

set_option linter.unusedVariables false
set_option linter.unusedSimpArgs false
namespace Go.Proofs.Ytjoncejabdjekaa.D
open Go Go.Proofs.Ytjoncejabdjekaa.L
def foldT (t:Ty):List Ty→Ty
 | []=>t
 | u::us=>.pair t (foldT u us)
def Wf:(t:Ty)→t.den→Prop
 | .int k,n=>(Lit.int k n).wf=true
 | .str,s=>s.size≤maxLen
 | .sl t,l=>l.length≤maxLen∧∀ i,i < l.length→Wf t (ip t l i)
 | .pair a b,x=>Wf a x.1∧Wf b x.2
 | _,_=>True
def eP (P:Program)(rec:TypeId→Option (List Ty)):Nat→List Field→Option (List Ty)
 | _,[]=>some []
 | off,f::fs=>match rec f.type with
  | some ts=>bif Nat.beq f.offset off&&Nat.beq (P.cellsOf f.type) ts.length then(match eP P rec (off+ts.length) fs with
   | some us=>some (ts++us)
   | none=>none)else none
  | none=>none
def tyCells (P:Program):Nat→TypeId→Option (List Ty)
 | 0,_=>none
 | n+1,t=>match P.underlying t with
  | some (.int k)=>some [.int k]
  | some .bool=>some [.bool]
  | some .string=>some [.str]
  | some (.slice e)=>match tyCells P n e with
   | some (u::us)=>bif Nat.beq (P.cellsOf e) (us.length+1)then some [.sl (foldT u us)]else none
   | _=>none
  | some (.struct fs)=>match eP P (tyCells P n) 0 fs.toList with
   | some ts=>bif Nat.beq (P.cellsOf t) ts.length then some ts else none
   | none=>none
  | _=>none
def zO (w:World):List Leaf→List Value→Prop
 | [],cs=>cs=[]
 | l::ls,cs=>∃ a v cs',cs=v::cs'∧CR l.t l.x [a]∧FV (fun _=>False) w a v∧Wf l.t l.x∧zO w ls cs'
theorem sZ {w:World}:∀ {l l':List Leaf} {cs cs':List Value},zO w l cs→zO w l' cs'→zO w (l++l') (cs++cs')
 | [],_,_,_,h,h'=>by cases h; exact h'
 | x::l,_,_,_,⟨a,v,c,e,h1,h2,h3,h4⟩,h'=>by subst e; exact⟨a,v,_,rfl,h1,h2,h3,sZ h4 h'⟩
theorem zP (a:AV)(as:List AV)(j:Nat):at_ (a::as) (j+1)=at_ as j:=by simp[at_]
theorem Fm {w:World}:∀ {t:Ty} {ts:List Ty} {l:List Leaf} {cs:List Value},l.map (·.t)=t::ts→zO w l cs →
  ∃ (x:(foldT t ts).den) (as:List AV),CR (foldT t ts) x as∧Wf (foldT t ts) x∧as.length=cs.length∧∀ j,j < cs.length→FV (fun _=>False) w (at_ as j) (cx cs j)
 | t,[],[],_,h,_=>by simp at h
 | t,u::us,[],_,h,_=>by simp at h
 | t,[],⟨t',x⟩::l,cs,h,hc=>by
  simp only[List.map_cons,List.cons.injEq,List.map_eq_nil_iff]at h;obtain⟨h1,rfl⟩:=h;subst h1;obtain⟨a,v,c,rfl,k1,k2,k3,k4⟩:=hc;cases k4;refine⟨x,[a],k1,k3,rfl,fun j hj=>?_⟩;have:j=0:=by simpa using hj
  subst this;exact k2
 | t,u::us,⟨t',x⟩::l,cs,h,hc=>by
  simp only[List.map_cons,List.cons.injEq]at h;obtain⟨h1,h⟩:=h;subst h1;obtain⟨a,v,c,rfl,k1,k2,k3,k4⟩:=hc;obtain⟨y,as,g1,g2,g3,g4⟩:=Fm (t:=u) (ts:=us) (by simpa using h) k4;refine⟨(x,y),a::as,⟨[a],as,rfl,k1,g1⟩,⟨k3,g2⟩,by simp[g3],fun j hj=>?_⟩;cases j with
  | zero=>exact k2
  | succ j=>rw[zP]; exact g4 j (by simpa using hj)
section
variable {H:Type} {enc:TypeId×Value→H} {P:Program} {w:World} {base:Nat} {spare:Nat→Bool} {held:Bool}
theorem hG {α:Type}(g:Nat→α)(d:α){i n:Nat}(h:i < n):((List.range n).map g).getD i d=g i:=by
 simp[List.getD_eq_getElem?_getD,h]
theorem jO {n:Nat}{rec:TypeId→Option (List Ty)}{cs:List Value}(hrec:∀ {t ts},rec t=some ts→∀ {cs x},DataW.trod enc P w base spare held n t cs=some x→∃ l:List Leaf,l.map (·.t)=ts∧zO w l cs):
  ∀ (fs:List Field) (off:Nat) (ts:List Ty),eP P rec off fs=some ts→(∀ f∈fs,∃ x,DataW.trod enc P w base spare held n f.type ((cs.drop f.offset).take (P.cellsOf f.type))=some x) →
   ∃ l:List Leaf,l.map (·.t)=ts∧zO w l ((cs.drop off).take ts.length)
 | [],off,ts,h,_=>by
  simp only[eP,Option.some.injEq]at h; subst h;exact⟨[],rfl,by simp[zO]⟩
 | f::fs,off,ts,h,hf=>by
  simp only[eP]at h;cases hr:rec f.type with
  | none=>rw[hr]at h; cases h
  | some us=>
   rw[hr]at h;cases hb:(Nat.beq f.offset off&&Nat.beq (P.cellsOf f.type) us.length)with
   | false=>simp only[hb,cond_false]at h; cases h
   | true=>
    simp only[hb,cond_true]at h;simp only[Bool.and_eq_true,ai]at hb;obtain⟨e1,e2⟩:=hb;cases hr2:eP P rec (off+us.length) fs with
    | none=>rw[hr2]at h; cases h
    | some vs=>
     rw[hr2]at h;simp only[Option.some.injEq]at h; subst h;obtain⟨x,hx⟩:=hf f (by simp);obtain⟨l,g1,g2⟩:=hrec hr hx;obtain⟨l',g3,g4⟩:=jO hrec fs _ _ hr2 (fun f' hf'=>hf f' (by simp[hf']));refine⟨l++l',by simp[g1,g3],?_⟩;rw[e1,e2]at g2;have:(cs.drop off).take (us++vs).length=(cs.drop off).take us.length++(cs.drop (off+us.length)).take vs.length:=by
      rw[List.length_append,List.take_add,List.drop_drop]
     rw[this];exact sZ g2 g4
theorem zQ {w:World}{a:Addr}{v:Value}(h:w.cell? a=some v):a.block < w.heap.size:=World.block_lt_of_cell? w a h
theorem gw:∀ (n:Nat) {t:TypeId} {ts:List Ty},tyCells P n t=some ts→∀ {fuel:Nat} {cs:List Value} {x:DataW H×List MemPlace},DataW.trod enc P w base spare held fuel t cs=some x→∃ l:List Leaf,l.map (·.t)=ts∧zO w l cs
 | 0,_,_,h,_,_,_,_=>by cases h
 | n+1,t,ts,h,fuel,cs,x,ht=>by
  unfold tyCells at h;split at h
  ·rename_i k hu;cases h;obtain⟨m,rfl,_,hw⟩:=DataW.trod_int hu ht;exact⟨[⟨.int k,m⟩],rfl,_,_,_,rfl,rfl,.int k m,hw,rfl⟩
  ·rename_i hu;cases h;obtain⟨b,rfl,_⟩:=DataW.trod_bool hu ht;exact⟨[⟨.bool,b⟩],rfl,_,_,_,rfl,rfl,.bool b,trivial,rfl⟩
  ·rename_i hu;cases h;obtain⟨s,rfl,_,hs⟩:=DataW.trod_string hu ht;exact⟨[⟨.str,s⟩],rfl,_,_,_,rfl,rfl,.str s,hs,rfl⟩
  ·rename_i e hu;cases hr:tyCells P n e with
   | none=>rw[hr]at h; cases h
   | some us=>
    rw[hr]at h;cases us with
    | nil=>cases h
    | cons u us=>
     cases hb:Nat.beq (P.cellsOf e) (us.length+1)with
     | false=>simp only[hb,cond_false]at h; cases h
     | true=>
      simp only[hb,cond_true,Option.some.injEq]at h;subst h;have hce:=ai.1 hb;rcases DataW.trod_slice hu ht with⟨rfl,_⟩ | ⟨a,len,cap,elems,rest,m,rfl,rfl,_,_,hlc,hcm,hel,hcell,_,_⟩
      ·exact⟨[⟨.sl (foldT u us),[]⟩],rfl,.emp,_,_,rfl,.inl ⟨rfl,rfl⟩,.emp none,⟨by simp,by simp⟩,rfl⟩
      ·have key:∀ i,i < len→∃ (c:List Value) (x:(foldT u us).den) (as:List AV),(c.length=P.cellsOf e∧∀ j,j < P.cellsOf e→w.cell? ((a.add (i*P.cellsOf e)).add j)=c[j]?) ∧
         CR (foldT u us) x as∧Wf (foldT u us) x∧as.length=c.length∧∀ j,j < c.length→FV (fun _=>False) w (at_ as j) (cx c j):=by
        intro i hi;have h1:=hcell i hi;have h2:∃ y,elems[i]?=some y:=⟨_,List.getElem?_eq_getElem (by omega)⟩
        obtain⟨y,hy⟩:=h2;rw[hy]at h1;cases hc:w.cells? base (a.add (i*P.cellsOf e)) (P.cellsOf e)with
        | none=>rw[hc]at h1; cases h1
        | some c=>
         rw[hc]at h1;obtain⟨_,g1,g2⟩:=World.cells?_some hc;obtain⟨l,g3,g4⟩:=gw n hr (show DataW.trod enc P w base spare held m e c=some y from h1);obtain⟨x,as,k⟩:=Fm g3 g4;exact⟨c,x,as,⟨g1,g2⟩,k⟩
       by_cases h0:len=0
       ·subst h0;exact⟨[⟨.sl (foldT u us),[]⟩],rfl,.lst (foldT u us).w 0 (fun _=>[]),_,_,rfl,.inr ⟨fun _=>[],rfl,fun i hi=>by simp at hi⟩,.lst0 _ _ _ _,⟨by simp,by simp⟩,rfl⟩
       have hsp:a.spot=none:=by
        obtain⟨c,x,as,⟨g1,g2⟩,_⟩:=key 0 (by omega);have g3:=g2 0 (by omega);rw[List.getElem?_eq_getElem (by omega)]at g3
        simpa [Addr.add]using World.cell?_spot g3
       obtain⟨ab,ao,as⟩:=a;have hsp':as=none:=hsp;subst hsp'
       let F:Nat→(List Value×(foldT u us).den)×List AV:=fun i=>if hi:i < len then((Classical.choose (key i hi),Classical.choose (Classical.choose_spec (key i hi))),Classical.choose (Classical.choose_spec (Classical.choose_spec (key i hi))))else(([],Ty.zero _),[])
       have hF:∀ i,i < len→((F i).1.1.length=P.cellsOf e∧∀ j,j < P.cellsOf e→w.cell? (((⟨ab,ao,none⟩:Addr).add (i*P.cellsOf e)).add j)=(F i).1.1[j]?) ∧
         CR (foldT u us) (F i).1.2 (F i).2∧Wf (foldT u us) (F i).1.2∧(F i).2.length=(F i).1.1.length∧∀ j,j < (F i).1.1.length→FV (fun _=>False) w (at_ (F i).2 j) (cx (F i).1.1 j):=by
        intro i hi;have:=Classical.choose_spec (Classical.choose_spec (Classical.choose_spec (key i hi)));simp only[F,dif_pos hi];exact this
       have hw:(foldT u us).w=P.cellsOf e:=by
        have g:=hF 0 (by omega);rw[← dJ g.2.1,g.2.2.2.1,g.1.1]
       have hc:∀ i j,i < len→j < (foldT u us).w→w.cell? ((⟨ab,ao,none⟩:Addr).add (i*(foldT u us).w+j))=some (cx (F i).1.1 j):=by
        intro i j hi hj;have g:=(hF i hi).1.2 j (by omega);rw[hw];rw[Go.WideShapes.add_plain,Go.WideShapes.add_plain]at g;rw[Go.WideShapes.add_plain,← Nat.add_assoc,g];have hl:=(hF i hi).1.1;rw[List.getElem?_eq_getElem (by omega)]
        simp[cx,List.getD_eq_getElem?_getD,List.getElem?_eq_getElem (show j < (F i).1.1.length by omega)]
       have hlen:((List.range len).map fun i=>(F i).1.2).length=len:=by simp
       refine⟨[⟨.sl (foldT u us),(List.range len).map fun i=>(F i).1.2⟩],rfl,.lst (foldT u us).w len (fun i=>(F i).2),_,_,rfl,.inr ⟨fun i=>(F i).2,by rw[hlen],fun i hi=>?_⟩,?_,⟨by rw[hlen]; omega,fun i hi=>?_⟩,rfl⟩
       ·rw[hlen]at hi;rw[ip,hG _ _ hi];exact(hF i hi).2.1
       ·refine .lst _ _ _ _ _ (fun i j=>cx (F i).1.1 j) (by omega) hlc rfl (fun h=>h) ?_ hc (fun i hi=>dJ (hF i hi).2.1) (fun i j hi hj=>(hF i hi).2.2.2.2 j (by rw[(hF i hi).1.1]; omega));have:=zQ (hc 0 0 (by omega) (by rw[hw,hce]; omega))
        rwa [ci]at this
       ·rw[hlen]at hi;rw[ip,hG _ _ hi];exact(hF i hi).2.2.1
  ·rename_i fs hu;obtain⟨xs,m,rfl,_,hcl,hxl,hx⟩:=DataW.trod_struct hu ht;cases hr:eP P (tyCells P n) 0 fs.toList with
   | none=>rw[hr]at h; cases h
   | some us=>
    rw[hr]at h;cases hb:Nat.beq (P.cellsOf t) us.length with
    | false=>simp only[hb,cond_false]at h; cases h
    | true=>
     simp only[hb,cond_true,Option.some.injEq]at h;subst h;obtain⟨l,g1,g2⟩:=jO (cs:=cs) (n:=m) (fun {t ts} hr {cs x} hx=>gw n hr hx) fs.toList 0 us hr (fun f hf=>by
      obtain⟨i,hi,e⟩:=List.mem_iff_getElem.1 hf;have hi':i < fs.size:=by simpa using hi
      have:=hx i f (by rw[Array.getElem?_eq_getElem hi']; simpa using e);rw[this];exact⟨_,List.getElem?_eq_getElem (by omega)⟩)
     refine⟨l,g1,?_⟩;rw[List.drop_zero,List.take_of_length_le (by rw[hcl,ai.1 hb]; exact Nat.le_refl _)]at g2;exact g2
  ·cases h
end
end Go.Proofs.Ytjoncejabdjekaa.D

set_option linter.unusedVariables false
set_option linter.unusedSimpArgs false
namespace Go.Proofs.Ytjoncejabdjekaa.D
open Go Go.Proofs.Ytjoncejabdjekaa.L
def KX:Pi:=fun _=>none
def Fo:Option TypeDesc→Bool
 | some (.int _) | some .bool | some .string | some (.slice _)=>true
 | _=>false
section
variable {H:Type} {enc:TypeId×Value→H} {P:Program} {w:World} {base:Nat} {spare:Nat→Bool} {held:Bool}
theorem arg_st {n:Nat}{t:TypeId}{u:Ty}{us:List Ty}{fs:Array Field}{r:Reach}{b0:Nat}{v:Value}{d:DataW H}{ps:List MemPlace}(hu:P.underlying t=some (.struct fs))(hc:tyCells P n t=some (u::us))
  (hval:Value.okWide P w r b0 t v) (h:DataW.Trod enc P w base spare held t v d ps) :
  ∃ (x:(foldT u us).den) (a:AV),Wf (foldT u us) x∧RelV KX (.agg (bc (foldT u us) x)) a∧RV (fun _=>False) w a v:=by
 obtain⟨cs,rfl,_⟩:=Go.WideShapes.okWide_struct hu hval;obtain⟨fuel,hf⟩:=h;obtain⟨l,g1,g2⟩:=gw n hc hf;obtain⟨x,as,k1,k2,k3,k4⟩:=Fm g1 g2;refine⟨x,.agg as,k2,?_,?_⟩
 ·simp only[RelV]; exact⟨as,rfl,bi k1⟩
 ·have e:(Value.agg cs).cells.toList=cs.toList:=rfl;rw[e]at k3 k4;have h1:=RV.agg (own:=fun _=>False) (w:=w) as cs.toList k3.symm (fun j hj=>.fz _ _ (k4 j (by omega)))
  simpa using h1
theorem arg_v {n:Nat}{t:TypeId}{u:Ty}{r:Reach}{b0:Nat}{v:Value}{d:DataW H}{ps:List MemPlace}(hu:Fo (P.underlying t)=true)(hc:tyCells P n t=some [u])
  (hval:Value.okWide P w r b0 t v) (h:DataW.Trod enc P w base spare held t v d ps) :
  ∃ (x:u.den) (a:AV),Wf u x∧RelV KX (.v ⟨u,x⟩) a∧RV (fun _=>False) w a v:=by
 obtain⟨fuel,hf⟩:=h;obtain⟨l,g1,g2⟩:=gw n hc hf;have hcell:v.cells.toList=[v]:=by
  cases hx:P.underlying t with
  | none=>rw[hx]at hu; cases hu
  | some y=>
   cases y with
   | int k=>obtain⟨m,rfl⟩:=Go.WideShapes.okWide_int hx hval; rfl
   | bool=>obtain⟨m,rfl⟩:=Go.WideShapes.okWide_bool hx hval; rfl
   | string=>obtain⟨m,rfl⟩:=Go.WideShapes.okWide_string hx hval; rfl
   | slice e=>obtain⟨a,m,c,rfl⟩:=Go.WideShapes.okWide_slice hx hval; rfl
   | _=>rw[hx]at hu; cases hu
 rw[hcell]at g2;cases l with
 | nil=>cases g1
 | cons l ls=>
  obtain⟨t',x⟩:=l;simp only[List.map_cons,List.cons.injEq,List.map_eq_nil_iff]at g1;obtain⟨h1,rfl⟩:=g1;subst h1;obtain⟨a,v',c,e,k1,k2,k3,k4⟩:=g2;cases k4;cases e;exact⟨x,a,k3,by simp only[RelV]; exact k1,.fz _ _ k2⟩
end
theorem RVs_nil (o:Nat→Prop)(w:World):qW o w [] []:=⟨rfl,fun j hj=>by simp at hj⟩
theorem RVs_cons {o:Nat→Prop}{w:World}{a:AV}{v:Value}{as:List AV}{vs:List Value}(h:RV o w a v)(hs:qW o w as vs):qW o w (a::as) (v::vs):=by
 refine⟨by simp[hs.1],fun j hj=>?_⟩;cases j with
 | zero=>exact h
 | succ j=>have:=hs.2 j (by simpa using hj); simpa [at_,cx]using this
def zR:OutSh:=⟨⟨[.v .bool],[]⟩,[.bool],[],0⟩
theorem law_calls {P:Program}{f:FuncId}{ins:StSh}{ts:List Ty}{m:Nat}{bw:Bool}{F:dens ts→Option Bool}(hd:DC P f ⟨ins,ts,m,zR,bw⟩ F){x:dens ts}(hx:F x=some true){ds:List DV}
  (hf:fillSt (fun k=>k) ins (ofDens ts x)=some (ds,[])) {as:List AV} (hr:RelVs KX ds as) {vs:List Value} {w:World} (hv:qW (fun _=>False) w as vs) (hne:Nat.beq f YB=false:=by rfl) :
  Calls P f vs.toArray w fun e w'=>e = .returned (.bool true)∧Go.RowKit.Below w.heap.size w w':=by
 have hac:=hd.2 x true hx KX rG as rG ⟨ds,[],hf,hr,⟨fun b o h=>(by cases h),fun b1 b2 o1 o2 b' c1 n1 c2 n2 h=>(by cases h),fun b' x h=>(by cases h),fun b o b' c n h=>(by cases h),fun b h=>rfl⟩⟩;refine(hac.2 vs w (fun b x hb=>by cases hb) (by rw[sQ]; exact hv)).1 (fun e=>by rw[e]at hne; exact absurd hne (by decide)) |>.mono ?_;rintro en w' ⟨v,r,s',rfl,⟨π1,d,os,hfill,_,hrel,_,_⟩,_,hrv,hm⟩;have hfill':some ([DV.v ⟨.bool,true⟩],([]:List (Nat×DObj)))=some ([d],os):=hfill;simp only[Option.some.injEq,Prod.mk.injEq,List.cons.injEq,and_true]at hfill';obtain⟨rfl,rfl⟩:=hfill';simp only[RelV,CR]at hrel;cases hrel;refine⟨?_,⟨hm.os,hm.tape,hm.output,hm.size,fun b hb=>hm.block b hb (fun h=>h rfl)⟩⟩;cases hrv with
 | fz _ _ h=>cases h; rfl
end Go.Proofs.Ytjoncejabdjekaa.D

set_option linter.unusedVariables false
set_option linter.unusedSimpArgs false
namespace Go.Proofs.Ytjoncejabdjekaa.D
open Go Go.Proofs.Ytjoncejabdjekaa.L
theorem s4 {σ ρ:Type}{step:σ→Option (σ⊕ρ)}(s:Nat→σ)(r:ρ):∀ (n k m:Nat),(∀ i,k≤i→i < k+n→step (s i)=some (.inl (s (i+1))))→step (s (k+n))=some (.inr r)→n < m→yw step m (s k)=some r
 | n,k,0,_,_,hm=>by omega
 | 0,k,m+1,_,h2,hm=>by
  have h2':step (s k)=some (.inr r):=h2;simp only[yw,h2']
 | n+1,k,m+1,h1,h2,hm=>by
  simp only[yw,h1 k (Nat.le_refl _) (by omega)];exact s4 s r n (k+1) m (fun i h3 h4=>h1 i (by omega) (by omega)) (by rwa [Nat.add_right_comm,Nat.add_assoc]) (by omega)
theorem aJ {σ ρ:Type}{step:σ→Option (σ⊕ρ)}(n:Nat)(s:Nat→σ)(r:ρ)(h1:∀ i,i < n→step (s i)=some (.inl (s (i+1))))(h2:step (s n)=some (.inr r))(hn:n < 18446744073709551616):aa step (s 0)=some r:=
 s4 s r n 0 _ (fun i _ h=>h1 i (by omega)) (by rwa [Nat.zero_add]) hn
def bK:Nat→(Nat→Bool)→Bool
 | 0,_=>true
 | n+1,f=>bK n f&&f n
theorem bp {f:Nat→Bool}:∀ {n:Nat},bK n f=true↔∀ k,k < n→f k=true
 | 0=>by simp[bK]
 | n+1=>by
  simp only[bK,Bool.and_eq_true,bp];constructor
  ·rintro⟨h1,h2⟩ k hk;by_cases h:k=n
   ·rw[h]; exact h2
   ·exact h1 k (by omega)
  ·intro h; exact⟨fun k hk=>h k (by omega),h n (by omega)⟩
theorem dP {f:Nat→Bool}:∀ {n:Nat},bK n f=false→∃ k,k < n∧f k=false∧∀ i,i < k→f i=true
 | 0,h=>by simp[bK]at h
 | n+1,h=>by
  cases hn:bK n f with
  | false=>obtain⟨k,h1,h2⟩:=dP hn; exact⟨k,by omega,h2⟩
  | true=>simp only[bK,hn,Bool.true_and]at h; exact⟨n,by omega,h,fun i hi=>bp.1 hn i hi⟩
theorem mU {f g:Nat→Bool}:∀ {n:Nat},(∀ k,k < n→f k=g k)→bK n f=bK n g
 | 0,_=>rfl
 | n+1,h=>by simp only[bK]; rw[mU (fun k hk=>h k (by omega)),h n (by omega)]
theorem dc {σ ρ:Type}{step:σ→Option (σ⊕ρ)}(n:Nat)(s:Nat→σ)(ok:Nat→Bool)(bad fin:ρ)(h1:∀ k,k < n→step (s k)=some (cond (ok k) (.inl (s (k+1))) (.inr bad)))
  (h2:step (s n)=some (.inr fin)) (hn:n < 18446744073709551616):aa step (s 0)=some (cond (bK n ok) fin bad):=by
 cases h:bK n ok with
 | true=>exact aJ n s fin (fun i hi=>by rw[h1 i hi,bp.1 h i hi]; rfl) h2 hn
 | false=>
  obtain⟨k,hk,hf,ht⟩:=dP h;exact aJ k s bad (fun i hi=>by rw[h1 i (by omega),ht i hi]; rfl) (by rw[h1 k hk,hf]; rfl) (by omega)
def mV {β:Type}(f:Nat→β→β):Nat→β→β
 | 0,b=>b
 | n+1,b=>f n (mV f n b)
theorem ak {k n:Nat}(h:k < n):aZ (k:Int) n=true:=by simp[aZ]; omega
theorem wO {n:Int}:aq .i64 n=true ↔ -9223372036854775808≤n∧n≤9223372036854775807:=by
 rw[aq,decide_eq_true_eq];have e1:(2:Int)^(64-1)=9223372036854775808:=by decide
 have e2:(2:Int)^64=18446744073709551616:=by decide
 simp only[IntKind.wrap,IntKind.bits,IntKind.signed,Bool.true_and,decide_eq_true_eq,e1,e2];constructor
 ·intro h; rw[← h]; split <;> omega
 ·rintro⟨h1,h2⟩; split <;> omega
theorem cg {n:Int}(h:-9223372036854775808≤n)(h':n≤9223372036854775807):aq .i64 n=true:=wO.2 ⟨h,h'⟩
theorem an {k:Nat}(h:k < 9223372036854775807):aq .i64 ((k:Int)+1)=true:=cg (by omega) (by omega)
theorem cM {b n:Nat}(h:b*n≤140737488355328):bN b n=true:=by simp[bN,h]
theorem bI {α:Type}{k:Option α}:au true k=k:=rfl
theorem al {α:Type}{b:Bool}{k:Option α}(h:b=true):au b k=k:=by rw[h]; rfl
theorem bk {α:Type}[Inhabited α](l:List α)(k:Nat):ix l (k:Int)=l.getD k default:=by simp[ix]
theorem aM (k:Nat):((k+1:Nat):Int)=(k:Int)+1:=by omega
theorem ay {k n:Nat}(h:k < n):decide ((k:Int) < (n:Int))=true:=by simp[h]
theorem aE (n:Nat):decide ((n:Int) < (n:Int))=false:=by simp
theorem af {α β:Type}(a:α)(f:α→Option β):(some a).bind f=f a:=rfl
theorem qA {α β γ:Type}(f:α→γ)(g:β→γ)(a:α):Sum.elim f g (Sum.inl a)=f a:=rfl
theorem d8 {α β γ:Type}(f:α→γ)(g:β→γ)(a:β):Sum.elim f g (Sum.inr a)=g a:=rfl
def wi (x a b:Int):Bool:=decide (a≤x)&&decide (x≤b)
theorem hN {x a b:Int}:wi x a b=true↔a≤x∧x≤b:=by simp[wi]
theorem s5 (x a b:Int):(cond (decide (a≤x)) (some (decide (x≤b))) (some false))=some (wi x a b):=by
 unfold wi; cases decide (a≤x) <;> rfl
end Go.Proofs.Ytjoncejabdjekaa.D

set_option linter.unusedVariables false
set_option linter.unusedSimpArgs false
namespace Go.Proofs.Ytjoncejabdjekaa.D
open Go Go.Proofs.Ytjoncejabdjekaa.L
def Cut (Q:Nat→Prop)(a b i:Nat):Prop:=(∀ p,a≤p→p < i→Q p)∧∀ p,i≤p→p < b→¬ Q p
theorem rQ {σ ρ:Type}{step:σ→Option (σ⊕ρ)}(n:Nat)(s:Nat→σ)(p:Nat→Bool)(O1:Nat→ρ)(O2:ρ)
  (h1:∀ k,k < n→(∀ j,j < k→p j=false)→step (s k)=some (cond (p k) (.inr (O1 k)) (.inl (s (k+1))))) (h2:(∀ j,j < n→p j=false)→step (s n)=some (.inr O2)) (hn:n < 18446744073709551616) :
  (∃ k,k < n∧p k=true∧(∀ j,j < k→p j=false)∧aa step (s 0)=some (O1 k))∨((∀ j,j < n→p j=false)∧aa step (s 0)=some O2):=by
 cases h:bK n (fun i=>!p i)with
 | true=>
  have hp:∀ j,j < n→p j=false:=fun j hj=>by simpa using bp.1 h j hj
  exact .inr ⟨hp,aJ n s _ (fun i hi=>by rw[h1 i hi fun j hj=>hp j (by omega),hp i hi]; rfl) (h2 hp) hn⟩
 | false=>
  obtain⟨k,hk,hf,ht⟩:=dP h;have hp:∀ j,j < k→p j=false:=fun j hj=>by simpa using ht j hj
  have hf':p k=true:=by simpa using hf
  exact .inl ⟨k,hk,hf',hp,aJ k s _ (fun i hi=>by rw[h1 i (by omega) fun j hj=>hp j (by omega),hp i hi]; rfl) (by rw[h1 k hk hp,hf']; rfl) (by omega)⟩
section
variable {α:Type} [Inhabited α]
def gt (l:List α)(i:Nat):α:=l.getD i default
theorem cC (l:List α)(k:Nat):ix l (k:Int)=gt l k:=bk l k
theorem qB {l:List α}{i:Nat}(h:i < l.length):gt l i=l[i]:=by simp[gt,List.getD_eq_getElem?_getD,h]
theorem G6 {l:List α}{i:Nat}(h:l.length≤i):gt l i=default:=by simp[gt,List.getD_eq_getElem?_getD,h]
theorem eQ {l:List α}{i:Nat}(h:i < l.length):gt l i∈l:=by rw[qB h]; exact List.getElem_mem h
theorem rR {l:List α}{x:α}(h:x∈l):∃ i,i < l.length∧gt l i=x:=by
 obtain⟨i,hi,rfl⟩:=List.getElem_of_mem h;exact⟨i,hi,qB hi⟩
theorem pw (l:List α)(i j:Nat)(x:α)(h:i < l.length):gt (l.set i x) j=if i=j then x else gt l j:=by
 simp only[gt,List.getD_eq_getElem?_getD,List.getElem?_set];split
 ·rename_i e; subst e; simp[h]
 ·rfl
theorem uV (l m:List α)(i:Nat):gt (l++m) i=if i < l.length then gt l i else gt m (i-l.length):=by
 simp only[gt,List.getD_eq_getElem?_getD];split
 ·rename_i h; rw[List.getElem?_append_left h]
 ·rename_i h; rw[List.getElem?_append_right (by omega)]
structure Rg (l l':List α) (a b:Nat):Prop where
 perm:l'.Perm l
 lo:∀ k,k < a→gt l' k=gt l k
 hi:∀ k,b≤k→gt l' k=gt l k
theorem Rg.refl (l:List α)(a b:Nat):Rg l l a b:=⟨.refl _,fun _ _=>rfl,fun _ _=>rfl⟩
theorem Rg.len {l l':List α}{a b:Nat}(h:Rg l l' a b):l'.length=l.length:=h.perm.length_eq
theorem Rg.trans {l l1 l2:List α}{a b:Nat}(h:Rg l l1 a b)(k:Rg l1 l2 a b):Rg l l2 a b:=⟨k.perm.trans h.perm,fun i hi=>(k.lo i hi).trans (h.lo i hi),fun i hi=>(k.hi i hi).trans (h.hi i hi)⟩
theorem Rg.wide {l l':List α}{a b a' b':Nat}(h:Rg l l' a b)(h1:a'≤a)(h2:b≤b'):Rg l l' a' b':=⟨h.perm,fun i hi=>h.lo i (by omega),fun i hi=>h.hi i (by omega)⟩
def Sd (K:α→Int)(l:List α)(a b:Nat):Prop:=∀ i j,a≤i→i < j→j < b→K (gt l i)≤K (gt l j)
theorem Sd.out {K:α→Int}{l l':List α}{a b c d:Nat}(h:Sd K l c d)(hr:Rg l l' a b)(ho:d≤a∨b≤c):Sd K l' c d:=fun i j h1 h2 h3=>by
 have e:∀ k,c≤k→k < d→gt l' k=gt l k:=fun k q1 q2=>by
  rcases ho with ho | ho
  ·exact hr.lo k (by omega)
  ·exact hr.hi k (by omega)
 rw[e i h1 (by omega),e j (by omega) h3]; exact h i j h1 h2 h3
theorem Sd.sub {K:α→Int}{l:List α}{a b a' b':Nat}(h:Sd K l a b)(h1:a≤a')(h2:b'≤b):Sd K l a' b':=fun i j q1 q2 q3=>h i j (by omega) q2 (by omega)
theorem Sd.one {K:α→Int}{l:List α}{a b:Nat}(h:b≤a+1):Sd K l a b:=fun i j q1 q2 q3=>by omega
theorem Sd.le {K:α→Int}{l:List α}{a b i j:Nat}(h:Sd K l a b)(h1:a≤i)(h2:i≤j)(h3:j < b):K (gt l i)≤K (gt l j):=by
 rcases Nat.lt_or_ge i j with hlt | hge
 ·exact h i j h1 hlt h3
 ·obtain rfl:i=j:=by omega
  exact Int.le_refl _
end
end Go.Proofs.Ytjoncejabdjekaa.D

set_option linter.unusedVariables false
set_option linter.unusedSimpArgs false
set_option linter.unusedSectionVars false
namespace Go.Proofs.Ytjoncejabdjekaa.D
open Go Go.Proofs.Ytjoncejabdjekaa.L
section
variable {β T:Type} [Inhabited β] [Inhabited T] {v:β→T}
end
theorem p1 {k:Nat}(h:1≤k):(k:Int)-1=((k-1:Nat):Int):=by omega
theorem a1 (k:Nat):(k:Int)+1=((k+1:Nat):Int):=by omega
theorem m2 (k:Nat):2*(k:Int)=((2*k:Nat):Int):=by omega
end Go.Proofs.Ytjoncejabdjekaa.D

set_option linter.unusedVariables false
set_option linter.unusedSimpArgs false
set_option linter.unusedSectionVars false
namespace Go.Proofs.Ytjoncejabdjekaa.D
open Go Go.Proofs.Ytjoncejabdjekaa.L
section
variable {α:Type} [Inhabited α]
end
end Go.Proofs.Ytjoncejabdjekaa.D
