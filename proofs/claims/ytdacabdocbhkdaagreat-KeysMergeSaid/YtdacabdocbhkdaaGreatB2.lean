/- Texts D5, D6, D7, D7v, D8, D9, D10, D11, D12, E0, E1, Z0, Z1, Z2. -/
import Derived.Test.YtdacabdocbhkdaaGreatB1
import Derived.ProofKit
import Derived.OpenShut
import Derived.ShutString
import Derived.ChangeOld
import Derived.Below
import Derived.Carry
import Derived.SizedLaws
import Derived.Sort.AssemblyPlain
set_option linter.unusedVariables false
set_option linter.unusedSimpArgs false
namespace Go.Proofs.YtdacabdocbhkdaaGreat.D
open Go Go.Proofs.YtdacabdocbhkdaaGreat.L
def addP (π:Pi)(b:Nat)(l:Loc):Pi:=fun c=>if c=b then some l else π c
theorem addP_ext {π:Pi}{b:Nat}(h:π b=none)(l:Loc):Ext π (addP π b l):=fun c x hx=>by
 unfold addP; split
 ·rename_i e; subst e; rw[h]at hx; cases hx
 ·exact hx
theorem addP_same (π:Pi)(b:Nat)(l:Loc):addP π b l b=some l:=by simp[addP]
theorem addP_ne (π:Pi){b c:Nat}(l:Loc)(h:c≠b):addP π b l c=π c:=by simp[addP,h]
section
variable {π π1:Pi} {Fr:Store} {S:DSt} {s' s1:Store} {RD:List Nat} {R:Nat→Prop} {ρ:Opd→DV} {ρ':Opd→AV}
theorem ObR.mono {b:Nat}{o:DObj}(h:ObR π s' b o)(hx:Ext π π1)(hs:∀ b' c n,π b=some (.real b' c n)→s1 b'=s' b'):ObR π1 s1 b o:=by
 cases o with
 | box ds=>
  obtain⟨b',c,n,as,h1,h2,h3⟩:=h
  exact⟨b',c,n,as,hx _ _ h1,(hs _ _ _ h1).trans h2,h3.ext hx⟩
 | row T t l=>
  rcases h with⟨h1,h2⟩ | ⟨b',c,xs,h1,h2,h3⟩
  ·exact .inl ⟨hx _ _ h1,h2⟩
  ·exact .inr ⟨b',c,xs,hx _ _ h1,h2,(hs _ _ _ h1).trans h3.1,h3.2⟩
 | imap kn ag t es pd=>
  obtain⟨b',c,n,es',h1,h2,h3⟩:=h
  refine⟨b',c,n,es',hx _ _ h1,h2,?_⟩
  cases pd with
  | none=>exact(hs _ _ _ h1).trans h3
  | some p=>
   obtain⟨tk,key,v0⟩:=p
   obtain⟨y,v0',g1,g2,g3⟩:=h3
   exact⟨y,v0',hx _ _ g1,g2,(hs _ _ _ h1).trans g3⟩
theorem ObR.loc {b:Nat}{o:DObj}(h:ObR π s' b o):∃ l,π b=some l:=by
 cases o with
 | box ds=>obtain⟨b',c,n,as,h1,_⟩:=h; exact⟨_,h1⟩
 | row T t l=>
  rcases h with⟨h1,h2⟩ | ⟨b',c,xs,h1,h2,h3⟩
  ·exact⟨_,h1⟩
  ·exact⟨_,h1⟩
 | imap kn ag t es pd=>obtain⟨b',c,n,es',h1,_⟩:=h; exact⟨_,h1⟩
theorem ObR.some' {b:Nat}{o:DObj}(h:ObR π s' b o){b' c n:Nat}(hp:π b=some (.real b' c n)):s' b'≠none:=by
 cases o with
 | box ds=>obtain⟨b2,c,n,as,h1,h2,_⟩:=h; rw[hp]at h1; cases h1; rw[h2]; simp
 | row T t l=>
  rcases h with⟨h1,h2⟩ | ⟨b',c,xs,h1,h2,h3⟩
  ·rw[hp]at h1; cases h1
  ·rw[hp]at h1; cases h1; rw[h3.1]; simp
 | imap kn ag t es pd=>
  obtain⟨b',c,n,es',h1,_,h3⟩:=h
  rw[hp]at h1; cases h1
  cases pd with
  | none=>rw[show s' _=_ from h3]; simp
  | some p=>obtain⟨tk,key,v0⟩:=p; obtain⟨y,v0',g1,g2,g3⟩:=h3; rw[g3]; simp
theorem RelS.lt (hS:RelS π Fr S s'){b:Nat}{l:Loc}(h:π b=some l):b≠S.nx:=fun e=>by
 rw[hS.nx b (by omega)]at h; cases h
theorem RelS_new (hS:RelS π Fr S s'){b' c n:Nat}(hb:s' b'=none)(x:AObj){o:DObj}(hO:ObR (addP π S.nx (.real b' c n)) (upd s' b' x) S.nx o):
  RelS (addP π S.nx (.real b' c n)) Fr (S.new o) (upd s' b' x):=by
 have hx:Ext π (addP π S.nx (.real b' c n)):=addP_ext (hS.nx _ (Nat.le_refl _)) _
 have old:∀ b2 o2,S.get b2=some o2→∃ l,π b2=some l∧b2≠S.nx:=fun b2 o2 h=>by
  obtain⟨l,hl⟩:=(hS.obj _ _ h).loc
  exact⟨l,hl,hS.lt hl⟩
 have ne:∀ b2 o2 b3 c3 n3,S.get b2=some o2→π b2=some (.real b3 c3 n3)→b3≠b':=fun b2 o2 b3 c3 n3 h hp e=>by
  subst e; exact(hS.obj _ _ h).some' hp hb
 refine⟨fun b2 o2 h=>?_,fun b1 b2 o1 o2 b3 c1 n1 c2 n2 h1 h2 p1 p2=>?_,fun b3 y h=>?_,fun b2 o2 b3 c3 n3 h p=>?_,fun b2 h=>?_⟩
 ·rw[DSt.get_new]at h
  split at h
  ·rename_i e; subst e; cases h; exact hO
  ·exact(hS.obj _ _ h).mono hx fun b3 c3 n3 hp=>upd_ne _ _ (ne _ _ _ _ _ h hp)
 ·rw[DSt.get_new]at h1 h2
  split at h1 <;> split at h2
  ·rename_i e1 e2; rw[e1,e2]
  ·rename_i e1 e2
   rw[e1,addP_same]at p1; cases p1
   rw[addP_ne _ _ e2]at p2
   exact absurd rfl (ne _ _ _ _ _ h2 p2)
  ·rename_i e1 e2
   rw[e2,addP_same]at p2; cases p2
   rw[addP_ne _ _ e1]at p1
   exact absurd rfl (ne _ _ _ _ _ h1 p1)
  ·rename_i e1 e2
   rw[addP_ne _ _ e1]at p1
   rw[addP_ne _ _ e2]at p2
   exact hS.inj _ _ _ _ _ _ _ _ _ h1 h2 p1 p2
 ·have e:b3≠b':=fun e=>by rw[e]at h; rw[hS.frm _ _ h]at hb; cases hb
  rw[upd_ne _ _ e]; exact hS.frm _ _ h
 ·rw[DSt.get_new]at h
  split at h
  ·rename_i e
   rw[e,addP_same]at p; cases p
   cases hf:Fr b' with
   | none=>rfl
   | some y=>rw[hS.frm _ _ hf]at hb; cases hb
  ·rename_i e
   rw[addP_ne _ _ e]at p
   exact hS.out _ _ _ _ _ h p
 ·have h':S.nx+1≤b2:=h
  rw[addP_ne _ _ (by omega)]; exact hS.nx _ (by omega)
theorem RelS_virt (hS:RelS π Fr S s')(T:Nat)(t:Ty):RelS (addP π S.nx .virt) Fr (S.new (.row T t [])) s':=by
 have hx:Ext π (addP π S.nx .virt):=addP_ext (hS.nx _ (Nat.le_refl _)) _
 refine⟨fun b2 o2 h=>?_,fun b1 b2 o1 o2 b3 c1 n1 c2 n2 h1 h2 p1 p2=>?_,hS.frm,fun b2 o2 b3 c3 n3 h p=>?_,fun b2 h=>?_⟩
 ·rw[DSt.get_new]at h
  split at h
  ·rename_i e; subst e; cases h; exact .inl ⟨addP_same _ _ _,rfl⟩
  ·exact(hS.obj _ _ h).mono hx fun _ _ _ _=>rfl
 ·have e1:b1≠S.nx:=fun e=>by rw[e,addP_same]at p1; cases p1
  have e2:b2≠S.nx:=fun e=>by rw[e,addP_same]at p2; cases p2
  rw[DSt.get_new,if_neg e1]at h1
  rw[DSt.get_new,if_neg e2]at h2
  rw[addP_ne _ _ e1]at p1
  rw[addP_ne _ _ e2]at p2
  exact hS.inj _ _ _ _ _ _ _ _ _ h1 h2 p1 p2
 ·have e1:b2≠S.nx:=fun e=>by rw[e,addP_same]at p; cases p
  rw[DSt.get_new,if_neg e1]at h
  rw[addP_ne _ _ e1]at p
  exact hS.out _ _ _ _ _ h p
 ·have h':S.nx+1≤b2:=h
  rw[addP_ne _ _ (by omega)]; exact hS.nx _ (by omega)
theorem RelS_set (hS:RelS π Fr S s'){b b' c n:Nat}{o0:DObj}(h0:S.get b=some o0)(hp:π b=some (.real b' c n))(x:AObj){o:DObj}(hO:ObR π (upd s' b' x) b o):RelS π Fr (S.set b o) (upd s' b' x):=by
 have live:∀ b2 o2,(S.set b o).get b2=some o2→∃ o3,S.get b2=some o3:=fun b2 o2 h=>by
  rw[DSt.get_set]at h
  split at h
  ·rename_i e; subst e; exact⟨_,h0⟩
  ·exact⟨_,h⟩
 refine⟨fun b2 o2 h=>?_,fun b1 b2 o1 o2 b3 c1 n1 c2 n2 h1 h2 p1 p2=>?_,fun b3 y h=>?_,fun b2 o2 b3 c3 n3 h p=>?_,fun b2 h=>hS.nx _ h⟩
 ·rw[DSt.get_set]at h
  split at h
  ·rename_i e; subst e; cases h; exact hO
  ·rename_i e
   refine(hS.obj _ _ h).mono (Ext.refl _) fun b3 c3 n3 hp3=>upd_ne _ _ fun e3=>e ?_
   subst e3
   exact hS.inj _ _ _ _ _ _ _ _ _ h h0 hp3 hp
 ·obtain⟨o3,h3⟩:=live _ _ h1
  obtain⟨o4,h4⟩:=live _ _ h2
  exact hS.inj _ _ _ _ _ _ _ _ _ h3 h4 p1 p2
 ·have e:b3≠b':=fun e=>by rw[e,hS.out _ _ _ _ _ h0 hp]at h; cases h
  rw[upd_ne _ _ e]; exact hS.frm _ _ h
 ·obtain⟨o3,h3⟩:=live _ _ h
  exact hS.out _ _ _ _ _ h3 p
theorem RelS_del (hS:RelS π Fr S s')(b:Nat):RelS π Fr (S.del b) s':=by
 have live:∀ b2 o2,(S.del b).get b2=some o2→S.get b2=some o2:=fun b2 o2 h=>by
  rw[DSt.get_del]at h
  split at h
  ·cases h
  ·exact h
 exact⟨fun b2 o2 h=>hS.obj _ _ (live _ _ h),fun b1 b2 o1 o2 b3 c1 n1 c2 n2 h1 h2 p1 p2=>hS.inj _ _ _ _ _ _ _ _ _ (live _ _ h1) (live _ _ h2) p1 p2,hS.frm,fun b2 o2 b3 c3 n3 h p=>hS.out _ _ _ _ _ (live _ _ h) p,hS.nx⟩
theorem RelS_del' (hS:RelS π Fr S s'){b b' c n:Nat}{o0:DObj}(h0:S.get b=some o0)(hp:π b=some (.real b' c n)):RelS π Fr (S.del b) (del s' b'):=by
 have hd:=RelS_del hS b
 refine⟨fun b2 o2 h=>?_,hd.inj,fun b3 y h=>?_,hd.out,hd.nx⟩
 ·refine(hd.obj _ _ h).mono (Ext.refl _) fun b3 c3 n3 hp3=>?_
  have e:b3≠b':=fun e=>by
   subst e
   rw[DSt.get_del]at h
   split at h
   ·cases h
   ·rename_i e; exact e (hS.inj _ _ _ _ _ _ _ _ _ h h0 hp3 hp)
  unfold del; rw[if_neg e]
 ·have e:b3≠b':=fun e=>by rw[e,hS.out _ _ _ _ _ h0 hp]at h; cases h
  unfold del; rw[if_neg e]; exact hS.frm _ _ h
theorem RelS.tick' (hS:RelS π Fr S s')(y:Int):RelS (addP π S.nx (.tok y)) Fr S.tick s':=by
 have hx:Ext π (addP π S.nx (.tok y)):=addP_ext (hS.nx _ (Nat.le_refl _)) _
 refine⟨fun b2 o2 h=>(hS.obj _ _ h).mono hx fun _ _ _ _=>rfl,fun b1 b2 o1 o2 b3 c1 n1 c2 n2 h1 h2 p1 p2=>?_,hS.frm,fun b2 o2 b3 c3 n3 h p=>?_,fun b2 h=>?_⟩
 ·have e1:b1≠S.nx:=fun e=>by rw[e,addP_same]at p1; cases p1
  have e2:b2≠S.nx:=fun e=>by rw[e,addP_same]at p2; cases p2
  rw[addP_ne _ _ e1]at p1
  rw[addP_ne _ _ e2]at p2
  exact hS.inj _ _ _ _ _ _ _ _ _ h1 h2 p1 p2
 ·have e1:b2≠S.nx:=fun e=>by rw[e,addP_same]at p; cases p
  rw[addP_ne _ _ e1]at p
  exact hS.out _ _ _ _ _ h p
 ·have h':S.nx+1≤b2:=h
  rw[addP_ne _ _ (by omega)]; exact hS.nx _ (by omega)
theorem HR.mono (h:HR π S RD R){S1:DSt}(hx:Ext π π1)(hl:∀ b,RD.any (Nat.beq b)=true→∃ o,S1.get b=some o):HR π1 S1 RD R:=by
 refine⟨fun b hb=>?_,fun b b' c n hb hp=>?_,fun b' hR=>?_⟩
 ·obtain⟨_,_,l,hp⟩:=h.live b hb
  obtain⟨o,ho⟩:=hl b hb
  exact⟨o,ho,l,hx _ _ hp⟩
 ·obtain⟨_,_,l,hl⟩:=h.live b hb
  have:=hx _ _ hl
  rw[hp]at this; cases this
  exact h.to b b' c n hb hl
 ·obtain⟨b,c,n,h1,h2⟩:=h.of b' hR
  exact⟨b,c,n,h1,hx _ _ h2⟩
theorem HR.new (h:HR π S RD R)(hx:Ext π π1)(o:DObj):HR π1 (S.new o) RD R:=h.mono hx fun b hb=>by
 obtain⟨o2,ho2,_⟩:=h.live b hb
 rw[DSt.get_new]
 split
 ·exact⟨_,rfl⟩
 ·exact⟨_,ho2⟩
theorem HR.set (h:HR π S RD R)(b0:Nat)(o:DObj):HR π (S.set b0 o) RD R:=h.mono (Ext.refl _) fun b hb=>by
 obtain⟨o2,ho2,_⟩:=h.live b hb
 rw[DSt.get_set]
 split
 ·exact⟨_,rfl⟩
 ·exact⟨_,ho2⟩
theorem HR.del (h:HR π S RD R){b0:Nat}(hn:notIn RD b0=true):HR π (S.del b0) RD R:=h.mono (Ext.refl _) fun b hb=>by
 obtain⟨o2,ho2,_⟩:=h.live b hb
 rw[DSt.get_del,if_neg fun e=>by subst e; simp[notIn,hb]at hn]
 exact⟨_,ho2⟩
theorem CRs_set {t:Ty}{l:List t.den}{xs:List (List AV)}(h:CRs t l xs){i:Nat}(hi:i < l.length){x:t.den}{c:List AV}(hc:CR t x c):CRs t (l.set i x) (xs.set i c):=by
 refine⟨by simp[h.1],fun j hj=>?_⟩
 have hj':j < l.length:=by simpa using hj
 have hj2:j < xs.length:=by rw[h.1]; exact hj'
 by_cases e:i=j
 ·subst e
  simpa [at0,List.getD_eq_getElem?_getD,List.getElem?_set,hj',hj2]using hc
 ·have:=h.2 j hj'
  simpa [at0,List.getD_eq_getElem?_getD,List.getElem?_set,e]using this
theorem CRs_get {t:Ty}{l:List t.den}{get:Nat→List AV}(h:∀ i,i < l.length→CR t (at0 t l i) (get i)):CRs t l ((List.range l.length).map get):=by
 refine⟨by simp,fun i hi=>?_⟩
 simpa [List.getD_eq_getElem?_getD,hi]using h i hi
theorem CRs_repl {t:Ty}{z:List AV}(h:CR t t.zero z)(n:Nat):CRs t (repl n t.zero) (List.replicate n z):=by
 refine⟨by simp[repl],fun i hi=>?_⟩
 have hi':i < n:=by simpa [repl]using hi
 simpa [repl,at0,List.getD_eq_getElem?_getD,List.getElem?_replicate,hi']using h
theorem CRs_sub {t:Ty}{l:List t.den}{xs:List (List AV)}(h:CRs t l xs){p m:Nat}(hle:p+m≤l.length):CRs t ((l.drop p).take m) ((xs.drop p).take m):=by
 refine⟨by simp[h.1],fun i hi=>?_⟩
 simp only[List.length_take,List.length_drop]at hi
 have:=h.2 (p+i) (by omega)
 have e1:at0 t ((l.drop p).take m) i=at0 t l (p+i):=by
  simp only[at0,List.getD_eq_getElem?_getD,List.getElem?_take,List.getElem?_drop]; rw[if_pos (by omega)]
 have e2:((xs.drop p).take m).getD i []=xs.getD (p+i) []:=by
  simp only[List.getD_eq_getElem?_getD,List.getElem?_take,List.getElem?_drop]; rw[if_pos (by omega)]
 rw[e1,e2]; exact this
theorem delems_sound (hS:RelS π Fr S s'){t:Ty}{d:DV}{ys:List t.den}{a:AV}(h:delems S t d=some ys)(r:RelV π d a):∃ xs,CRs t ys xs∧∀ K:List (List AV)→Prop,K xs→elems t.w s' a K:=by
 unfold delems dec1 at h
 split at h
 ·rename_i t' y
  split at h
  ·rename_i he; subst he; cases h
   simp only[RelV,CR]at r
   rcases r with⟨e,rfl⟩ | ⟨get,e,v⟩
   ·simp only[List.cons.injEq,and_true]at e; subst e
    exact⟨[],CRs_nil t,fun K hk=>hk⟩
   ·simp only[List.cons.injEq,and_true]at e; subst e
    exact⟨_,CRs_get v,fun K hk=>⟨rfl,hk⟩⟩
  ·cases h
 ·cases h
  simp only[RelV]at r; subst r
  exact⟨[],CRs_nil t,fun K hk=>hk⟩
 ·rename_i b
  simp only at h
  split at h
  ·rename_i T t' l hb
   split at h
   ·rename_i he; subst he; cases h
    simp only[RelV]at r
    rcases hS.obj _ _ hb with⟨g1,rfl⟩ | ⟨b2,c2,xs,hp2,hcap,hs,hr⟩
    ·rcases r with⟨b',c,m,hp,rfl⟩ | ⟨hp,rfl⟩
     ·rw[g1]at hp; cases hp
     ·exact⟨[],CRs_nil _,fun K hk=>hk⟩
    ·rcases r with⟨b',c,m,hp,rfl⟩ | ⟨hp,_⟩
     ·rw[hp2]at hp; cases hp
      refine⟨xs,hr,fun K hk=>?_⟩
      simp only[elems,hs]
      exact⟨trivial,trivial,hr.1.symm,hk⟩
     ·rw[hp2]at hp; cases hp
   ·cases h
  ·cases h
 ·rename_i b k p m
  simp only at h
  split at h
  ·rename_i T t' l hb
   split at h
   ·rename_i he; subst he
    cases hc:Nat.beq k t'.w with
    | false=>rw[hc]at h; cases h
    | true=>
     rw[hc]at h; cases h
     obtain rfl:=beq_iff.1 hc
     simp only[RelV]at r
     obtain⟨b',c,N,hp,hle,rfl⟩:=r
     rcases hS.obj _ _ hb with⟨g1,rfl⟩ | ⟨b2,c2,xs,hp2,hcap,hs,hr⟩
     ·rw[g1]at hp; cases hp
     ·rw[hp2]at hp; cases hp
      refine⟨(xs.drop p).take m,CRs_sub hr hle,fun K hk=>?_⟩
      simp only[elems,hs]
      exact⟨trivial,trivial,by rw[hr.1]; exact hle,hk⟩
   ·cases h
  ·cases h
 ·cases h
theorem dchunks_sound {t:Ty}:∀ {n:Nat} {cs:List DV} {l:List t.den} {as:List AV},dchunks t n cs=some l→RelVs π cs as→l.length=n∧as.length=n*t.w∧∀ i,i < n→CR t (at0 t l i) ((as.drop (i*t.w)).take t.w)
 | 0,[],l,as,h,r=>by
  simp only[RelVs]at r; subst r
  cases h
  exact⟨rfl,by simp,fun i hi=>by omega⟩
 | 0,_::_,l,as,h,r=>by simp[dchunks]at h
 | n+1,cs,l,as,h,r=>by
  simp only[dchunks]at h
  split at h
  ·rename_i x rest hx
   split at h
   ·rename_i l' hl
    cases h
    obtain⟨c,as',rfl,g,r'⟩:=dec_CR hx r
    obtain⟨h1,h2,h3⟩:=dchunks_sound hl r'
    have hc:=CR_len g
    refine⟨by simp[h1],by rw[List.length_append,hc,h2,Nat.add_mul]; omega,fun i hi=>?_⟩
    cases i with
    | zero=>
     have:(c++as').take t.w=c:=by rw[← hc]; simp
     simpa [at0,this]using g
    | succ i=>
     have e:(c++as').drop ((i+1)*t.w)=as'.drop (i*t.w):=by
      rw[List.drop_append,hc,List.drop_eq_nil_of_le (by rw[hc,Nat.add_mul]; omega),List.nil_append]
      congr 1
      rw[Nat.add_mul]; omega
     rw[e]
     have:=h3 i (by omega)
     simpa [at0]using this
   ·cases h
  ·cases h
theorem CRs_take {t:Ty}{l:List t.den}{xs:List (List AV)}(h:CRs t l xs)(n:Nat):CRs t (l.take n) (xs.take n):=by
 refine⟨by simp[h.1],fun i hi=>?_⟩
 simp only[List.length_take]at hi
 have:=h.2 i (by omega)
 have e1:at0 t (l.take n) i=at0 t l i:=by
  simp only[at0,List.getD_eq_getElem?_getD,List.getElem?_take]; rw[if_pos (by omega)]
 have e2:(xs.take n).getD i []=xs.getD i []:=by
  simp only[List.getD_eq_getElem?_getD,List.getElem?_take]; rw[if_pos (by omega)]
 rw[e1,e2]; exact this
theorem CRs_drop {t:Ty}{l:List t.den}{xs:List (List AV)}(h:CRs t l xs)(n:Nat):CRs t (l.drop n) (xs.drop n):=by
 refine⟨by simp[h.1],fun i hi=>?_⟩
 simp only[List.length_drop]at hi
 have:=h.2 (n+i) (by omega)
 have e1:at0 t (l.drop n) i=at0 t l (n+i):=by simp[at0,List.getD_eq_getElem?_getD,List.getElem?_drop]
 have e2:(xs.drop n).getD i []=xs.getD (n+i) []:=by simp[List.getD_eq_getElem?_getD,List.getElem?_drop]
 rw[e1,e2]; exact this
theorem deo_sound {P:Program}(hS:RelS π Fr S s')(hH:HR π S RD R)(hρ:∀ x,RelV π (ρ x) (ρ' x)){o:AOp}{ann:Option (Bool×Ty)}{d:DV}{S1:DSt}{ob:List Bool}(h:deo RD S ρ o ann=some (d,S1,ob))(ho:ob.all id=true)
  {K:AV→Store→Prop} (hK:∀ a π1 s1,RelV π1 d a→Ext π π1→RelS π1 Fr S1 s1→HR π1 S1 RD R→K a s1):eff P R o ρ' s' K:=by
 have V:∀ x,(ρ x).df.all id=true→RelV π (ρ x).val (ρ' x).val:=fun x hx=>relv_val (hρ x) hx
 have F:∀ x,(ρ x).df.all id=true→(ρ' x).df:=fun x hx=>relv_df (hρ x) hx
 have hnx:∀ l,Ext π (addP π S.nx l):=addP_ext (hS.nx _ (Nat.le_refl _))
 unfold deo at h
 split at h
 ·
  rename_i z
  cases h
  intro b' hb hR
  refine hK _ (addP π S.nx (.real b' 0 0)) _ ?_ (hnx _) (RelS_new hS hb _ ?_) (hH.new (hnx _) _)
  ·simp only[RelV]; exact⟨b',0,0,addP_same _ _ _,rfl⟩
  ·exact⟨b',0,0,z,addP_same _ _ _,upd_same _ _ _,consts_rel z⟩
 ·
  rename_i x
  cases hc:(dcells (ρ x).val).all DV.one with
  | false=>rw[hc]at h; cases h
  | true=>
   rw[hc]at h; cases h
   obtain⟨g1,g2⟩:=relv_cells (V x ho) hc
   refine⟨F x ho,g2,fun b' hb hR=>?_⟩
   refine hK _ (addP π S.nx (.real b' 0 0)) _ ?_ (hnx _) (RelS_new hS hb _ ?_) (hH.new (hnx _) _)
   ·simp only[RelV]; exact⟨b',0,0,addP_same _ _ _,rfl⟩
   ·exact⟨b',0,0,_,addP_same _ _ _,upd_same _ _ _,g1.ext (hnx _)⟩
 ·
  rename_i p v n
  cases hc:(Nat.beq (dcells (ρ v).val).length n&&(dcells (ρ v).val).all DV.one)with
  | false=>rw[hc]at h; cases h
  | true=>
   rw[hc]at h
   simp only[cond_true]at h
   simp only[Bool.and_eq_true,beq_iff]at hc
   split at h
   ·rename_i b o hp
    split at h
    ·rename_i cs hb
     cases hd:(notIn RD b&&leb (o+n) cs.length)with
     | false=>rw[hd]at h; cases h
     | true=>
      rw[hd]at h; cases h
      simp only[Bool.and_eq_true,leb,Nat.ble_eq]at hd
      obtain⟨o1,o2⟩:=all_app ho
      obtain⟨g1,g2⟩:=relv_cells (V v o2) hc.2
      have vp:=V p o1; rw[hp]at vp
      simp only[RelV]at vp
      obtain⟨b',c,m,hpb,e⟩:=vp
      obtain⟨b2,c2,n2,as,hp2,hs,hr⟩:=hS.obj _ _ hb
      rw[hpb]at hp2; cases hp2
      refine⟨F p o1,F v o2,(RelVs_len g1).trans hc.1,g2,?_⟩
      simp only[e,hs]
      refine⟨notIn_R hS hH hb hd.1 hpb,by rw[RelVs_len hr]; exact hd.2,hK _ π _ (by simp only[RelV]) (Ext.refl _) (RelS_set hS hb hpb _ ?_) (hH.set _ _)⟩
      exact⟨b',c,m,_,hpb,upd_same _ _ _,RelVs_spl o hr g1⟩
    ·cases h
   ·rename_i b k i j hp
    split at h
    ·rename_i T t l hb
     cases hd:(notIn RD b&&Nat.beq t.w k&&leb (j+n) k)with
     | false=>rw[hd]at h; cases h
     | true=>
      rw[hd]at h
      simp only[cond_true]at h
      split at h
      ·rename_i x hx
       cases h
       simp only[Bool.and_eq_true,leb,Nat.ble_eq,beq_iff]at hd
       obtain⟨⟨d1,rfl⟩,d3⟩:=hd
       obtain⟨o1,o2⟩:=all_app ho
       obtain⟨g1,g2⟩:=relv_cells (V v o2) hc.2
       have vp:=V p o1; rw[hp]at vp
       simp only[RelV]at vp
       obtain⟨b',c,m,hpb,hi,e⟩:=vp
       rcases hS.obj _ _ hb with⟨q1,_⟩ | ⟨b2,c2,xs,hp2,hcap,hs,hr⟩
       ·rw[hpb]at q1; cases q1
       ·rw[hpb]at hp2; cases hp2
        have hcr:=decAll_CR hx (RelVs_spl j (CR_cells (π:=π) (hr.2 i hi)) g1)
        refine⟨F p o1,F v o2,(RelVs_len g1).trans hc.1,g2,?_⟩
        simp only[e,hs]
        refine⟨trivial,notIn_R hS hH hb d1 hpb,by rw[hr.1]; exact hi,d3,hK _ π _ (by simp only[RelV]) (Ext.refl _) (RelS_set hS hb hpb _ ?_) (hH.set _ _)⟩
        exact .inr ⟨b',c,_,by rw[List.length_set]; exact hpb,by rw[List.length_set]; exact hcap,upd_same _ _ _,CRs_set hr hi hcr⟩
      ·cases h
    ·cases h
   ·cases h
 ·
  rename_i kn T0
  split at h
  ·rename_i ag t
   cases h
   intro b' hb hR
   refine hK _ (addP π S.nx (.real b' 0 0)) _ ?_ (hnx _) (RelS_new hS hb _ ?_) (hH.new (hnx _) _)
   ·simp only[RelV]; exact⟨b',0,0,addP_same _ _ _,rfl⟩
   ·exact⟨b',0,0,[],addP_same _ _ _,rfl,upd_same _ _ _⟩
  ·cases h
 ·
  rename_i T k by_ z n
  split at h
  ·rename_i ag t ki m hm
   cases hd:(Nat.beq t.w k&&isZf t z)with
   | false=>rw[hd]at h; cases h
   | true=>
    rw[hd]at h; cases h
    simp only[Bool.and_eq_true,beq_iff]at hd
    obtain⟨rfl,hz⟩:=hd
    obtain⟨o1,o2⟩:=all_app ho
    simp only[List.all_cons,List.all_nil,id,Bool.and_true,Bool.and_eq_true,decide_eq_true_eq]at o2
    have e:=ival_inv hm (V n o1)
    have hz':CR t t.zero z:=by
     unfold isZf at hz
     split at hz
     ·rename_i hzz; obtain⟨c,rfl,g⟩:=isZs_CR hzz; simpa using g
     ·cases hz
    refine⟨F n o1,?_⟩
    simp only[e]
    refine⟨o2.1,o2.2,fun b' hb hR=>?_⟩
    refine hK _ (addP π S.nx (.real b' m.toNat m.toNat)) _ ?_ (hnx _) (RelS_new hS hb _ ?_) (hH.new (hnx _) _)
    ·simp only[RelV]; exact .inl ⟨b',_,_,addP_same _ _ _,rfl⟩
    ·exact .inr ⟨b',m.toNat,_,by simp only[repl,List.length_replicate]; exact addP_same _ _ _,by simp only[repl,List.length_replicate]; exact Nat.le_refl _,upd_same _ _ _,CRs_repl hz' _⟩
  ·cases h
 ·
  rename_i T k xs
  split at h
  ·rename_i ag t
   split at h
   ·rename_i l hl
    cases hd:Nat.beq t.w k with
    | false=>rw[hd]at h; cases h
    | true=>
     rw[hd]at h; cases h
     obtain rfl:=beq_iff.1 hd
     obtain⟨g1,g2⟩:=dvals_rel hρ ho
     obtain⟨k1,k2,k3⟩:=drow_sound hl g1
     have hlen:xs.length=l.length:=by rw[← k3]; simp[vals]
     refine⟨g2,k2,fun b' hb hR=>?_⟩
     refine hK _ (addP π S.nx (.real b' l.length l.length)) _ ?_ (hnx _) (RelS_new hS hb _ ?_) (hH.new (hnx _) _)
     ·simp only[RelV]; exact .inl ⟨b',_,_,addP_same _ _ _,by rw[hlen]⟩
     ·exact .inr ⟨b',l.length,_,addP_same _ _ _,Nat.le_refl _,by rw[upd_same,hlen],k1⟩
   ·cases h
  ·cases h
 ·
  rename_i T k by_ x y
  split at h
  ·rename_i ag t
   cases hd:Nat.beq t.w k with
   | false=>rw[hd]at h; cases h
   | true=>
    rw[hd]at h
    obtain rfl:=beq_iff.1 hd
    simp only[cond_true]at h
    split at h
    ·rename_i ys hys
     have emp:∀ S0,RelS π Fr S0 s'→HR π S0 RD R→S0.nx=S.nx→(ρ' x).val = .emp→(ρ' x).df→(ρ' y).df→(∀ xs,CRs t ys xs→(∀ K:List (List AV)→Prop,K xs→elems t.w s' (ρ' y).val K)→by_*ys.length≤140737488355328 →
       (∀ a π1 s1,RelV π1 (.slc S.nx) a→Ext π π1→RelS π1 Fr (S0.new (.row T t ys)) s1→HR π1 (S0.new (.row T t ys)) RD R→K a s1)→eff P R (.app T t.w by_ x y) ρ' s' K):=by
      intro S0 hS0 hH0 hn ex fx fy xs hx he hby hk
      refine⟨fx,fy,he _ ?_⟩
      simp only[ex]
      refine⟨by rw[hx.1]; exact hby,fun h0=>?_,fun h0 b' c hb hR hc=>?_⟩
      ·have e0:ys=[]:=List.eq_nil_of_length_eq_zero (by rw[← hx.1]; exact h0)
       subst e0
       refine hk _ (addP π S.nx .virt) _ ?_ (hnx _) ?_ ?_
       ·simp only[RelV]; exact .inr ⟨addP_same _ _ _,trivial⟩
       ·rw[← hn]; exact RelS_virt hS0 T t
       ·exact hH0.new (hnx _) _
      ·refine hk _ (addP π S.nx (.real b' c ys.length)) _ ?_ (hnx _) ?_ (hH0.new (hnx _) _)
       ·simp only[RelV]; exact .inl ⟨b',_,_,addP_same _ _ _,by rw[hx.1]⟩
       ·rw[← hn]
        exact RelS_new hS0 hb _ (.inr ⟨b',c,_,addP_same _ _ _,by rw[← hx.1]; exact hc,upd_same _ _ _,hx⟩)
     split at h
     ·rename_i hx
      cases h
      obtain⟨o1,o2⟩:=all_app ho
      obtain⟨o2,o3⟩:=all_app o2
      simp only[capOk,List.all_cons,List.all_nil,id,Bool.and_true,decide_eq_true_eq]at o3
      have vx:=V x o1; rw[hx]at vx
      simp only[RelV]at vx
      obtain⟨xs,g1,g2⟩:=delems_sound hS hys (V y o2)
      exact emp S hS hH rfl vx (F x o1) (F y o2) xs g1 g2 o3 hK
     ·rename_i b hx
      split at h
      ·rename_i T' t' l hb
       split at h
       ·rename_i ht
        subst ht
        cases hd2:(Nat.beq T' T&&notIn RD b)with
        | false=>rw[hd2]at h; cases h
        | true=>
         rw[hd2]at h; cases h
         simp only[Bool.and_eq_true,beq_iff]at hd2
         obtain⟨rfl,hnb⟩:=hd2
         obtain⟨o1,o23⟩:=all_app ho
         obtain⟨o2,o3⟩:=all_app o23
         simp only[capOk,List.all_cons,List.all_nil,id,Bool.and_true,decide_eq_true_eq]at o3
         have vx:=V x o1; rw[hx]at vx
         simp only[RelV]at vx
         obtain⟨xs,g1,g2⟩:=delems_sound hS hys (V y o2)
         rcases hS.obj _ _ hb with⟨q1,rfl⟩ | ⟨b2,c2,zs,hp2,hcap,hs,hr⟩
         ·rcases vx with⟨b',c,m,hp,e⟩ | ⟨hp,e⟩
          ·rw[q1]at hp; cases hp
          ·exact emp (S.del b) (RelS_del hS b) (hH.del hnb) rfl e (F x o1) (F y o2) xs g1 g2 (by simpa using o3) hK
         ·rcases vx with⟨b',c,m,hp,e⟩ | ⟨hp,_⟩
          ·rw[hp2]at hp; cases hp
           refine⟨F x o1,F y o2,g2 _ ?_⟩
           simp only[e,hs]
           refine⟨trivial,trivial,trivial,hr.1.symm,notIn_R hS hH hb hnb hp2,by rw[g1.1]; exact o3,fun b3 c3 hb3 hR3 hc3=>?_⟩
           have hS':=RelS_del' hS hb hp2
           have hlen:l.length+xs.length=(l++ys).length:=by rw[List.length_append,g1.1]
           refine hK _ (addP π S.nx (.real b3 c3 (l++ys).length)) _ ?_ (hnx _) ?_ ((hH.del hnb).new (hnx _) _)
           ·simp only[RelV]; exact .inl ⟨b3,_,_,addP_same _ _ _,by rw[hlen]⟩
           ·exact RelS_new hS' hb3 _ (.inr ⟨b3,c3,_,addP_same _ _ _,by rw[← hlen]; exact hc3,upd_same _ _ _,CRs_app hr g1⟩)
          ·rw[hp2]at hp; cases hp
       ·cases h
      ·cases h
     ·cases h
    ·cases h
  ·cases h
 ·
  rename_i kn m key v
  split at h
  ·rename_i b hm
   split at h
   ·rename_i kn' ag t es hb
    split at h
    ·rename_i k x hk hx
     cases hd:(Nat.beq kn' kn&&notIn RD b)with
     | false=>rw[hd]at h; cases h
     | true=>
      rw[hd]at h; cases h
      simp only[Bool.and_eq_true,beq_iff]at hd
      obtain⟨rfl,hnb⟩:=hd
      obtain⟨o1,o2⟩:=all_app ho
      obtain⟨o2,o3⟩:=all_app o2
      have vm:=V m o1; rw[hm]at vm
      simp only[RelV]at vm; obtain⟨b',c,n,hp,e⟩:=vm
      obtain⟨b2,c2,n2,es',hp2,he,hs⟩:=hS.obj _ _ hb
      rw[hp]at hp2; cases hp2
      have hs:s' b'=some (.imap kn' es' none):=hs
      refine⟨F m o1,F key o2,F v o3,?_⟩
      simp only[e,hs]
      refine⟨trivial,notIn_R hS hH hb hnb hp,dkey_inv hk (V key o2) _ (hK _ π _ (by simp only[RelV]) (Ext.refl _) (RelS_set hS hb hp _ ?_) (hH.set _ _))⟩
      exact⟨b',c,n,_,hp,ERs_put k he (mvR_MR hx (V v o3)),upd_same _ _ _⟩
    ·cases h
   ·cases h
  ·cases h
 ·
  rename_i kn z m key
  split at h
  ·rename_i b hm
   split at h
   ·rename_i kn' ag t es hb
    split at h
    ·rename_i k hk
     cases hd:(Nat.beq kn' kn&&notIn RD b&&isZ ag t z)with
     | false=>rw[hd]at h; cases h
     | true=>
      rw[hd]at h; cases h
      simp only[Bool.and_eq_true,beq_iff]at hd
      obtain⟨⟨rfl,hnb⟩,hz⟩:=hd
      obtain⟨o1,o2⟩:=all_app ho
      have vm:=V m o1; rw[hm]at vm
      simp only[RelV]at vm; obtain⟨b',c,n,hp,e⟩:=vm
      obtain⟨b2,c2,n2,es',hp2,he,hs⟩:=hS.obj _ _ hb
      rw[hp]at hp2; cases hp2
      have hs:s' b'=some (.imap kn' es' none):=hs
      have hg:MR ag t ((kget es k).getD t.zero) ((mget es' k).getD z):=by
       rcases ERs_get k he with⟨g1,g2⟩ | ⟨x,a,g1,g2,g3⟩
       ·rw[g1,g2]; exact isZ_MR hz
       ·rw[g1,g2]; exact g3
      refine⟨F m o1,F key o2,?_⟩
      simp only[e,hs]
      refine⟨trivial,notIn_R hS hH hb hnb hp,dkey_inv hk (V key o2) _ fun st=>?_⟩
      have h1:=hS.tick' st
      have hb1:S.tick.get b=some (.imap kn' ag t es none):=hb
      have hp1:=hnx (.tok st) _ _ hp
      refine hK _ (addP π S.nx (.tok st)) _ ?_ (hnx _) (RelS_set (S:=S.tick) h1 hb1 hp1 _ (o:=.imap kn' ag t es (some (S.nx,k,(kget es k).getD t.zero))) ?_) ?_
      ·simp only[RelV]
       refine⟨_,rfl,RelVs_cons (MR_mvD hg) (RelVs_one ?_)⟩
       simp only[RelV]; exact⟨st,addP_same _ _ _,rfl⟩
      ·exact⟨b',c,n,es',hp1,he,st,_,addP_same _ _ _,hg,upd_same _ _ _⟩
      ·exact(hH.set b (.imap kn' ag t es (some (S.nx,k,(kget es k).getD t.zero)))).mono (hnx _) fun b3 hb3=>by
        obtain⟨o3,ho3,_⟩:=(hH.set b (.imap kn' ag t es (some (S.nx,k,(kget es k).getD t.zero)))).live b3 hb3
        exact⟨o3,ho3⟩
    ·cases h
   ·cases h
  ·cases h
 ·
  rename_i m st v
  split at h
  ·rename_i b tk hm hst
   split at h
   ·rename_i kn ag t es tk' k v0 hb
    split at h
    ·rename_i x hx
     cases hd:(Nat.beq tk tk'&&notIn RD b)with
     | false=>rw[hd]at h; cases h
     | true=>
      rw[hd]at h; cases h
      simp only[Bool.and_eq_true,beq_iff]at hd
      obtain⟨rfl,hnb⟩:=hd
      obtain⟨o1,o2⟩:=all_app ho
      obtain⟨o2,o3⟩:=all_app o2
      have vm:=V m o1; rw[hm]at vm
      simp only[RelV]at vm; obtain⟨b',c,n,hp,e⟩:=vm
      have vs:=V st o2; rw[hst]at vs
      simp only[RelV]at vs; obtain⟨y,hy,e2⟩:=vs
      obtain⟨b2,c2,n2,es',hp2,he,y2,v0',hy2,hmr,hs⟩:=hS.obj _ _ hb
      rw[hp]at hp2; cases hp2
      rw[hy]at hy2; cases hy2
      refine⟨F m o1,F st o2,F v o3,?_⟩
      simp only[e,e2,hs]
      refine⟨trivial,notIn_R hS hH hb hnb hp,hK _ π _ (by simp only[RelV]) (Ext.refl _) (RelS_set hS hb hp _ ?_) (hH.set _ _)⟩
      refine⟨b',c,n,mput es' k (ρ' v).val,hp,ERs_put k he (mvR_MR hx (V v o3)),?_⟩
      show upd s' b' _ b'=_
      rw[upd_same,mput_set]
    ·cases h
   ·cases h
  ·cases h
 ·
  rename_i p v n
  cases hc:(Nat.beq (dcells (ρ v).val).length n&&(dcells (ρ v).val).all DV.one)with
  | false=>rw[hc]at h; cases h
  | true=>
   rw[hc]at h
   simp only[cond_true]at h
   simp only[Bool.and_eq_true,beq_iff]at hc
   split at h
   ·rename_i b o hp
    split at h
    ·rename_i cs hb
     cases hd:leb (o+n) cs.length with
     | false=>rw[hd]at h; cases h
     | true=>
      rw[hd]at h; cases h
      simp only[leb,Nat.ble_eq]at hd
      obtain⟨o1,o2⟩:=all_app ho
      obtain⟨g1,g2⟩:=relv_cells (V v o2) hc.2
      have vp:=V p o1; rw[hp]at vp
      simp only[RelV]at vp
      obtain⟨b',c,m,hpb,e⟩:=vp
      obtain⟨b2,c2,n2,as,hp2,hs,hr⟩:=hS.obj _ _ hb
      rw[hpb]at hp2; cases hp2
      refine⟨F p o1,F v o2,(RelVs_len g1).trans hc.1,g2,?_⟩
      simp only[e,hs]
      refine⟨by rw[RelVs_len hr]; exact hd,hK _ π _ (by simp only[RelV]) (Ext.refl _) (RelS_set hS hb hpb _ ?_) (hH.set _ _)⟩
      exact⟨b',c,m,_,hpb,upd_same _ _ _,RelVs_spl o hr g1⟩
    ·cases h
   ·rename_i b k i j hp
    split at h
    ·rename_i T t l hb
     cases hd:(Nat.beq t.w k&&leb (j+n) k)with
     | false=>rw[hd]at h; cases h
     | true=>
      rw[hd]at h
      simp only[cond_true]at h
      split at h
      ·rename_i x hx
       cases h
       simp only[Bool.and_eq_true,leb,Nat.ble_eq,beq_iff]at hd
       obtain⟨rfl,d3⟩:=hd
       obtain⟨o1,o2⟩:=all_app ho
       obtain⟨g1,g2⟩:=relv_cells (V v o2) hc.2
       have vp:=V p o1; rw[hp]at vp
       simp only[RelV]at vp
       obtain⟨b',c,m,hpb,hi,e⟩:=vp
       rcases hS.obj _ _ hb with⟨q1,_⟩ | ⟨b2,c2,xs,hp2,hcap,hs,hr⟩
       ·rw[hpb]at q1; cases q1
       ·rw[hpb]at hp2; cases hp2
        have hcr:=decAll_CR hx (RelVs_spl j (CR_cells (π:=π) (hr.2 i hi)) g1)
        refine⟨F p o1,F v o2,(RelVs_len g1).trans hc.1,g2,?_⟩
        simp only[e,hs]
        refine⟨trivial,by rw[hr.1]; exact hi,d3,hK _ π _ (by simp only[RelV]) (Ext.refl _) (RelS_set hS hb hpb _ ?_) (hH.set _ _)⟩
        exact .inr ⟨b',c,_,by rw[List.length_set]; exact hpb,by rw[List.length_set]; exact hcap,upd_same _ _ _,CRs_set hr hi hcr⟩
      ·cases h
    ·cases h
   ·cases h
 ·
  rename_i T k n z
  split at h
  ·rename_i g0 t
   cases hc:(Nat.beq t.w k&&isZf t z&&leb 1 n)with
   | false=>rw[hc]at h; cases h
   | true=>
    rw[hc]at h; cases h
    simp only[Bool.and_eq_true,beq_iff,leb,Nat.ble_eq]at hc
    obtain⟨⟨rfl,hz⟩,hn⟩:=hc
    have hzc:CR t t.zero z:=by
     unfold isZf at hz
     split at hz
     ·rename_i he; obtain⟨c,rfl,g⟩:=isZs_CR he; simpa using g
     ·cases hz
    intro b' hb hR
    refine hK _ (addP π S.nx (.real b' n n)) _ ?_ (hnx _) (RelS_new hS hb _ ?_) (hH.new (hnx _) _)
    ·simp only[RelV]; exact⟨b',n,n,addP_same _ _ _,hn,rfl⟩
    ·refine .inr ⟨b',n,List.replicate n z,?_,by simp[repl],upd_same _ _ _,CRs_repl hzc n⟩
     rw[addP_same]; simp[repl]
  ·cases h
 ·
  rename_i p v k n
  split at h
  ·rename_i b k' cs hp hv
   split at h
   ·rename_i T t l hb
    cases hc:(Nat.beq k' k&&Nat.beq t.w k&&notIn RD b&&cs.all DV.one)with
    | false=>rw[hc]at h; cases h
    | true=>
     rw[hc]at h
     simp only[cond_true]at h
     split at h
     ·rename_i l' hl
      cases h
      simp only[Bool.and_eq_true,beq_iff]at hc
      obtain⟨⟨⟨rfl,rfl⟩,hnb⟩,hone⟩:=hc
      obtain⟨o1,o2⟩:=all_app ho
      obtain⟨o2,o3⟩:=all_app o2
      simp only[List.all_cons,List.all_nil,id,Bool.and_true,beq_iff]at o3
      have vp:=V p o1; rw[hp]at vp
      simp only[RelV]at vp
      obtain⟨b',c,N,hpb,hi,e⟩:=vp
      have vv:=V v o2; rw[hv]at vv
      simp only[RelV]at vv
      obtain⟨as,e2,rv⟩:=vv
      obtain⟨q1,q2,q3⟩:=dchunks_sound hl rv
      rcases hS.obj _ _ hb with⟨g1,_⟩ | ⟨b2,c2,xs,hp2,hcap,hs,hr⟩
      ·rw[hpb]at g1; cases g1
      ·rw[hpb]at hp2; cases hp2
       refine⟨F p o1,F v o2,?_⟩
       simp only[e,e2,hs]
       refine⟨trivial,trivial,by rw[hr.1]; exact o3,q2,relvs_one rv hone,notIn_R hS hH hb hnb hpb,hK _ π _ (by simp only[RelV]) (Ext.refl _) (RelS_set hS hb hpb _ ?_) (hH.set _ _)⟩
       refine .inr ⟨b',c,_,by rw[q1,← o3]; exact hpb,by rw[q1,← o3]; exact hcap,upd_same _ _ _,by rw[chunks_length,q1],fun i hi=>?_⟩
       rw[q1]at hi
       rw[chunks_get _ _ hi]
       exact q3 i hi
     ·cases h
   ·cases h
  ·cases h
 ·
  rename_i x hi
  split at h
  ·rename_i b kk z hx hz
   split at h
   ·rename_i T t l hb
    cases hc:notIn RD b with
    | false=>rw[hc]at h; cases h
    | true=>
     rw[hc]at h; cases h
     obtain⟨o1,o2⟩:=all_app ho
     obtain⟨o2,o3⟩:=all_app o2
     simp only[List.all_cons,List.all_nil,id,Bool.and_true,Bool.and_eq_true,decide_eq_true_eq]at o3
     have ei:=ival_inv hz (V hi o2)
     have v:=V x o1; rw[hx]at v
     simp only[RelV]at v
     rcases hS.obj _ _ hb with⟨g1,rfl⟩ | ⟨b2,c2,xs,hp2,hcap,hs,hr⟩
     ·simp at o3
     ·rcases v with⟨b',c,m,hp,e⟩ | ⟨hp,_⟩
      ·rw[hp2]at hp; cases hp
       refine⟨F x o1,F hi o2,?_⟩
       simp only[e,ei,hs]
       refine⟨trivial,hr.1.symm,notIn_R hS hH hb hc hp2,o3.1,o3.2.1,fun b3 hb3 hR3=>?_⟩
       have hS':=RelS_del' hS hb hp2
       have hlen:(l.take z.toNat).length=z.toNat:=by simp; omega
       refine hK _ (addP π S.nx (.real b3 c2 z.toNat)) _ ?_ (hnx _) ?_ ((hH.del hc).new (hnx _) _)
       ·simp only[RelV]; exact .inl ⟨b3,_,_,addP_same _ _ _,rfl⟩
       ·exact RelS_new hS' hb3 _ (.inr ⟨b3,c2,_,by rw[hlen]; exact addP_same _ _ _,by rw[hlen]; omega,upd_same _ _ _,CRs_take hr _⟩)
      ·rw[hp2]at hp; cases hp
   ·cases h
  ·cases h
 ·
  rename_i T k by_ z x n
  split at h
  ·rename_i ag t
   split at h
   ·rename_i ki m hx hm
    cases hd:(Nat.beq t.w k&&isZf t z)with
    | false=>rw[hd]at h; cases h
    | true=>
     rw[hd]at h; cases h
     simp only[Bool.and_eq_true,beq_iff]at hd
     obtain⟨rfl,hz⟩:=hd
     obtain⟨o1,o2⟩:=all_app ho
     obtain⟨o2,o3⟩:=all_app o2
     simp only[List.all_cons,List.all_nil,id,Bool.and_true,Bool.and_eq_true,decide_eq_true_eq]at o3
     have e:=ival_inv hm (V n o2)
     have v:=V x o1; rw[hx]at v
     simp only[RelV]at v
     have hz':CR t t.zero z:=by
      unfold isZf at hz
      split at hz
      ·rename_i hzz; obtain⟨c,rfl,g⟩:=isZs_CR hzz; simpa using g
      ·cases hz
     refine⟨F x o1,F n o2,?_⟩
     simp only[v,e]
     refine⟨o3.1,o3.2,fun b' c hb hR hc=>?_⟩
     refine hK _ (addP π S.nx (.real b' c m.toNat)) _ ?_ (hnx _) (RelS_new hS hb _ ?_) (hH.new (hnx _) _)
     ·simp only[RelV]; exact .inl ⟨b',_,_,addP_same _ _ _,rfl⟩
     ·exact .inr ⟨b',c,_,by simp only[repl,List.length_replicate]; exact addP_same _ _ _,by simp only[repl,List.length_replicate]; exact hc,upd_same _ _ _,CRs_repl hz' _⟩
   ·cases h
  ·cases h
 ·
  rename_i x k z
  split at h
  ·rename_i b k' p m hx
   split at h
   ·rename_i T t l hb
    cases hc:(Nat.beq k' k&&Nat.beq t.w k&&notIn RD b&&isZf t z)with
    | false=>rw[hc]at h; cases h
    | true=>
     rw[hc]at h; cases h
     simp only[Bool.and_eq_true,beq_iff]at hc
     obtain⟨⟨⟨rfl,rfl⟩,hnb⟩,hz⟩:=hc
     have hzc:CR t t.zero z:=by
      unfold isZf at hz
      split at hz
      ·rename_i he; obtain⟨c,rfl,g⟩:=isZs_CR he; simpa using g
      ·cases hz
     have v:=V x ho; rw[hx]at v
     simp only[RelV]at v
     obtain⟨b',c,N,hp,hle,e⟩:=v
     rcases hS.obj _ _ hb with⟨g1,_⟩ | ⟨b2,c2,xs,hp2,hcap,hs,hr⟩
     ·rw[hp]at g1; cases g1
     ·rw[hp]at hp2; cases hp2
      have hlen:(clrL l p m t.zero).length=l.length:=by simp[clrL]; omega
      refine⟨F x ho,?_⟩
      simp only[e,hs]
      refine⟨trivial,trivial,CR_len hzc,by rw[hr.1]; exact hle,notIn_R hS hH hb hnb hp,hK _ π _ (by simp only[RelV]) (Ext.refl _) (RelS_set hS hb hp _ ?_) (hH.set _ _)⟩
      exact .inr ⟨b',c,_,by rw[hlen]; exact hp,by rw[hlen]; exact hcap,upd_same _ _ _,CRs_app (CRs_take hr _) (CRs_app (CRs_repl hzc m) (CRs_drop hr _))⟩
   ·cases h
  ·cases h
 ·cases h
end
end Go.Proofs.YtdacabdocbhkdaaGreat.D

set_option linter.unusedVariables false
set_option linter.unusedSimpArgs false
namespace Go.Proofs.YtdacabdocbhkdaaGreat.D
open Go Go.Proofs.YtdacabdocbhkdaaGreat.L
theorem castL_eq {t:Ty}{l:Leaf}{x:t.den}(h:castL t l.t l.x=some x):l=⟨t,x⟩:=by
 obtain⟨t',y⟩:=l
 unfold castL at h
 split at h
 ·rename_i he; have he:t'=t:=he; subst he; cases h; rfl
 ·cases h
theorem toDens_ofDens:∀ {ts:List Ty}{l:List Leaf}{x:dens ts} ,toDens ts l=some x→ofDens ts x=l
 | [],[],x,h=>rfl
 | [],_::_,x,h=>by simp[toDens]at h
 | [t],[],x,h=>by simp[toDens]at h
 | [t],[l],x,h=>by
  have h:castL t l.t l.x=some x:=h
  rw[castL_eq h]; rfl
 | [t],_::_::_,x,h=>by simp[toDens]at h
 | t::u::ts,[],x,h=>by simp[toDens]at h
 | t::u::ts,l::ls,x,h=>by
  simp only[toDens]at h
  split at h
  ·rename_i y hy
   split at h
   ·rename_i r hr
    cases h
    rw[castL_eq hy]
    simp only[ofDens]
    rw[toDens_ofDens hr]
   ·cases h
  ·cases h
def locOf (π:Pi):Option Nat→Option Loc
 | some b=>π b
 | none=>some .virt
def Mt (π:Pi)(nm:Nm)(π2:Pi)(ρ:Nat→Nat):Prop:=∀ k x,fnd nm k=some x→∀ l,locOf π x=some l→π2 (ρ k)=some l
def NmLe (nm nm':Nm):Prop:=∀ k x,fnd nm k=some x→fnd nm' k=some x
theorem NmLe.refl (nm:Nm):NmLe nm nm:=fun _ _ h=>h
theorem NmLe.trans {a b c:Nm}(h:NmLe a b)(k:NmLe b c):NmLe a c:=fun x y hx=>k x y (h x y hx)
theorem Mt.le {π π2:Pi}{nm nm':Nm}{ρ:Nat→Nat}(h:Mt π nm' π2 ρ)(k:NmLe nm nm'):Mt π nm π2 ρ:=fun a x hx=>h a x (k a x hx)
section
variable {π π2:Pi} {ρ:Nat→Nat}
theorem bindN_inv {nm nm':Nm}{k b:Nat}(h:bindN nm k b=some nm'):NmLe nm nm'∧fnd nm' k=some (some b):=by
 unfold bindN at h
 split at h
 ·rename_i hn
  cases h
  refine⟨fun a x hx=>?_,by simp[fnd]⟩
  by_cases e:k=a
  ·subst e; rw[hn]at hx; cases hx
  ·simp[fnd,beq_ne e,hx]
 ·rename_i b' hb
  cases hc:Nat.beq b' b with
  | false=>rw[hc]at h; cases h
  | true=>rw[hc]at h; cases h; exact⟨NmLe.refl _,by rw[hb,beq_iff.1 hc]⟩
 ·cases h
theorem bindV_inv {nm nm':Nm}{k:Nat}(h:bindV nm k=some nm'):NmLe nm nm'∧fnd nm' k=some none:=by
 unfold bindV at h
 split at h
 ·rename_i hn
  cases h
  refine⟨fun a x hx=>?_,by simp[fnd]⟩
  by_cases e:k=a
  ·subst e; rw[hn]at hx; cases hx
  ·simp[fnd,beq_ne e,hx]
 ·rename_i hb; cases h; exact⟨NmLe.refl _,hb⟩
 ·cases h
mutual
theorem rdV_fill:∀ (r:RSh){d:DV}{nm nm':Nm}{l:List Leaf}{a:AV} ,rdV none r d nm=some (l,nm')→RelV π d a →
  NmLe nm nm'∧∀ rest,Mt π nm' π2 ρ→∃ d2,fillV ρ r (l++rest)=some (d2,rest)∧RelV π2 d2 a
 | .v t,d,nm,nm',l,a,h,hr=>by
  simp only[rdV]at h
  split at h
  ·rename_i x hx
   cases h
   exact⟨NmLe.refl _,fun rest hm=>⟨.v ⟨t,x⟩,by simp[fillV],by simp only[RelV]; exact decAll_CR hx (RelVs_one hr)⟩⟩
  ·cases h
 | .st t,d,nm,nm',l,a,h,hr=>by
  cases d with
  | agg ds=>
   simp only[rdV]at h
   split at h
   ·rename_i x hx
    cases h
    simp only[RelV]at hr
    obtain⟨as,rfl,hr⟩:=hr
    exact⟨NmLe.refl _,fun rest hm=>⟨.agg (cellsD t x),by simp[fillV],by simp only[RelV]; exact⟨as,rfl,CR_cells (decAll_CR hx hr)⟩⟩⟩
   ·cases h
  | _=>simp[rdV]at h
 | .elm t,d,nm,nm',l,a,h,hr=>by
  cases d with
  | elm ds=>
   simp only[rdV]at h
   split at h
   ·rename_i x hx
    cases h
    simp only[RelV]at hr
    obtain⟨as,rfl,hr⟩:=hr
    exact⟨NmLe.refl _,fun rest hm=>⟨.elm (cellsD t x),by simp[fillV],by simp only[RelV]; exact⟨as,rfl,CR_cells (decAll_CR hx hr)⟩⟩⟩
   ·cases h
  | ptr b o=>cases o <;> simp[rdV]at h
  | _=>simp[rdV]at h
 | .ptr k o,d,nm,nm',l,a,h,hr=>by
  cases d with
  | ptr b o'=>
   simp only[rdV]at h
   cases hc:Nat.beq o o' with
   | false=>rw[hc]at h; cases h
   | true=>
    rw[hc]at h
    obtain rfl:=beq_iff.1 hc
    simp only[cond_true]at h
    split at h
    ·rename_i nm1 hb
     cases h
     obtain⟨g1,g2⟩:=bindN_inv hb
     simp only[RelV]at hr
     obtain⟨b',c,n,hp,rfl⟩:=hr
     exact⟨g1,fun rest hm=>⟨.ptr (ρ k) o,by simp[fillV],by simp only[RelV]; exact⟨b',c,n,hm _ _ g2 _ hp,rfl⟩⟩⟩
    ·cases h
  | _=>simp[rdV]at h
 | .slc k,d,nm,nm',l,a,h,hr=>by
  cases d with
  | slc b=>
   simp only[rdV]at h
   split at h
   ·rename_i nm1 hb
    cases h
    obtain⟨g1,g2⟩:=bindN_inv hb
    refine⟨g1,fun rest hm=>⟨.slc (ρ k),by simp[fillV],?_⟩⟩
    simp only[RelV]at hr ⊢
    rcases hr with⟨b',c,n,hp,rfl⟩ | ⟨hp,rfl⟩
    ·exact .inl ⟨b',c,n,hm _ _ g2 _ hp,rfl⟩
    ·exact .inr ⟨hm _ _ g2 _ hp,rfl⟩
   ·cases h
  | emp=>
   simp only[rdV]at h
   split at h
   ·rename_i nm1 hb
    cases h
    obtain⟨g1,g2⟩:=bindV_inv hb
    refine⟨g1,fun rest hm=>⟨.slc (ρ k),by simp[fillV],?_⟩⟩
    simp only[RelV]at hr ⊢
    exact .inr ⟨hm _ _ g2 _ rfl,hr⟩
   ·cases h
  | _=>simp[rdV]at h
 | .slo k w,d,nm,nm',l,a,h,hr=>by
  cases d with
  | slo b w' o m=>
   simp only[rdV]at h
   cases hc:Nat.beq w w' with
   | false=>rw[hc]at h; cases h
   | true=>
    rw[hc]at h
    obtain rfl:=beq_iff.1 hc
    try simp only[cond_true]at h
    split at h
    ·rename_i nm1 hb
     cases h
     obtain⟨g1,g2⟩:=bindN_inv hb
     simp only[RelV]at hr
     obtain⟨b',c,n,hp,hle,rfl⟩:=hr
     exact⟨g1,fun rest hm=>⟨.slo (ρ k) w o m,by simp[fillV,castL],by simp only[RelV]; exact⟨b',c,n,hm _ _ g2 _ hp,hle,rfl⟩⟩⟩
    ·cases h
  | _=>simp[rdV]at h
 | .aptr k w,d,nm,nm',l,a,h,hr=>by
  cases d with
  | rptr b w' i j=>
   cases i with
   | succ i=>simp[rdV]at h
   | zero=>
    cases j with
    | succ j=>simp[rdV]at h
    | zero=>
     simp only[rdV]at h
     cases hc:Nat.beq w w' with
     | false=>rw[hc]at h; cases h
     | true=>
      rw[hc]at h
      obtain rfl:=beq_iff.1 hc
      try simp only[cond_true]at h
      split at h
      ·rename_i nm1 hb
       cases h
       obtain⟨g1,g2⟩:=bindN_inv hb
       simp only[RelV]at hr
       obtain⟨b',c,n,hp,hle,rfl⟩:=hr
       exact⟨g1,fun rest hm=>⟨.rptr (ρ k) w 0 0,by simp[fillV],by simp only[RelV]; exact⟨b',c,n,hm _ _ g2 _ hp,hle,rfl⟩⟩⟩
      ·cases h
  | _=>simp[rdV]at h
 | .mp k,d,nm,nm',l,a,h,hr=>by
  cases d with
  | mp b=>
   simp only[rdV]at h
   split at h
   ·rename_i nm1 hb
    cases h
    obtain⟨g1,g2⟩:=bindN_inv hb
    simp only[RelV]at hr
    obtain⟨b',c,n,hp,rfl⟩:=hr
    exact⟨g1,fun rest hm=>⟨.mp (ρ k),by simp[fillV],by simp only[RelV]; exact⟨b',c,n,hm _ _ g2 _ hp,rfl⟩⟩⟩
   ·cases h
  | _=>simp[rdV]at h
 | .nilp,d,nm,nm',l,a,h,hr=>by
  cases d with
  | nilp=>
   simp only[rdV]at h
   cases h
   exact⟨NmLe.refl _,fun rest hm=>⟨.nilp,by simp[fillV],by simp only[RelV]at hr ⊢; exact hr⟩⟩
  | _=>simp[rdV]at h
 | .nilm,d,nm,nm',l,a,h,hr=>by
  cases d with
  | nilm=>
   simp only[rdV]at h
   cases h
   exact⟨NmLe.refl _,fun rest hm=>⟨.nilm,by simp[fillV],by simp only[RelV]at hr ⊢; exact hr⟩⟩
  | _=>simp[rdV]at h
 | .emp,d,nm,nm',l,a,h,hr=>by
  cases d with
  | emp=>
   simp only[rdV]at h
   cases h
   exact⟨NmLe.refl _,fun rest hm=>⟨.emp,by simp[fillV],by simp only[RelV]at hr ⊢; exact hr⟩⟩
  | _=>simp[rdV]at h
 | .any,d,nm,nm',l,a,h,hr=>by
  have h':some (([]:List Leaf),nm)=some (l,nm'):=by cases d <;> simpa only[rdV]using h
  cases h'
  exact⟨NmLe.refl _,fun rest hm=>⟨.undef,by simp[fillV],by simp only[RelV]⟩⟩
 | .agg rs,d,nm,nm',l,a,h,hr=>by
  cases d with
  | agg ds=>
   simp only[rdV]at h
   simp only[RelV]at hr
   obtain⟨as,rfl,hr⟩:=hr
   obtain⟨g1,g2⟩:=rdVs_fill rs h hr
   refine⟨g1,fun rest hm=>?_⟩
   obtain⟨ds2,k1,k2⟩:=g2 rest hm
   exact⟨.agg ds2,by simp[fillV,k1],by simp only[RelV]; exact⟨as,rfl,k2⟩⟩
  | _=>simp[rdV]at h
 | .tup rs,d,nm,nm',l,a,h,hr=>by
  cases d with
  | tup ds=>
   simp only[rdV]at h
   simp only[RelV]at hr
   obtain⟨as,rfl,hr⟩:=hr
   obtain⟨g1,g2⟩:=rdVs_fill rs h hr
   refine⟨g1,fun rest hm=>?_⟩
   obtain⟨ds2,k1,k2⟩:=g2 rest hm
   exact⟨.tup ds2,by simp[fillV,k1],by simp only[RelV]; exact⟨as,rfl,k2⟩⟩
  | _=>simp[rdV]at h
 | .fn f rs,d,nm,nm',l,a,h,hr=>by
  cases d with
  | fn f' ds=>
   simp only[rdV]at h
   cases hc:Nat.beq f f' with
   | false=>rw[hc]at h; cases h
   | true=>
    rw[hc]at h
    obtain rfl:=beq_iff.1 hc
    simp only[cond_true]at h
    simp only[RelV]at hr
    obtain⟨as,rfl,hr⟩:=hr
    obtain⟨g1,g2⟩:=rdVs_fill rs h hr
    refine⟨g1,fun rest hm=>?_⟩
    obtain⟨ds2,k1,k2⟩:=g2 rest hm
    exact⟨.fn f ds2,by simp[fillV,k1],by simp only[RelV]; exact⟨as,rfl,k2⟩⟩
  | _=>simp[rdV]at h
theorem rdVs_fill:∀ (rs:List RSh){ds:List DV}{nm nm':Nm}{l:List Leaf}{as:List AV} ,rdVs none rs ds nm=some (l,nm')→RelVs π ds as →
  NmLe nm nm'∧∀ rest,Mt π nm' π2 ρ→∃ ds2,fillVs ρ rs (l++rest)=some (ds2,rest)∧RelVs π2 ds2 as
 | [],ds,nm,nm',l,as,h,hr=>by
  cases ds with
  | nil=>
   simp only[rdVs]at h
   cases h
   simp only[RelVs]at hr; subst hr
   exact⟨NmLe.refl _,fun rest hm=>⟨[],by simp[fillVs],RelVs_nil⟩⟩
  | cons d ds=>simp[rdVs]at h
 | r::rs,ds,nm,nm',l,as,h,hr=>by
  cases ds with
  | nil=>simp[rdVs]at h
  | cons d ds=>
   simp only[rdVs]at h
   simp only[RelVs]at hr
   obtain⟨a,as',rfl,hr1,hr2⟩:=hr
   split at h
   ·rename_i l1 nm1 h1
    split at h
    ·rename_i l2 nm2 h2
     cases h
     obtain⟨g1,g2⟩:=rdV_fill r h1 hr1
     obtain⟨g3,g4⟩:=rdVs_fill rs h2 hr2
     refine⟨g1.trans g3,fun rest hm=>?_⟩
     obtain⟨d2,k1,k2⟩:=g2 (l2++rest) (hm.le g3)
     obtain⟨ds2,k3,k4⟩:=g4 rest hm
     exact⟨d2::ds2,by simp only[fillVs,List.append_assoc,k1,k3],RelVs_cons k2 k4⟩
    ·cases h
   ·cases h
end
theorem rdO_fill {Fr:Store}{S:DSt}{s':Store}(hS:RelS π Fr S s'){o:OSh}{x:Option Nat}{nm nm':Nm}{l:List Leaf}(h:rdO S o x nm=some (l,nm')):
  NmLe nm nm'∧(∀ b,x=some b→∃ o,S.get b=some o)∧∀ k rest,Mt π nm' π2 ρ→(∀ lc,locOf π x=some lc→π2 (ρ k)=some lc)→∃ o2,fillO ρ o (l++rest)=some (o2,rest)∧ObR π2 s' (ρ k) o2:=by
 cases x with
 | none=>
  unfold rdO at h
  split at h
  ·rename_i T t _
   cases h
   exact⟨NmLe.refl _,fun b hb=>(by cases hb),fun k rest hm hl=>⟨.row T t [],by simp[fillO],.inl ⟨hl _ rfl,rfl⟩⟩⟩
  ·rename_i he; cases he
  ·cases h
 | some b=>
  unfold rdO at h
  split at h
  ·rename_i he; cases he
  ·rename_i o' b' he
   cases he
   split at h
   ·
    rename_i t cs hb
    split at h
    ·rename_i x hx
     cases h
     refine⟨NmLe.refl _,fun b2 hb2=>by cases hb2; exact⟨_,hb⟩,fun k rest hm hl=>⟨.box (cellsD t x),by simp[fillO],?_⟩⟩
     obtain⟨b',c,n,as,h1,h2,h3⟩:=hS.obj _ _ hb
     exact⟨b',c,n,as,hl _ h1,h2,CR_cells (decAll_CR hx h3)⟩
    ·cases h
   ·
    rename_i rs cs hb
    obtain⟨b',c,n,as,h1,h2,h3⟩:=hS.obj _ _ hb
    obtain⟨g1,g2⟩:=rdVs_fill (π2:=π2) (ρ:=ρ) rs h h3
    refine⟨g1,fun b2 hb2=>by cases hb2; exact⟨_,hb⟩,fun k rest hm hl=>?_⟩
    obtain⟨ds2,k1,k2⟩:=g2 rest hm
    exact⟨.box ds2,by simp[fillO,k1],b',c,n,as,hl _ h1,h2,k2⟩
   ·
    rename_i T t T' t' l' hb
    cases hc:(Nat.beq T T'&&decide (t=t'))with
    | false=>rw[hc]at h; cases h
    | true=>
     rw[hc]at h; cases h
     simp only[Bool.and_eq_true,beq_iff,decide_eq_true_eq]at hc
     obtain⟨rfl,rfl⟩:=hc
     refine⟨NmLe.refl _,fun b2 hb2=>by cases hb2; exact⟨_,hb⟩,fun k rest hm hl=>⟨.row T t l',by simp[fillO],?_⟩⟩
     rcases hS.obj _ _ hb with⟨q1,q2⟩ | ⟨b2,c2,xs,hp2,hcap,hs,hr⟩
     ·exact .inl ⟨hl _ q1,q2⟩
     ·exact .inr ⟨b2,c2,xs,hl _ hp2,hcap,hs,hr⟩
   ·
    rename_i kn ag t kn' ag' t' es hb
    cases hc:(Nat.beq kn kn'&&(decide (ag=ag')&&decide (t=t')))with
    | false=>rw[hc]at h; cases h
    | true=>
     rw[hc]at h; cases h
     simp only[Bool.and_eq_true,beq_iff,decide_eq_true_eq]at hc
     obtain⟨rfl,rfl,rfl⟩:=hc
     refine⟨NmLe.refl _,fun b2 hb2=>by cases hb2; exact⟨_,hb⟩,fun k rest hm hl=>⟨.imap kn ag t es none,by simp[fillO],?_⟩⟩
     obtain⟨b',c,n,es',h1,h2,h3⟩:=hS.obj _ _ hb
     exact⟨b',c,n,es',hl _ h1,h2,h3⟩
   ·cases h
  ·cases h
theorem rdOs_fill {Fr:Store}{S:DSt}{s':Store}(hS:RelS π Fr S s'):∀ (os:List (Nat×OSh)) {nm nm':Nm} {l:List Leaf},rdOs S os nm=some (l,nm') →
  NmLe nm nm'∧(∀ k o,(k,o)∈os→∃ x,fnd nm' k=some x∧∀ b,x=some b→∃ o,S.get b=some o) ∧
  ∀ rest,Mt π nm' π2 ρ→∃ xs,fillOs ρ os (l++rest)=some (xs,rest)∧∀ b o,(b,o)∈xs→ObR π2 s' b o
 | [],nm,nm',l,h=>by
  cases h
  exact⟨NmLe.refl _,fun k o hk=>by simp at hk,fun rest hm=>⟨[],by simp[fillOs],fun b o hb=>by simp at hb⟩⟩
 | (k,o)::os,nm,nm',l,h=>by
  simp only[rdOs]at h
  split at h
  ·rename_i x hx
   split at h
   ·rename_i l1 nm1 h1
    split at h
    ·rename_i l2 nm2 h2
     cases h
     obtain⟨g1,g2,g3⟩:=rdO_fill (π2:=π2) (ρ:=ρ) hS h1
     obtain⟨k1,k2,k3⟩:=rdOs_fill hS os h2
     refine⟨g1.trans k1,fun k' o' hk'=>?_,fun rest hm=>?_⟩
     ·rcases List.mem_cons.1 hk' with e | hk'
      ·cases e; exact⟨x,(g1.trans k1) _ _ hx,g2⟩
      ·exact k2 k' o' hk'
     ·obtain⟨o2,q1,q2⟩:=g3 k (l2++rest) (hm.le k1) (fun lc hl=>hm k x ((g1.trans k1) _ _ hx) lc hl)
      obtain⟨xs,q3,q4⟩:=k3 rest hm
      refine⟨(ρ k,o2)::xs,by simp only[fillOs,List.append_assoc,q1,q3],fun b o' hb=>?_⟩
      rcases List.mem_cons.1 hb with e | hb
      ·cases e; exact q2
      ·exact q4 b o' hb
    ·cases h
   ·cases h
  ·cases h
end
theorem RelVs_split {π:Pi}:∀ {ds ds':List DV} {as:List AV},RelVs π (ds++ds') as→∃ as1 as2,as=as1++as2∧RelVs π ds as1∧RelVs π ds' as2
 | [],ds',as,h=>⟨[],as,rfl,RelVs_nil,h⟩
 | d::ds,ds',as,h=>by
  simp only[List.cons_append,RelVs]at h
  obtain⟨a,as',rfl,g,h⟩:=h
  obtain⟨as1,as2,rfl,h1,h2⟩:=RelVs_split h
  exact⟨a::as1,as2,rfl,RelVs_cons g h1,h2⟩
section
variable {π1 π2:Pi} {ρ0 ρ:Nat→Nat}
theorem cellsD_any:∀ {t:Ty}{x:t.den}{as:List AV} ,RelVs π1 (cellsD t x) as→RelVs π2 (cellsD t x) as
 | .pair a b,x,as,h=>by
  simp only[cellsD]at h ⊢
  obtain⟨as1,as2,rfl,h1,h2⟩:=RelVs_split h
  exact RelVs_app (cellsD_any h1) (cellsD_any h2)
 | .es _,x,as,h=>by
  simp only[cellsD,RelVs]at h ⊢
  obtain⟨a,as',rfl,_,rfl⟩:=h
  exact⟨a,[],rfl,by simp only[RelV],rfl⟩
 | .int _,x,as,h | .bool,x,as,h | .str,x,as,h | .sl _,x,as,h | .opt _,x,as,h=>by
  simp only[cellsD,RelVs]at h ⊢
  obtain⟨a,as',rfl,g,rfl⟩:=h
  exact⟨a,[],rfl,by simp only[RelV]at g ⊢; exact g,rfl⟩
theorem fill_slo {ρ0:Nat→Nat}{k w:Nat}{l l':List Leaf}{d:DV}(h:fillV ρ0 (.slo k w) l=some (d,l')):∃ o m:Int,d = .slo (ρ0 k) w o.toNat m.toNat∧∀ ρ:Nat→Nat,fillV ρ (.slo k w) l=some (.slo (ρ k) w o.toNat m.toNat,l'):=by
 cases l with
 | nil=>simp[fillV]at h
 | cons x l=>
  cases l with
  | nil=>simp[fillV]at h
  | cons y l=>
   simp only[fillV]at h
   split at h
   ·rename_i o m h1 h2
    cases h
    exact⟨o,m,rfl,fun ρ=>by simp only[fillV,h1,h2]⟩
   ·cases h
mutual
theorem fillV_ren (hx:∀ k l,π1 (ρ0 k)=some l→π2 (ρ k)=some l):∀ (r:RSh) {l l':List Leaf} {d:DV} {a:AV},fillV ρ0 r l=some (d,l')→RelV π1 d a→∃ d2,fillV ρ r l=some (d2,l')∧RelV π2 d2 a
 | .v t,l,l',d,a,h,hr=>by
  cases l with
  | nil=>simp[fillV]at h
  | cons x l=>
   simp only[fillV]at h ⊢
   cases hc:decide (x.t=t)with
   | false=>rw[hc]at h; cases h
   | true=>
    rw[hc]at h
    cases h
    refine⟨_,rfl,?_⟩
    simp only[RelV]at hr ⊢; exact hr
 | .st t,l,l',d,a,h,hr=>by
  cases l with
  | nil=>simp[fillV]at h
  | cons x l=>
   simp only[fillV]at h ⊢
   cases hc:decide (x.t=t)with
   | false=>rw[hc]at h; cases h
   | true=>
    rw[hc]at h
    cases h
    refine⟨_,rfl,?_⟩
    simp only[RelV]at hr ⊢
    obtain⟨as,rfl,hr⟩:=hr
    exact⟨as,rfl,cellsD_any hr⟩
 | .elm t,l,l',d,a,h,hr=>by
  cases l with
  | nil=>simp[fillV]at h
  | cons x l=>
   simp only[fillV]at h ⊢
   cases hc:decide (x.t=t)with
   | false=>rw[hc]at h; cases h
   | true=>
    rw[hc]at h
    cases h
    refine⟨_,rfl,?_⟩
    simp only[RelV]at hr ⊢
    obtain⟨as,rfl,hr⟩:=hr
    exact⟨as,rfl,cellsD_any hr⟩
 | .ptr k o,l,l',d,a,h,hr=>by
  simp only[fillV]at h ⊢
  cases h
  simp only[RelV]at hr
  obtain⟨b',c,n,hp,rfl⟩:=hr
  exact⟨_,rfl,by simp only[RelV]; exact⟨b',c,n,hx _ _ hp,rfl⟩⟩
 | .slc k,l,l',d,a,h,hr=>by
  simp only[fillV]at h ⊢
  cases h
  refine⟨_,rfl,?_⟩
  simp only[RelV]at hr ⊢
  rcases hr with⟨b',c,n,hp,rfl⟩ | ⟨hp,rfl⟩
  ·exact .inl ⟨b',c,n,hx _ _ hp,rfl⟩
  ·exact .inr ⟨hx _ _ hp,rfl⟩
 | .slo k w,l,l',d,a,h,hr=>by
  obtain⟨o,m,rfl,hf⟩:=fill_slo h
  simp only[RelV]at hr
  obtain⟨b',c,n,hp,hle,rfl⟩:=hr
  exact⟨.slo (ρ k) w (Int.toNat o) (Int.toNat m),hf ρ,by simp only[RelV]; exact⟨b',c,n,hx _ _ hp,hle,rfl⟩⟩
 | .aptr k w,l,l',d,a,h,hr=>by
  simp only[fillV]at h ⊢
  cases h
  simp only[RelV]at hr
  obtain⟨b',c,n,hp,hle,rfl⟩:=hr
  exact⟨_,rfl,by simp only[RelV]; exact⟨b',c,n,hx _ _ hp,hle,rfl⟩⟩
 | .mp k,l,l',d,a,h,hr=>by
  simp only[fillV]at h ⊢
  cases h
  simp only[RelV]at hr
  obtain⟨b',c,n,hp,rfl⟩:=hr
  exact⟨_,rfl,by simp only[RelV]; exact⟨b',c,n,hx _ _ hp,rfl⟩⟩
 | .nilp,l,l',d,a,h,hr=>by
  simp only[fillV]at h ⊢
  cases h
  exact⟨_,rfl,by simp only[RelV]at hr ⊢; exact hr⟩
 | .nilm,l,l',d,a,h,hr=>by
  simp only[fillV]at h ⊢
  cases h
  exact⟨_,rfl,by simp only[RelV]at hr ⊢; exact hr⟩
 | .emp,l,l',d,a,h,hr=>by
  simp only[fillV]at h ⊢
  cases h
  exact⟨_,rfl,by simp only[RelV]at hr ⊢; exact hr⟩
 | .any,l,l',d,a,h,hr=>by
  simp only[fillV]at h ⊢
  cases h
  exact⟨_,rfl,by simp only[RelV]⟩
 | .agg rs,l,l',d,a,h,hr=>by
  simp only[fillV]at h ⊢
  split at h
  ·rename_i ds l1 h1
   cases h
   simp only[RelV]at hr
   obtain⟨as,rfl,hr⟩:=hr
   obtain⟨ds2,k1,k2⟩:=fillVs_ren hx rs h1 hr
   exact⟨.agg ds2,by rw[k1],by simp only[RelV]; exact⟨as,rfl,k2⟩⟩
  ·cases h
 | .tup rs,l,l',d,a,h,hr=>by
  simp only[fillV]at h ⊢
  split at h
  ·rename_i ds l1 h1
   cases h
   simp only[RelV]at hr
   obtain⟨as,rfl,hr⟩:=hr
   obtain⟨ds2,k1,k2⟩:=fillVs_ren hx rs h1 hr
   exact⟨.tup ds2,by rw[k1],by simp only[RelV]; exact⟨as,rfl,k2⟩⟩
  ·cases h
 | .fn f rs,l,l',d,a,h,hr=>by
  simp only[fillV]at h ⊢
  split at h
  ·rename_i ds l1 h1
   cases h
   simp only[RelV]at hr
   obtain⟨as,rfl,hr⟩:=hr
   obtain⟨ds2,k1,k2⟩:=fillVs_ren hx rs h1 hr
   exact⟨.fn f ds2,by rw[k1],by simp only[RelV]; exact⟨as,rfl,k2⟩⟩
  ·cases h
theorem fillVs_ren (hx:∀ k l,π1 (ρ0 k)=some l→π2 (ρ k)=some l):∀ (rs:List RSh) {l l':List Leaf} {ds:List DV} {as:List AV},fillVs ρ0 rs l=some (ds,l')→RelVs π1 ds as→∃ ds2,fillVs ρ rs l=some (ds2,l')∧RelVs π2 ds2 as
 | [],l,l',ds,as,h,hr=>by
  simp only[fillVs]at h ⊢
  cases h
  simp only[RelVs]at hr; subst hr
  exact⟨[],rfl,RelVs_nil⟩
 | r::rs,l,l',ds,as,h,hr=>by
  simp only[fillVs]at h ⊢
  split at h
  ·rename_i d l1 h1
   split at h
   ·rename_i ds1 l2 h2
    cases h
    simp only[RelVs]at hr
    obtain⟨a,as',rfl,hr1,hr2⟩:=hr
    obtain⟨d2,k1,k2⟩:=fillV_ren hx r h1 hr1
    obtain⟨ds2,k3,k4⟩:=fillVs_ren hx rs h2 hr2
    exact⟨d2::ds2,by simp only[k1,k3],RelVs_cons k2 k4⟩
   ·cases h
  ·cases h
end
theorem fillO_ren (hx:∀ k l,π1 (ρ0 k)=some l→π2 (ρ k)=some l){s':Store}{o:OSh}{k:Nat}{l l':List Leaf}{x:DObj}(h:fillO ρ0 o l=some (x,l'))(hr:ObR π1 s' (ρ0 k) x):
  ∃ x2,fillO ρ o l=some (x2,l')∧ObR π2 s' (ρ k) x2:=by
 cases o with
 | boxT t=>
  cases l with
  | nil=>simp[fillO]at h
  | cons y l=>
   simp only[fillO]at h ⊢
   cases hc:decide (y.t=t)with
   | false=>rw[hc]at h; cases h
   | true=>
    rw[hc]at h
    cases h
    obtain⟨b',c,n,as,h1,h2,h3⟩:=hr
    exact⟨_,rfl,b',c,n,as,hx _ _ h1,h2,cellsD_any h3⟩
 | box rs=>
  simp only[fillO]at h ⊢
  split at h
  ·rename_i ds l1 h1
   cases h
   obtain⟨b',c,n,as,g1,g2,g3⟩:=hr
   obtain⟨ds2,k1,k2⟩:=fillVs_ren hx rs h1 g3
   exact⟨.box ds2,by rw[k1],b',c,n,as,hx _ _ g1,g2,k2⟩
  ·cases h
 | row T t=>
  unfold fillO at h ⊢
  split at h
  ·rename_i he; cases he
  ·rename_i he; cases he
  ·rename_i t' y l1 he
   cases he
   cases hc:decide (t'=t)with
   | false=>rw[hc]at h; cases h
   | true=>
    rw[hc]at h
    cases h
    refine⟨.row T t' y,by simp only[hc,cond_true],?_⟩
    rcases hr with⟨q1,q2⟩ | ⟨b2,c2,xs,hp2,hcap,hs,hr⟩
    ·exact .inl ⟨hx _ _ q1,q2⟩
    ·exact .inr ⟨b2,c2,xs,hx _ _ hp2,hcap,hs,hr⟩
  ·rename_i he; cases he
  ·cases h
 | imap kn ag t=>
  unfold fillO at h ⊢
  split at h
  ·rename_i he; cases he
  ·rename_i he; cases he
  ·rename_i he; cases he
  ·rename_i t' y l1 he
   cases he
   cases hc:decide (t'=t)with
   | false=>rw[hc]at h; cases h
   | true=>
    rw[hc]at h
    cases h
    refine⟨.imap kn ag t' y none,by simp only[hc,cond_true],?_⟩
    obtain⟨b',c,n,es',h1,h2,h3⟩:=hr
    exact⟨b',c,n,es',hx _ _ h1,h2,h3⟩
  ·cases h
theorem fillOs_ren (hx:∀ k l,π1 (ρ0 k)=some l→π2 (ρ k)=some l){s':Store}:∀ (os:List (Nat×OSh)) {l l':List Leaf} {xs:List (Nat×DObj)},fillOs ρ0 os l=some (xs,l')→(∀ b o,(b,o)∈xs→ObR π1 s' b o) →
  ∃ xs2,fillOs ρ os l=some (xs2,l')∧∀ b2 o2,(b2,o2)∈xs2→∃ k o,b2=ρ k∧(ρ0 k,o)∈xs∧ObR π2 s' b2 o2
 | [],l,l',xs,h,hr=>by
  simp only[fillOs]at h ⊢
  cases h
  exact⟨[],rfl,fun b o hb=>by simp at hb⟩
 | (k,o)::os,l,l',xs,h,hr=>by
  simp only[fillOs]at h ⊢
  split at h
  ·rename_i x l1 h1
   split at h
   ·rename_i xs1 l2 h2
    cases h
    obtain⟨x2,g1,g2⟩:=fillO_ren (k:=k) hx h1 (hr _ _ (by simp))
    obtain⟨xs2,g3,g4⟩:=fillOs_ren hx os h2 (fun b o hb=>hr b o (by simp[hb]))
    refine⟨(ρ k,x2)::xs2,by simp only[g1,g3],fun b2 o2 hb=>?_⟩
    rcases List.mem_cons.1 hb with e | hb
    ·cases e; exact⟨k,x,rfl,by simp,g2⟩
    ·obtain⟨k',o',q1,q2,q3⟩:=g4 b2 o2 hb
     exact⟨k',o',q1,by simp[q2],q3⟩
   ·cases h
  ·cases h
end
end Go.Proofs.YtdacabdocbhkdaaGreat.D

set_option linter.unusedVariables false
set_option linter.unusedSimpArgs false
namespace Go.Proofs.YtdacabdocbhkdaaGreat.D
open Go Go.Proofs.YtdacabdocbhkdaaGreat.L
theorem fnd_mem {α:Type}:∀ {l:List (Nat×α)} {b:Nat} {o:α},fnd l b=some o→(b,o)∈l
 | [],b,o,h=>by simp[fnd]at h
 | (c,p)::l,b,o,h=>by
  simp only[fnd]at h
  by_cases e:c=b
  ·subst e; simp at h; subst h; simp
  ·simp only[beq_ne e,cond_false]at h; simp[fnd_mem h]
theorem mem_fnd {α:Type}:∀ {l:List (Nat×α)} {b:Nat} {o:α},(b,o)∈l→∃ o',fnd l b=some o'
 | (c,p)::l,b,o,h=>by
  by_cases e:c=b
  ·subst e; exact⟨p,by simp[fnd]⟩
  ·rcases List.mem_cons.1 h with h | h
   ·cases h; exact absurd rfl e
   ·obtain⟨o',ho⟩:=mem_fnd h; exact⟨o',by simp only[fnd,beq_ne e,cond_false]; exact ho⟩
theorem any_mem {l:List Nat}{b:Nat}:l.any (Nat.beq b)=true↔b∈l:=by
 rw[List.any_eq_true]
 constructor
 ·rintro⟨x,hx,h⟩; rw[beq_iff.1 h]; exact hx
 ·exact fun h=>⟨b,h,Nat.beq_refl b⟩
theorem mem_names:∀ {nm:Nm}{b:Nat} ,b∈nmNames nm↔∃ k,(k,some b)∈nm
 | [],b=>by simp[nmNames]
 | (k,none)::nm,b=>by
  simp only[nmNames,mem_names (nm:=nm),List.mem_cons,Prod.mk.injEq,reduceCtorEq,and_false,false_or]
 | (k,some c)::nm,b=>by
  simp only[nmNames,List.mem_cons,mem_names (nm:=nm),Prod.mk.injEq,Option.some.injEq]
  constructor
  ·rintro(rfl | ⟨k',h⟩)
   ·exact⟨k,.inl ⟨rfl,rfl⟩⟩
   ·exact⟨k',.inr h⟩
  ·rintro⟨k',⟨rfl,rfl⟩ | h⟩
   ·exact .inl rfl
   ·exact .inr ⟨k',h⟩
theorem fnd_names {nm:Nm}{k b:Nat}(h:fnd nm k=some (some b)):b∈nmNames nm:=mem_names.2 ⟨k,fnd_mem h⟩
theorem noDup_cons {b:Nat}{l:List Nat}(h:noDup (b::l)=true):b∉l∧noDup l=true:=by
 simp only[noDup,Bool.and_eq_true,Bool.not_eq_true']at h
 refine⟨fun hb=>?_,h.2⟩
 rw[any_mem.2 hb]at h
 cases h.1
theorem names_inj:∀ {nm:Nm}{k1 k2 b:Nat} ,noDup (nmNames nm)=true→(k1,some b)∈nm→(k2,some b)∈nm→k1=k2
 | (k,none)::nm,k1,k2,b,h,h1,h2=>by
  simp only[List.mem_cons,Prod.mk.injEq,reduceCtorEq,and_false,false_or]at h1 h2
  exact names_inj (nm:=nm) h h1 h2
 | (k,some c)::nm,k1,k2,b,h,h1,h2=>by
  obtain⟨g1,g2⟩:=noDup_cons (b:=c) (l:=nmNames nm) h
  simp only[List.mem_cons,Prod.mk.injEq,Option.some.injEq]at h1 h2
  rcases h1 with⟨rfl,rfl⟩ | h1 <;> rcases h2 with⟨rfl,e2⟩ | h2
  ·rfl
  ·exact absurd (mem_names.2 ⟨_,h2⟩) g1
  ·subst e2; exact absurd (mem_names.2 ⟨_,h1⟩) g1
  ·exact names_inj g2 h1 h2
theorem names_fnd {α:Type}:∀ {nm:List (Nat×α)} {k:Nat} {x:α},noDup (nm.map (·.1))=true→(k,x)∈nm→fnd nm k=some x
 | (k',y)::nm,k,x,h,hm=>by
  have h':noDup (k'::nm.map (·.1))=true:=h
  obtain⟨g1,g2⟩:=noDup_cons h'
  rcases List.mem_cons.1 hm with e | hm
  ·cases e; simp[fnd]
  ·have:k'≠k:=fun e=>by subst e; exact g1 (List.mem_map.2 ⟨_,hm,rfl⟩)
   simp only[fnd,beq_ne this,cond_false]
   exact names_fnd g2 hm
theorem keysIn_mem {os:List (Nat×OSh)}:∀ {nm:Nm} {k:Nat} {x:Option Nat},keysIn os nm=true→fnd nm k=some x→∃ o,(k,o)∈os
 | (k',y)::nm,k,x,h,hf=>by
  simp only[keysIn,Bool.and_eq_true]at h
  by_cases e:k'=k
  ·subst e
   obtain⟨⟨k2,o⟩,h1,h2⟩:=List.any_eq_true.1 h.1
   obtain rfl:=beq_iff.1 h2
   exact⟨o,h1⟩
  ·simp only[fnd,beq_ne e,cond_false]at hf
   exact keysIn_mem h.2 hf
theorem boundB_mem {q:Nat}:∀ {os:List (Nat×OSh)} {k:Nat} {o:OSh},boundB q os=true→(k,o)∈os→k < q
 | (k',o')::os,k,o,h,hm=>by
  simp only[boundB,Bool.and_eq_true]at h
  rcases List.mem_cons.1 hm with e | hm
  ·cases e; have h1:=h.1; simp[Nat.blt,Nat.ble_eq]at h1; omega
  ·exact boundB_mem h.2 hm
def piOf (π:Pi)(nm:Nm):Pi:=fun k=>match fnd nm k with
 | some x=>locOf π x
 | none=>none
theorem piOf_some {π:Pi}{nm:Nm}{k:Nat}{b' c n:Nat}(h:piOf π nm k=some (.real b' c n)):∃ b,fnd nm k=some (some b)∧π b=some (.real b' c n):=by
 unfold piOf at h
 split at h
 ·rename_i x hx
  cases x with
  | none=>simp[locOf]at h
  | some b=>exact⟨b,hx,h⟩
 ·cases h
section
variable {π:Pi} {Fr:Store} {S:DSt} {s':Store}
theorem canon (hS:RelS π Fr S s'){sh:StSh}{q:Nat}{ds:List DV}{nm0 nm:Nm}{l:List Leaf}{as:List AV}(h:rdSt none S sh q ds nm0=some (l,nm))(hr:RelVs π ds as){Fr1:Store}
  (f1:∀ b' x,Fr1 b'=some x→s' b'=some x) (f2:∀ k b b' c n,fnd nm k=some (some b)→π b=some (.real b' c n)→Fr1 b'=none) :
  NmLe nm0 nm∧noDup (nmNames nm)=true∧noDup (sh.objs.map (·.1))=true∧(∀ k b,fnd nm k=some (some b)→∃ o,S.get b=some o) ∧
  ∃ ds0 os0,fillSt (fun k=>k) sh l=some (ds0,os0)∧RelVs (piOf π nm) ds0 as∧RelS (piOf π nm) Fr1 ⟨q,os0⟩ s':=by
 unfold rdSt at h
 split at h
 ·rename_i l1 nm1 h1
  split at h
  ·rename_i l2 nm2 h2
   cases hc:(noDup (nmNames nm2)&&(noDup (nm2.map (·.1))&&(keysIn sh.objs nm2&&(boundB q sh.objs&&noDup (sh.objs.map (·.1))))))with
   | false=>rw[hc]at h; cases h
   | true=>
    rw[hc]at h
    cases h
    simp only[Bool.and_eq_true]at hc
    obtain⟨c1,c2,c3,c4,c5⟩:=hc
    obtain⟨g1,g2⟩:=rdVs_fill (π2:=piOf π nm) (ρ:=fun k=>k) sh.vals h1 hr
    obtain⟨g3,g4,g5⟩:=rdOs_fill (π2:=piOf π nm) (ρ:=fun k=>k) hS sh.objs h2
    have hM:Mt π nm (piOf π nm) (fun k=>k):=fun k x hx lc hl=>by simp only[piOf,hx,hl]
    obtain⟨ds0,k1,k2⟩:=g2 (l2++[]) (hM.le g3)
    obtain⟨os0,k3,k4⟩:=g5 [] hM
    have live:∀ k b,fnd nm k=some (some b)→∃ o,S.get b=some o:=fun k b hk=>by
     obtain⟨o,ho⟩:=keysIn_mem c3 hk
     obtain⟨x,hx,hb⟩:=g4 k o ho
     rw[hk]at hx; cases hx
     exact hb b rfl
    refine⟨g1.trans g3,c1,c5,live,ds0,os0,?_,k2,?_⟩
    ·simp only[List.append_nil]at k1 k3
     simp only[fillSt,k1,k3]
    ·refine⟨fun b o hb=>k4 b o (fnd_mem hb),fun b1 b2 o1 o2 b' c1' n1 c2' n2 h1 h2 p1 p2=>?_,f1,fun b o b' c n hb hp=>?_,fun b hb=>?_⟩
     ·obtain⟨d1,q1,q2⟩:=piOf_some p1
      obtain⟨d2,q3,q4⟩:=piOf_some p2
      obtain⟨o3,h3⟩:=live _ _ q1
      obtain⟨o4,h4⟩:=live _ _ q3
      have:=hS.inj _ _ _ _ _ _ _ _ _ h3 h4 q2 q4
      subst this
      exact names_inj c1 (fnd_mem q1) (fnd_mem q3)
     ·obtain⟨d1,q1,q2⟩:=piOf_some hp
      exact f2 _ _ _ _ _ q1 q2
     ·have hb:q≤b:=hb
      unfold piOf
      cases hf:fnd nm b with
      | none=>rfl
      | some x=>
       obtain⟨o,ho⟩:=keysIn_mem c3 hf
       have:=boundB_mem c4 ho
       omega
  ·cases h
 ·cases h
open Classical in
noncomputable def frOf (π:Pi)(nm:Nm)(s':Store):Store:=fun b'=>if ∃ k b c n,fnd nm k=some (some b)∧π b=some (.real b' c n)then none else s' b'
theorem frOf_le {nm:Nm}{b':Nat}{x:AObj}(h:frOf π nm s' b'=some x):s' b'=some x:=by
 unfold frOf at h
 split at h
 ·cases h
 ·exact h
theorem frOf_none {nm:Nm}{k b b' c n:Nat}(h:fnd nm k=some (some b))(hp:π b=some (.real b' c n)):frOf π nm s' b'=none:=by
 unfold frOf
 rw[if_pos ⟨k,b,c,n,h,hp⟩]
theorem frOf_old (hS:RelS π Fr S s'){nm:Nm}(live:∀ k b,fnd nm k=some (some b)→∃ o,S.get b=some o){b b' c n:Nat}{o:DObj}(hb:S.get b=some o)(hn:b∉nmNames nm)(hp:π b=some (.real b' c n)):frOf π nm s' b'=s' b':=by
 unfold frOf
 rw[if_neg]
 rintro⟨k,b2,c2,n2,h1,h2⟩
 obtain⟨o2,ho2⟩:=live _ _ h1
 have:=hS.inj _ _ _ _ _ _ _ _ _ hb ho2 hp h2
 subst this
 exact hn (fnd_names h1)
theorem frOf_fr (hS:RelS π Fr S s'){nm:Nm}(live:∀ k b,fnd nm k=some (some b)→∃ o,S.get b=some o){b':Nat}{x:AObj}(h:Fr b'=some x):frOf π nm s' b'=some x:=by
 unfold frOf
 rw[if_neg,hS.frm _ _ h]
 rintro⟨k,b2,c2,n2,h1,h2⟩
 obtain⟨o2,ho2⟩:=live _ _ h1
 rw[hS.out _ _ _ _ _ ho2 h2]at h; cases h
theorem delAll_get:∀ (L:List Nat)(S:DSt)(b:Nat) ,(delAll S L).get b=if b∈L then none else S.get b
 | [],S,b=>by simp[delAll]
 | c::L,S,b=>by
  simp only[delAll,delAll_get L,DSt.get_del,List.mem_cons]
  by_cases h1:b=c <;> by_cases h2:b∈L <;> simp[h1,h2]
theorem repAll_inv:∀ (os:List (Nat×DObj)){m:List (Nat×DObj)}{b:Nat}{o:DObj} ,fnd (repAll m os) b=some o→(b,o)∈os∨fnd m b=some o
 | [],m,b,o,h=>.inr h
 | (c,p)::os,m,b,o,h=>by
  rcases repAll_inv os h with h | h
  ·exact .inl (by simp[h])
  ·rw[fnd_rep]at h
   by_cases e:b=c
   ·rw[if_pos e]at h; cases h; exact .inl (by simp[e])
   ·rw[if_neg e]at h; exact .inr h
theorem repAll_some:∀ (os:List (Nat×DObj)){m:List (Nat×DObj)}{b:Nat}{o:DObj} ,fnd m b=some o→∃ o',fnd (repAll m os) b=some o'
 | [],m,b,o,h=>⟨o,h⟩
 | (c,p)::os,m,b,o,h=>by
  have:∃ o1,fnd (rep m c p) b=some o1:=by
   rw[fnd_rep]
   split
   ·exact⟨_,rfl⟩
   ·exact⟨_,h⟩
  obtain⟨o1,h1⟩:=this
  exact repAll_some os h1
theorem fillOs_keys {ρ:Nat→Nat}:∀ {os:List (Nat×OSh)} {l l':List Leaf} {xs:List (Nat×DObj)},fillOs ρ os l=some (xs,l')→xs.map (·.1)=os.map fun x=>ρ x.1
 | [],l,l',xs,h=>by cases h; rfl
 | (k,o)::os,l,l',xs,h=>by
  simp only[fillOs]at h
  split at h
  ·split at h
   ·rename_i hx; cases h; simp[fillOs_keys hx]
   ·cases h
  ·cases h
theorem after_sound (hS:RelS π Fr S s'){nm:Nm}(live:∀ k b,fnd nm k=some (some b)→∃ o,S.get b=some o){π1:Pi}{s1:Store}{o:OutSh}{l:List Leaf}{ds:List DV}{os:List (Nat×DObj)}{as:List AV}
  (hf:fillSt (fun k=>k) o.st l=some (ds,os)) (hnd:noDup (o.st.objs.map (·.1))=true) (hr:RelVs π1 ds as) (h1:RelS π1 (frOf π nm s') ⟨o.q,os⟩ s1) (hid:∀ k,o.ids.any (Nat.beq k)=true→∀ b,fnd nm k=some (some b)→π1 k=π b) :
  ∃ ds2 S2 π2,afterD S nm o l=some (ds2,S2)∧Ext π π2∧RelVs π2 ds2 as∧RelS π2 Fr S2 s1 ∧
   (∀ b o,S.get b=some o→b∉nmNames nm→∃ o',S2.get b=some o')∧(∀ b o b' c n,S.get b=some o→b∉nmNames nm→π b=some (.real b' c n)→s1 b'=s' b'):=by
 let π2:Pi:=fun b=>if b < S.nx then π b else π1 (b-S.nx)
 have lt:∀ b l,π b=some l→b < S.nx:=fun b l hb=>by
  rcases Nat.lt_or_ge b S.nx with h | h
  ·exact h
  ·rw[hS.nx b h]at hb; cases hb
 have hx:Ext π π2:=fun b l hb=>by show(if b < S.nx then π b else _)=_; rw[if_pos (lt _ _ hb)]; exact hb
 have hx1:∀ k l,π1 k=some l→π2 (outN S.nx nm o.ids k)=some l:=fun k l hk=>by
  have other:π2 (S.nx+k)=some l:=by
   show(if S.nx+k < S.nx then π _ else π1 (S.nx+k-S.nx))=_
   rw[if_neg (by omega),Nat.add_sub_cancel_left]; exact hk
  unfold outN
  split
  ·rename_i b ha hb
   rw[hid k ha b hb]at hk
   exact hx _ _ hk
  ·exact other
 unfold fillSt at hf
 split at hf
 ·rename_i ds1 l1 hv
  split at hf
  ·rename_i os1 ho
   cases hf
   obtain⟨ds2,g1,g2⟩:=fillVs_ren (ρ0:=fun k=>k) hx1 o.st.vals hv hr
   have hkeys:noDup (os.map (·.1))=true:=by rw[fillOs_keys ho]; exact hnd
   have hO:∀ b x,(b,x)∈os→ObR π1 s1 b x:=fun b x hb=>h1.obj b x (names_fnd hkeys hb)
   obtain⟨os2,g3,g4⟩:=fillOs_ren (ρ0:=fun k=>k) hx1 o.st.objs ho hO
   refine⟨ds2,⟨S.nx+o.q,repAll (delAll S (nmNames nm)).m os2⟩,π2,?_,hx,g2,?_,?_,?_⟩
   ·simp only[afterD,fillSt,g1,g3]
   ·have inv:∀ b x,fnd (repAll (delAll S (nmNames nm)).m os2) b=some x→(∃ k y,b=outN S.nx nm o.ids k∧(k,y)∈os∧ObR π2 s1 b x)∨(S.get b=some x∧b∉nmNames nm):=fun b x hb=>by
     rcases repAll_inv os2 hb with h | h
     ·obtain⟨k,y,q1,q2,q3⟩:=g4 b x h; exact .inl ⟨k,y,q1,q2,q3⟩
     ·have h:(delAll S (nmNames nm)).get b=some x:=h
      rw[delAll_get]at h
      split at h
      ·cases h
      ·rename_i hn; exact .inr ⟨h,hn⟩
    have old:∀ b x b' c n,S.get b=some x→b∉nmNames nm→π b=some (.real b' c n)→s1 b'=s' b':=fun b x b' c n hb hn hp=>by
     have e:=frOf_old hS live hb hn hp
     cases hs:s' b' with
     | none=>exact absurd hs ((hS.obj _ _ hb).some' hp)
     | some z=>rw[hs]at e; exact h1.frm _ _ e
    have p2:∀ b x b' c n,S.get b=some x→π2 b=some (.real b' c n)→π b=some (.real b' c n):=fun b x b' c n hb hp=>by
     obtain⟨lc,hl⟩:=(hS.obj _ _ hb).loc
     have:=hx _ _ hl
     rw[hp]at this; cases this; exact hl
    have p1:∀ k y b' c n,(k,y)∈os→π2 (outN S.nx nm o.ids k)=some (.real b' c n)→π1 k=some (.real b' c n):=fun k y b' c n hk hp=>by
     obtain⟨lc,hl⟩:=(hO _ _ hk).loc
     have:=hx1 _ _ hl
     rw[hp]at this; cases this; exact hl
    refine⟨fun b x hb=>?_,fun b1 b2 x1 x2 b' c1 n1 c2 n2 hb1 hb2 hp1 hp2=>?_,fun b' x h=>h1.frm _ _ (frOf_fr hS live h),fun b x b' c n hb hp=>?_,fun b hb=>?_⟩
    ·rcases inv b x hb with⟨k,y,_,_,h⟩ | ⟨h,hn⟩
     ·exact h
     ·exact(hS.obj _ _ h).mono hx fun b' c n hp=>old b x b' c n h hn hp
    ·rcases inv _ _ hb1 with⟨k1,y1,rfl,m1,_⟩ | ⟨q1,q2⟩ <;> rcases inv _ _ hb2 with⟨k2,y2,rfl,m2,_⟩ | ⟨q3,q4⟩
     ·rw[h1.inj k1 k2 y1 y2 b' c1 n1 c2 n2 (names_fnd hkeys m1) (names_fnd hkeys m2) (p1 _ _ _ _ _ m1 hp1) (p1 _ _ _ _ _ m2 hp2)]
     ·have e1:=h1.out k1 y1 b' c1 n1 (names_fnd hkeys m1) (p1 _ _ _ _ _ m1 hp1)
      have e2:=p2 _ _ _ _ _ q3 hp2
      rw[frOf_old hS live q3 q4 e2]at e1
      exact absurd e1 ((hS.obj _ _ q3).some' e2)
     ·have e1:=h1.out k2 y2 b' c2 n2 (names_fnd hkeys m2) (p1 _ _ _ _ _ m2 hp2)
      have e2:=p2 _ _ _ _ _ q1 hp1
      rw[frOf_old hS live q1 q2 e2]at e1
      exact absurd e1 ((hS.obj _ _ q1).some' e2)
     ·exact hS.inj _ _ _ _ _ _ _ _ _ q1 q3 (p2 _ _ _ _ _ q1 hp1) (p2 _ _ _ _ _ q3 hp2)
    ·rcases inv _ _ hb with⟨k,y,rfl,m1,_⟩ | ⟨h,hn⟩
     ·have e1:=h1.out k y b' c n (names_fnd hkeys m1) (p1 _ _ _ _ _ m1 hp)
      cases hfr:Fr b' with
      | none=>rfl
      | some z=>rw[frOf_fr hS live hfr]at e1; cases e1
     ·exact hS.out _ _ _ _ _ h (p2 _ _ _ _ _ h hp)
    ·have hb:S.nx+o.q≤b:=hb
     show(if b < S.nx then π b else π1 (b-S.nx))=none
     rw[if_neg (by omega)]
     exact h1.nx _ (by show o.q≤b-S.nx; omega)
   ·intro b x hb hn
    have:(delAll S (nmNames nm)).get b=some x:=by rw[delAll_get,if_neg hn]; exact hb
    exact repAll_some os2 this
   ·intro b x b' c n hb hn hp
    have e:=frOf_old hS live hb hn hp
    cases hs:s' b' with
    | none=>exact absurd hs ((hS.obj _ _ hb).some' hp)
    | some z=>rw[hs]at e; exact h1.frm _ _ e
  ·cases hf
 ·cases hf
end
end Go.Proofs.YtdacabdocbhkdaaGreat.D

set_option linter.unusedVariables false
set_option linter.unusedSimpArgs false
namespace Go.Proofs.YtdacabdocbhkdaaGreat.D
open Go Go.Proofs.YtdacabdocbhkdaaGreat.L
def In (π:Pi)(Fr:Store)(sh:FSh)(x:dens sh.ts)(as:List AV)(s':Store):Prop:=
 ∃ ds os,fillSt (fun k=>k) sh.ins (ofDens sh.ts x)=some (ds,os)∧RelVs π ds as∧RelS π Fr ⟨sh.m,os⟩ s'
def Out (π π1:Pi)(Fr:Store)(o:OutSh)(r:dens o.ts)(v:AV)(s1:Store):Prop:=
 ∃ d os,fillSt (fun k=>k) o.st (ofDens o.ts r)=some ([d],os)∧noDup (o.st.objs.map (·.1))=true∧RelV π1 d v∧RelS π1 Fr ⟨o.q,os⟩ s1∧∀ k,o.ids.any (Nat.beq k)=true→π1 k=π k
def DC (P:Program)(f:FuncId)(sh:FSh)(F:dens sh.ts→Option (dens sh.out.ts)):Prop:=
 CallR P f∧∀ x r,F x=some r→∀ π Fr as s',In π Fr sh x as s'→AC P f as s' (fun v s1=>∃ π1,Out π π1 Fr sh.out r v s1)
def es0:Store:=fun _=>none
def joinS (s s2:Store):Store:=fun b=>match s2 b with
 | some x=>some x
 | none=>s b
theorem own_es0:own es0=fun _=>False:=by funext b; simp[own,es0]
theorem AC_view {P:Program}{f:FuncId}{as asv:List AV}{s:Store}{Q:AV→Store→Prop}(h:AC P f asv es0 Q)(hv:∀ w vs,St s w→RVs (own s) w as vs→RVs (fun _=>False) w asv vs)
  (g1:∀ r s2,Q r s2→∀ o o' w v,RV o w r v→RV o' w r v) (g2:∀ r s2,Q r s2→∀ b x,s2 b=some x→∀ o o' w,ObjR o w b x→ObjR o' w b x):AC P f as s (fun r s1=>∃ s2,Q r s2∧s1=joinS s s2∧∀ b x,s2 b=some x→s b=none):=by
 refine⟨h.1,fun vs w hs ha=>?_⟩
 refine(h.2 vs w (fun b x hb=>by cases hb) (by rw[own_es0]; exact hv w vs hs ha)).mono ?_
 rintro en w' ⟨v,r,s2,rfl,hQ,hs2,hr,hm⟩
 have hno:∀ b,¬ own es0 b:=fun b hb=>hb rfl
 have grow:∀ b,own (joinS s s2) b→own s b∨w.heap.size≤b:=fun b hb=>by
  cases hc:s2 b with
  | some x=>
   rcases hm.grow b (by unfold own; rw[hc]; simp)with h | h
   ·exact absurd h (hno b)
   ·exact .inr h
  | none=>left; unfold own joinS at hb; rw[hc]at hb; exact hb
 have hmv:Mv (own s) (own (joinS s s2)) w w':=⟨hm.os,hm.tape,hm.output,hm.size,fun b hb _=>hm.block b hb (hno b),grow⟩
 have hnew:∀ b x,s2 b=some x→s b=none:=fun b x hb=>by
  cases hc:s b with
  | none=>rfl
  | some y=>
   have h1:=(hs b y hc).lt
   rcases hm.grow b (by unfold own; rw[hb]; simp)with h | h
   ·exact absurd h (hno b)
   ·omega
 refine⟨v,r,joinS s s2,rfl,⟨s2,hQ,rfl,hnew⟩,fun b x hb=>?_,g1 r s2 hQ _ _ _ _ hr,hmv⟩
 unfold joinS at hb
 cases hc:s2 b with
 | some y=>rw[hc]at hb; cases hb; exact g2 r s2 hQ b _ hc _ _ _ (hs2 b _ hc)
 | none=>
  rw[hc]at hb
  exact(hs b x hb).mv hmv (hm.block b (hs b x hb).lt (hno b))
theorem AC_sub {P:Program}{f:FuncId}{as:List AV}{s:Store}{Q Q':AV→Store→Prop}(h:AC P f as s Q)(hq:∀ r s1,Q r s1→∃ s2,Sub s2 s1∧Q' r s2):AC P f as s Q':=by
 refine⟨h.1,fun vs w hs hv=>(h.2 vs w hs hv).mono ?_⟩
 rintro en w' ⟨v,r,s1,h1,h2,h3,h4,h5⟩
 obtain⟨s2,g1,g2⟩:=hq r s1 h2
 have hm:=Mv.less (fun b (hb:own s2 b)=>g1.own hb) w'
 exact⟨v,r,s2,h1,g2,g1.st h3,h4.mv hm,h5.trans hm⟩
section
variable {π:Pi} {Fr:Store} {S:DSt} {s':Store}
def SV (s':Store)(a av:AV):Prop:=∀ w v,St s' w→RV (own s') w a v→RV (fun _=>False) w av v
def SVs (s':Store):List AV→List AV→Prop
 | [],[]=>True
 | a::l,b::m=>SV s' a b∧SVs s' l m
 | _,_=>False
theorem RV_no {o:Nat→Prop}{w:World}{a:AV}{v:Value}(h:RV o w a v):RV (fun _=>False) w a v:=h.mv (Mv.less (fun _ h=>h.elim) w)
theorem SV_same (a:AV):SV s' a a:=fun w v _ h=>RV_no h
theorem SVs_len:∀ {l m:List AV} ,SVs s' l m→m.length=l.length
 | [],[],_=>rfl
 | a::l,b::m,h=>by simp[SVs_len h.2]
 | [],_::_,h=>h.elim
 | _::_,[],h=>h.elim
theorem SVs_at:∀ {l m:List AV}{j:Nat} ,SVs s' l m→j < l.length→SV s' (at_ l j) (at_ m j)
 | a::l,b::m,0,h,_=>h.1
 | a::l,b::m,j+1,h,hj=>by
  have:=SVs_at (j:=j) h.2 (by simpa using hj)
  simpa [at_]using this
 | [],_,j,_,hj=>by simp at hj
 | _::_,[],_,h,_=>h.elim
theorem SVs_app:∀ {l m l' m':List AV} ,SVs s' l m→SVs s' l' m'→SVs s' (l++l') (m++m')
 | [],[],_,_,_,h=>h
 | a::l,b::m,_,_,h,k=>⟨h.1,SVs_app h.2 k⟩
 | [],_::_,_,_,h,_=>h.elim
 | _::_,[],_,_,h,_=>h.elim
theorem SV_agg {l m:List AV}(h:SVs s' l m):SV s' (.agg l) (.agg m):=fun w v hs hv=>by
 obtain⟨vs,rfl,h1,h2⟩:=inv_agg hv
 exact .agg _ vs (by rw[SVs_len h]; exact h1) fun j hj=>SVs_at h (by rw[← SVs_len h]; exact hj) w _ hs (h2 j (by rw[← SVs_len h]; exact hj))
theorem SV_tup {l m:List AV}(h:SVs s' l m):SV s' (.tup l) (.tup m):=fun w v hs hv=>by
 obtain⟨vs,rfl,h1,h2⟩:=inv_tup hv
 exact .tup _ vs (by rw[SVs_len h]; exact h1) fun j hj=>SVs_at h (by rw[← SVs_len h]; exact hj) w _ hs (h2 j (by rw[← SVs_len h]; exact hj))
theorem SV_fn {f:FuncId}{l m:List AV}(h:SVs s' l m):SV s' (.fn f l) (.fn f m):=fun w v hs hv=>by
 obtain⟨vs,rfl,h1,h2⟩:=inv_fn hv
 exact .fn _ _ vs (by rw[SVs_len h]; exact h1) fun j hj=>SVs_at h (by rw[← SVs_len h]; exact hj) w _ hs (h2 j (by rw[← SVs_len h]; exact hj))
theorem dec1_view (hS:RelS π Fr S s'){t:Ty}{d:DV}{x:t.den}{a:AV}(h:dec1 (some S) t d=some x)(k:RelV π d a):∃ av,CR t x [av]∧SV s' a av:=by
 unfold dec1 at h
 split at h
 ·rename_i t' y
  split at h
  ·rename_i he; subst he; cases h; exact⟨a,by simpa only[RelV]using k,SV_same a⟩
  ·cases h
 ·split at h
  ·cases h; simp only[RelV]at k; subst k; exact⟨.emp,.inl ⟨rfl,rfl⟩,SV_same _⟩
  ·cases h
 ·rename_i b
  cases t with
  | sl t0=>
   simp only at h
   split at h
   ·rename_i T t' l hb
    split at h
    ·rename_i he; subst he; cases h
     simp only[RelV]at k
     rcases hS.obj _ _ hb with⟨g1,rfl⟩ | ⟨b2,c2,xs,hp2,hcap,hs,hr⟩
     ·rcases k with⟨b',c,m,hp,rfl⟩ | ⟨hp,rfl⟩
      ·rw[g1]at hp; cases hp
      ·exact⟨.emp,.inl ⟨rfl,rfl⟩,SV_same _⟩
     ·rcases k with⟨b',c,m,hp,rfl⟩ | ⟨hp,_⟩
      ·rw[hp2]at hp; cases hp
       refine⟨.lst t'.w l.length (fun i=>xs.getD i []),.inr ⟨_,rfl,hr.2⟩,fun w v hw hv=>?_⟩
       have hfrz:frzO (.row T t'.w c2 xs):=fun l2 hl a ha=>by
        obtain⟨i,hi,rfl⟩:=List.getElem_of_mem hl
        have:=hr.2 i (by rw[← hr.1]; exact hi)
        rw[List.getD_eq_getElem?_getD,List.getElem?_eq_getElem hi]at this
        exact CR_frz this a ha
       have:=fv_RV (D:=[]) hs hfrz hw hv
       simp only[fv,if_true]at this
       rw[if_pos ⟨by rw[hr.1]; exact Nat.le_refl _,hcap⟩]at this
       exact RV_no this
      ·rw[hp2]at hp; cases hp
    ·cases h
   ·cases h
  | _=>simp at h
 ·rename_i b kk p m
  cases t with
  | sl t0=>
   simp only at h
   split at h
   ·rename_i T t' l hb
    split at h
    ·rename_i he; subst he
     cases hc:Nat.beq kk t'.w with
     | false=>rw[hc]at h; cases h
     | true=>
      rw[hc]at h; cases h
      obtain rfl:=beq_iff.1 hc
      simp only[RelV]at k
      obtain⟨b',c,N,hp,hle,rfl⟩:=k
      rcases hS.obj _ _ hb with⟨g1,rfl⟩ | ⟨b2,c2,xs,hp2,hcap,hs,hr⟩
      ·rw[g1]at hp; cases hp
      ·rw[hp2]at hp; cases hp
       have hsub:=CRs_sub hr hle
       have hlen:((l.drop p).take m).length=m:=by simp; omega
       refine⟨.lst t'.w m (fun i=>((xs.drop p).take m).getD i []),.inr ⟨_,by rw[hlen],hsub.2⟩,fun w v hw hv=>?_⟩
       obtain⟨ad,cc,e1,e2,e3⟩:=inv_slo hv
       subst e1
       rcases Nat.eq_zero_or_pos m with h0 | h0
       ·subst h0; exact .fz _ _ (.lst0 _ _ _ _)
       ·have e3:=e3 h0
        subst e3
        obtain⟨vs,f1,f2,f3,f3',f4,f5⟩:=hw _ _ hs
        have hxl:xs.length=l.length:=hr.1
        have hg:∀ i,i < m→((xs.drop p).take m).getD i []=xs.getD (p+i) []:=fun i hi=>by
         simp only[List.getD_eq_getElem?_getD,List.getElem?_take,List.getElem?_drop]; rw[if_pos hi]
        refine .fz _ _ (.lst _ _ _ _ _ (fun i j=>vs.getD ((p+i)*t'.w+j) Go.undef) h0 e2 rfl (fun h=>h) (hw _ _ hs).lt (fun i j hi hj=>?_) (fun i hi=>?_) fun i j hi hj=>?_)
        ·have hlt:(p+i)*t'.w+j < vs.size:=by
          rw[f2]
          have:(p+i+1)*t'.w≤c*t'.w:=Nat.mul_le_mul_right _ (by omega)
          rw[Nat.add_mul (p+i) 1]at this
          omega
         rw[add_at,cell_of_row w b' _ vs T (0,0) f1]
         have e:p*t'.w+(i*t'.w+j)=(p+i)*t'.w+j:=by rw[Nat.add_mul]; omega
         rw[e]
         simp[Array.getD_eq_getD_getElem?,hlt]
        ·rw[hg i hi]; exact f4 _ (by omega)
        ·rw[hg i hi]
         have hR:=(f5 (p+i) j (by omega) hj).1
         have hcr:=hr.2 (p+i) (by omega)
         have hj':j < (xs.getD (p+i) []).length:=by rw[f4 _ (by omega)]; exact hj
         exact FV.of_frz (RV_no hR) (CR_frz hcr _ (at_mem hj'))
    ·cases h
   ·cases h
  | _=>simp at h
 ·cases h
theorem dec_view (hS:RelS π Fr S s'):∀ {t:Ty} {ds:List DV} {x:t.den} {rest:List DV} {as:List AV},dec (some S) t ds=some (x,rest)→RelVs π ds as→∃ c as' cv,as=c++as'∧CR t x cv∧SVs s' c cv∧RelVs π rest as'
 | .pair a b,ds,x,rest,as,h,k=>by
  simp only[dec]at h
  split at h
  ·rename_i y ds1 h1
   split at h
   ·rename_i z ds2 h2
    cases h
    obtain⟨c1,as1,v1,rfl,g1,s1,k1⟩:=dec_view hS h1 k
    obtain⟨c2,as2,v2,rfl,g2,s2,k2⟩:=dec_view hS h2 k1
    exact⟨c1++c2,as2,v1++v2,by simp,⟨v1,v2,rfl,g1,g2⟩,SVs_app s1 s2,k2⟩
   ·cases h
  ·cases h
 | .es _,ds,x,rest,as,h,k=>by simp[dec]at h
 | .opt _,[],x,rest,as,h,k=>by simp[dec]at h
 | .opt t,d::ds,x,rest,as,h,k=>by
  simp only[dec]at h
  simp only[RelVs]at k
  obtain⟨a,as',rfl,k1,k2⟩:=k
  split at h
  ·rename_i es
   split at h
   ·rename_i y hy
    cases h
    simp only[RelV]at k1
    obtain⟨bs,rfl,k1⟩:=k1
    obtain⟨c,r,rfl,g,g2⟩:=dec_CR hy k1
    simp only[RelVs]at g2; subst g2
    refine⟨[.elm c],as',[.elm c],by simp,.inr ⟨y,c,rfl,rfl,g⟩,⟨SV_same _,trivial⟩,k2⟩
   ·cases h
  ·cases h
   simp only[RelV]at k1; subst k1
   exact⟨[.nilp],as',[.nilp],rfl,.inl ⟨rfl,rfl⟩,⟨SV_same _,trivial⟩,k2⟩
  ·split at h
   ·rename_i y hy
    cases h
    obtain⟨av,q1,q2⟩:=dec1_view hS hy k1
    exact⟨[a],as',[av],rfl,q1,⟨q2,trivial⟩,k2⟩
   ·cases h
 | .int _,[],x,rest,as,h,k | .bool,[],x,rest,as,h,k | .str,[],x,rest,as,h,k | .sl _,[],x,rest,as,h,k=>by simp[dec]at h
 | .int _,d::ds,x,rest,as,h,k | .bool,d::ds,x,rest,as,h,k | .str,d::ds,x,rest,as,h,k | .sl _,d::ds,x,rest,as,h,k=>by
  simp only[dec]at h
  split at h
  ·rename_i y hy
   cases h
   simp only[RelVs]at k
   obtain⟨a,as',rfl,k1,k2⟩:=k
   obtain⟨av,q1,q2⟩:=dec1_view hS hy k1
   exact⟨[a],as',[av],rfl,q1,⟨q2,trivial⟩,k2⟩
  ·cases h
theorem decAll_view (hS:RelS π Fr S s'){t:Ty}{ds:List DV}{x:t.den}{as:List AV}(h:decAll (some S) t ds=some x)(k:RelVs π ds as):∃ cv,CR t x cv∧SVs s' as cv:=by
 unfold decAll at h
 split at h
 ·rename_i y hy
  cases h
  obtain⟨c,as',cv,rfl,g,g2,k'⟩:=dec_view hS hy k
  simp only[RelVs]at k'
  subst k'
  exact⟨cv,g,by simpa using g2⟩
 ·cases h
variable {π0:Pi}
mutual
theorem rdV_view (hS:RelS π Fr S s'):∀ (r:RSh) {d:DV} {nm:Nm} {l:List Leaf} {a:AV},rdV (some S) r d nm=some (l,[])→RelV π d a →
  nm=[]∧∃ av,SV s' a av∧∀ rest,∃ d2,fillV (fun k=>k) r (l++rest)=some (d2,rest)∧RelV π0 d2 av
 | .v t,d,nm,l,a,h,hr=>by
  simp only[rdV]at h
  split at h
  ·rename_i x hx
   cases h
   obtain⟨cv,q1,q2⟩:=decAll_view hS hx (RelVs_one hr)
   cases cv with
   | nil=>exact q2.elim
   | cons av cv=>
    cases cv with
    | nil=>exact⟨rfl,av,q2.1,fun rest=>⟨.v ⟨t,x⟩,by simp[fillV],by simp only[RelV]; exact q1⟩⟩
    | cons _ _=>exact q2.2.elim
  ·cases h
 | .st t,d,nm,l,a,h,hr=>by
  cases d with
  | agg ds=>
   simp only[rdV]at h
   split at h
   ·rename_i x hx
    cases h
    simp only[RelV]at hr
    obtain⟨as,rfl,hr⟩:=hr
    obtain⟨cv,q1,q2⟩:=decAll_view hS hx hr
    exact⟨rfl,.agg cv,SV_agg q2,fun rest=>⟨.agg (cellsD t x),by simp[fillV],by simp only[RelV]; exact⟨cv,rfl,CR_cells q1⟩⟩⟩
   ·cases h
  | _=>simp[rdV]at h
 | .elm t,d,nm,l,a,h,hr=>by
  cases d with
  | elm ds=>
   simp only[rdV]at h
   split at h
   ·rename_i x hx
    cases h
    simp only[RelV]at hr
    obtain⟨as,rfl,hr⟩:=hr
    exact⟨rfl,.elm as,SV_same _,fun rest=>⟨.elm (cellsD t x),by simp[fillV],by simp only[RelV]; exact⟨as,rfl,CR_cells (decAll_CR hx hr)⟩⟩⟩
   ·cases h
  | ptr b o=>
   cases o with
   | succ o=>simp[rdV]at h
   | zero=>
    simp only[rdV]at h
    split at h
    ·rename_i cs hb
     split at h
     ·rename_i x hx
      cases h
      simp only[RelV]at hr
      obtain⟨b',c,n,hp,rfl⟩:=hr
      obtain⟨b2,c2,n2,as,hp2,hs,hv⟩:=hS.obj _ _ hb
      rw[hp]at hp2; cases hp2
      obtain⟨cv,q1,q2⟩:=decAll_view hS hx hv
      refine⟨rfl,.elm cv,fun w v hw hrv=>?_,fun rest=>⟨.elm (cellsD t x),by simp[fillV],by simp only[RelV]; exact⟨cv,rfl,CR_cells q1⟩⟩⟩
      rw[inv_ptr hrv]
      have hlen:=SVs_len q2
      refine .fz _ _ (.elm cv _ (fun j=>(w.cell? ⟨b',0+j,none⟩).getD Go.undef) rfl (fun h=>h) (hw b' _ hs).lt (fun j hj=>?_) (fun j hj=>?_))
      ·obtain⟨u,h1,h2⟩:=box_cell (hw _ _ hs) (j:=0+j) (by omega)
       rw[add_at,h1]; rfl
      ·obtain⟨u,h1,h2⟩:=box_cell (hw _ _ hs) (j:=0+j) (by omega)
       rw[h1]
       rw[Nat.zero_add]at h2
       exact FV.of_frz (SVs_at q2 (by omega) w u hw h2) (CR_frz q1 _ (at_mem hj))
     ·cases h
    ·cases h
  | _=>simp[rdV]at h
 | .ptr k o,d,nm,l,a,h,hr=>by
  cases d with
  | ptr b o'=>
   simp only[rdV]at h
   cases hc:Nat.beq o o' with
   | false=>rw[hc]at h; cases h
   | true=>
    rw[hc]at h
    simp only[cond_true]at h
    split at h
    ·rename_i nm1 hb
     cases h
     have:=(bindN_inv hb).2
     cases this
    ·cases h
  | _=>simp[rdV]at h
 | .slc k,d,nm,l,a,h,hr=>by
  cases d with
  | slc b=>
   simp only[rdV]at h
   split at h
   ·rename_i nm1 hb
    cases h
    have:=(bindN_inv hb).2
    cases this
   ·cases h
  | emp=>
   simp only[rdV]at h
   split at h
   ·rename_i nm1 hb
    cases h
    have:=(bindV_inv hb).2
    cases this
   ·cases h
  | _=>simp[rdV]at h
 | .slo k w,d,nm,l,a,h,hr=>by
  cases d with
  | slo b w' o m=>
   simp only[rdV]at h
   cases hc:Nat.beq w w' with
   | false=>rw[hc]at h; cases h
   | true=>
    rw[hc]at h
    simp only[cond_true]at h
    split at h
    ·rename_i nm1 hb
     cases h
     have:=(bindN_inv hb).2
     cases this
    ·cases h
  | _=>simp[rdV]at h
 | .aptr k w,d,nm,l,a,h,hr=>by
  cases d with
  | rptr b w' i j=>
   cases i with
   | succ i=>simp[rdV]at h
   | zero=>
    cases j with
    | succ j=>simp[rdV]at h
    | zero=>
     simp only[rdV]at h
     cases hc:Nat.beq w w' with
     | false=>rw[hc]at h; cases h
     | true=>
      rw[hc]at h
      try simp only[cond_true]at h
      split at h
      ·rename_i nm1 hb
       cases h
       have:=(bindN_inv hb).2
       cases this
      ·cases h
  | _=>simp[rdV]at h
 | .mp k,d,nm,l,a,h,hr=>by
  cases d with
  | mp b=>
   simp only[rdV]at h
   split at h
   ·rename_i nm1 hb
    cases h
    have:=(bindN_inv hb).2
    cases this
   ·cases h
  | _=>simp[rdV]at h
 | .nilp,d,nm,l,a,h,hr=>by
  cases d with
  | nilp=>simp only[rdV]at h; cases h; exact⟨rfl,a,SV_same _,fun rest=>⟨.nilp,by simp[fillV],by simp only[RelV]at hr ⊢; exact hr⟩⟩
  | _=>simp[rdV]at h
 | .nilm,d,nm,l,a,h,hr=>by
  cases d with
  | nilm=>simp only[rdV]at h; cases h; exact⟨rfl,a,SV_same _,fun rest=>⟨.nilm,by simp[fillV],by simp only[RelV]at hr ⊢; exact hr⟩⟩
  | _=>simp[rdV]at h
 | .emp,d,nm,l,a,h,hr=>by
  cases d with
  | emp=>simp only[rdV]at h; cases h; exact⟨rfl,a,SV_same _,fun rest=>⟨.emp,by simp[fillV],by simp only[RelV]at hr ⊢; exact hr⟩⟩
  | _=>simp[rdV]at h
 | .any,d,nm,l,a,h,hr=>by
  have h':some (([]:List Leaf),nm)=some (l,[]):=by cases d <;> simpa only[rdV]using h
  cases h'
  exact⟨rfl,a,SV_same _,fun rest=>⟨.undef,by simp[fillV],by simp only[RelV]⟩⟩
 | .agg rs,d,nm,l,a,h,hr=>by
  cases d with
  | agg ds=>
   simp only[rdV]at h
   simp only[RelV]at hr
   obtain⟨as,rfl,hr⟩:=hr
   obtain⟨g1,avs,g2,g3⟩:=rdVs_view hS rs h hr
   refine⟨g1,.agg avs,SV_agg g2,fun rest=>?_⟩
   obtain⟨ds2,k1,k2⟩:=g3 rest
   exact⟨.agg ds2,by simp[fillV,k1],by simp only[RelV]; exact⟨avs,rfl,k2⟩⟩
  | _=>simp[rdV]at h
 | .tup rs,d,nm,l,a,h,hr=>by
  cases d with
  | tup ds=>
   simp only[rdV]at h
   simp only[RelV]at hr
   obtain⟨as,rfl,hr⟩:=hr
   obtain⟨g1,avs,g2,g3⟩:=rdVs_view hS rs h hr
   refine⟨g1,.tup avs,SV_tup g2,fun rest=>?_⟩
   obtain⟨ds2,k1,k2⟩:=g3 rest
   exact⟨.tup ds2,by simp[fillV,k1],by simp only[RelV]; exact⟨avs,rfl,k2⟩⟩
  | _=>simp[rdV]at h
 | .fn f rs,d,nm,l,a,h,hr=>by
  cases d with
  | fn f' ds=>
   simp only[rdV]at h
   cases hc:Nat.beq f f' with
   | false=>rw[hc]at h; cases h
   | true=>
    rw[hc]at h
    obtain rfl:=beq_iff.1 hc
    simp only[cond_true]at h
    simp only[RelV]at hr
    obtain⟨as,rfl,hr⟩:=hr
    obtain⟨g1,avs,g2,g3⟩:=rdVs_view hS rs h hr
    refine⟨g1,.fn f avs,SV_fn g2,fun rest=>?_⟩
    obtain⟨ds2,k1,k2⟩:=g3 rest
    exact⟨.fn f ds2,by simp[fillV,k1],by simp only[RelV]; exact⟨avs,rfl,k2⟩⟩
  | _=>simp[rdV]at h
theorem rdVs_view (hS:RelS π Fr S s'):∀ (rs:List RSh) {ds:List DV} {nm:Nm} {l:List Leaf} {as:List AV},rdVs (some S) rs ds nm=some (l,[])→RelVs π ds as →
  nm=[]∧∃ avs,SVs s' as avs∧∀ rest,∃ ds2,fillVs (fun k=>k) rs (l++rest)=some (ds2,rest)∧RelVs π0 ds2 avs
 | [],ds,nm,l,as,h,hr=>by
  cases ds with
  | nil=>
   simp only[rdVs]at h
   cases h
   simp only[RelVs]at hr; subst hr
   exact⟨rfl,[],trivial,fun rest=>⟨[],by simp[fillVs],RelVs_nil⟩⟩
  | cons d ds=>simp[rdVs]at h
 | r::rs,ds,nm,l,as,h,hr=>by
  cases ds with
  | nil=>simp[rdVs]at h
  | cons d ds=>
   simp only[rdVs]at h
   simp only[RelVs]at hr
   obtain⟨a,as',rfl,hr1,hr2⟩:=hr
   split at h
   ·rename_i l1 nm1 h1
    split at h
    ·rename_i l2 nm2 h2
     cases h
     obtain⟨g1,avs,g2,g3⟩:=rdVs_view hS rs h2 hr2
     subst g1
     obtain⟨g4,av,g5,g6⟩:=rdV_view hS r h1 hr1
     refine⟨g4,av::avs,⟨g5,g2⟩,fun rest=>?_⟩
     obtain⟨d2,k1,k2⟩:=g6 (l2++rest)
     obtain⟨ds2,k3,k4⟩:=g3 rest
     exact⟨d2::ds2,by simp only[fillVs,List.append_assoc,k1,k3],RelVs_cons k2 k4⟩
    ·cases h
   ·cases h
end
end
def gndT:Ty→Bool
 | .int _ | .bool | .str=>true
 | .pair a b=>gndT a&&gndT b
 | _=>false
mutual
def gndR:RSh→Bool
 | .v t | .st t=>gndT t
 | .slc _ | .emp | .nilp=>true
 | .agg rs | .tup rs=>gndRs rs
 | _=>false
def gndRs:List RSh→Bool
 | []=>true
 | r::rs=>gndR r&&gndRs rs
end
def gndO:List (Nat×OSh) →Bool
 | []=>true
 | (_,.row _ t)::l=>gndT t&&gndO l
 | _=>false
def vokB (sh:FSh):Bool:=sh.ins.objs.isEmpty&&sh.out.ids.isEmpty&&gndRs sh.out.st.vals&&gndO sh.out.st.objs
def Same (a:AV):Prop:=∀ o o' w v,RV o w a v→RV o' w a v
theorem same_gnd:∀ {t:Ty}{x:t.den}{cs:List AV} ,gndT t=true→CR t x cs→∀ a∈cs,Same a
 | .int _,_,_,_,h,a,ha=>by cases h; simp at ha; subst ha; intro o o' w v hv; rw[inv_int hv]; exact .fz _ _ (.int _ _)
 | .bool,_,_,_,h,a,ha=>by cases h; simp at ha; subst ha; intro o o' w v hv; rw[inv_bool hv]; exact .fz _ _ (.bool _)
 | .str,_,_,_,h,a,ha=>by cases h; simp at ha; subst ha; intro o o' w v hv; rw[inv_str hv]; exact .fz _ _ (.str _)
 | .pair a b,x,_,hg,⟨c1,c2,h,h1,h2⟩,c,hc=>by
  subst h
  simp only[gndT,Bool.and_eq_true]at hg
  rcases List.mem_append.1 hc with hc | hc
  ·exact same_gnd hg.1 h1 c hc
  ·exact same_gnd hg.2 h2 c hc
 | .sl _,_,_,hg,_,_,_=>by cases hg
 | .es _,_,_,hg,_,_,_=>by cases hg
 | .opt _,_,_,hg,_,_,_=>by cases hg
theorem Same_agg {l:List AV}(h:∀ a∈l,Same a):Same (.agg l):=fun o o' w v hv=>by
 obtain⟨vs,rfl,h1,h2⟩:=inv_agg hv
 exact .agg _ vs h1 fun j hj=>h _ (at_mem hj) _ _ _ _ (h2 j hj)
theorem Same_tup {l:List AV}(h:∀ a∈l,Same a):Same (.tup l):=fun o o' w v hv=>by
 obtain⟨vs,rfl,h1,h2⟩:=inv_tup hv
 exact .tup _ vs h1 fun j hj=>h _ (at_mem hj) _ _ _ _ (h2 j hj)
theorem Same_emp:Same .emp:=fun o o' w v hv=>by obtain⟨a,rfl⟩:=inv_emp hv; exact .fz _ _ (.emp _)
theorem Same_nilp:Same .nilp:=fun o o' w v hv=>by rw[inv_nilp hv]; exact .fz _ _ .nilp
theorem Same_slc (b n c:Nat):Same (.slc b n c):=fun o o' w v hv=>by have h:=slc_le hv; rw[inv_slc hv]; exact .slc _ _ _ h
section
variable {π:Pi} {ρ:Nat→Nat}
theorem cellsD_CR:∀ {t:Ty}{x:t.den}{as:List AV} ,gndT t=true→RelVs π (cellsD t x) as→CR t x as
 | .pair a b,x,as,hg,h=>by
  simp only[gndT,Bool.and_eq_true]at hg
  simp only[cellsD]at h
  obtain⟨as1,as2,rfl,h1,h2⟩:=RelVs_split h
  exact⟨as1,as2,rfl,cellsD_CR hg.1 h1,cellsD_CR hg.2 h2⟩
 | .es _,x,as,hg,h=>by cases hg
 | .opt _,x,as,hg,h=>by cases hg
 | .sl _,x,as,hg,h=>by cases hg
 | .int _,x,as,hg,h | .bool,x,as,hg,h | .str,x,as,hg,h=>by
  simp only[cellsD,RelVs]at h
  obtain⟨a,as',rfl,g,rfl⟩:=h
  simpa only[RelV]using g
mutual
theorem gndR_same:∀ (r:RSh){l l':List Leaf}{d:DV}{a:AV} ,gndR r=true→fillV ρ r l=some (d,l')→RelV π d a→Same a
 | .v t,l,l',d,a,hg,h,hr=>by
  cases l with
  | nil=>simp[fillV]at h
  | cons x l=>
   obtain⟨t',x⟩:=x
   simp only[fillV]at h
   cases hc:decide (t'=t)with
   | false=>rw[hc]at h; cases h
   | true=>
    rw[hc]at h; cases h
    have:=of_decide_eq_true hc; subst this
    simp only[RelV]at hr
    exact same_gnd hg hr a (by simp)
 | .st t,l,l',d,a,hg,h,hr=>by
  cases l with
  | nil=>simp[fillV]at h
  | cons x l=>
   obtain⟨t',x⟩:=x
   simp only[fillV]at h
   cases hc:decide (t'=t)with
   | false=>rw[hc]at h; cases h
   | true=>
    rw[hc]at h; cases h
    have:=of_decide_eq_true hc; subst this
    simp only[RelV]at hr
    obtain⟨as,rfl,hr⟩:=hr
    exact Same_agg fun a ha=>same_gnd hg (cellsD_CR hg hr) a ha
 | .slc k,l,l',d,a,hg,h,hr=>by
  simp only[fillV]at h
  cases h
  simp only[RelV]at hr
  rcases hr with⟨b',c,n,hp,rfl⟩ | ⟨hp,rfl⟩
  ·exact Same_slc _ _ _
  ·exact Same_emp
 | .emp,l,l',d,a,hg,h,hr=>by
  simp only[fillV]at h
  cases h
  simp only[RelV]at hr; subst hr; exact Same_emp
 | .nilp,l,l',d,a,hg,h,hr=>by
  simp only[fillV]at h
  cases h
  simp only[RelV]at hr; subst hr; exact Same_nilp
 | .agg rs,l,l',d,a,hg,h,hr=>by
  simp only[fillV]at h
  split at h
  ·rename_i ds l1 h1
   cases h
   simp only[RelV]at hr
   obtain⟨as,rfl,hr⟩:=hr
   exact Same_agg (gndRs_same rs hg h1 hr)
  ·cases h
 | .tup rs,l,l',d,a,hg,h,hr=>by
  simp only[fillV]at h
  split at h
  ·rename_i ds l1 h1
   cases h
   simp only[RelV]at hr
   obtain⟨as,rfl,hr⟩:=hr
   exact Same_tup (gndRs_same rs hg h1 hr)
  ·cases h
 | .elm _,_,_,_,_,hg,_,_=>by simp[gndR]at hg
 | .ptr ..,_,_,_,_,hg,_,_=>by simp[gndR]at hg
 | .mp _,_,_,_,_,hg,_,_=>by simp[gndR]at hg
 | .nilm,_,_,_,_,hg,_,_=>by simp[gndR]at hg
 | .any,_,_,_,_,hg,_,_=>by simp[gndR]at hg
 | .fn ..,_,_,_,_,hg,_,_=>by simp[gndR]at hg
theorem gndRs_same:∀ (rs:List RSh){l l':List Leaf}{ds:List DV}{as:List AV} ,gndRs rs=true→fillVs ρ rs l=some (ds,l')→RelVs π ds as→∀ a∈as,Same a
 | [],l,l',ds,as,hg,h,hr=>by
  simp only[fillVs]at h
  cases h
  simp only[RelVs]at hr; subst hr
  intro a ha; cases ha
 | r::rs,l,l',ds,as,hg,h,hr=>by
  simp only[gndRs,Bool.and_eq_true]at hg
  simp only[fillVs]at h
  split at h
  ·rename_i d l1 h1
   split at h
   ·rename_i ds1 l2 h2
    cases h
    simp only[RelVs]at hr
    obtain⟨a,as',rfl,hr1,hr2⟩:=hr
    intro c hc
    rcases List.mem_cons.1 hc with rfl | hc
    ·exact gndR_same r hg.1 h1 hr1
    ·exact gndRs_same rs hg.2 h2 hr2 c hc
   ·cases h
  ·cases h
end
theorem gndO_row:∀ {os:List (Nat×OSh)}{l l':List Leaf}{xs:List (Nat×DObj)} ,gndO os=true→fillOs ρ os l=some (xs,l')→∀ b o,(b,o)∈xs→∃ T t y,o = .row T t y∧gndT t=true
 | [],l,l',xs,hg,h,b,o,hb=>by cases h; cases hb
 | (k,o0)::os,l,l',xs,hg,h,b,o,hb=>by
  cases o0 with
  | row T t=>
   simp only[gndO,Bool.and_eq_true]at hg
   simp only[fillOs]at h
   split at h
   ·rename_i x l1 h1
    split at h
    ·rename_i xs1 l2 h2
     cases h
     rcases List.mem_cons.1 hb with e | hb
     ·cases e
      unfold fillO at h1
      split at h1
      ·rename_i he; cases he
      ·rename_i he; cases he
      ·rename_i t0 t' y l3 he
       cases he
       cases hc:decide (t'=t)with
       | false=>rw[hc]at h1; cases h1
       | true=>
        rw[hc]at h1; cases h1
        have:=of_decide_eq_true hc; subst this
        exact⟨_,_,_,rfl,hg.1⟩
      ·rename_i he; cases he
      ·cases h1
     ·exact gndO_row hg.2 h2 b o hb
    ·cases h
   ·cases h
  | _=>simp[gndO]at hg
end
end Go.Proofs.YtdacabdocbhkdaaGreat.D

set_option linter.unusedVariables false
set_option linter.unusedSimpArgs false
namespace Go.Proofs.YtdacabdocbhkdaaGreat.D
open Go Go.Proofs.YtdacabdocbhkdaaGreat.L
section
variable {π:Pi} {Fr:Store} {S:DSt} {s':Store} {RD:List Nat} {R:Nat→Prop}
theorem notInL_mem {RD L:List Nat}(h:notInL RD L=true):∀ b∈L,RD.any (Nat.beq b)=false:=by
 induction L with
 | nil=>intro b hb; cases hb
 | cons c L ih=>
  simp only[notInL,Bool.and_eq_true,notIn,Bool.not_eq_true']at h
  intro b hb
  rcases List.mem_cons.1 hb with rfl | hb
  ·exact h.1
  ·exact ih h.2 b hb
theorem view_call {P:Program}(hS:RelS π Fr S s'){f:FuncId}{sh:FSh}{F:dens sh.ts→Option (dens sh.out.ts)}(hdc:DC P f sh F)(hv:vokB sh=true){ds:List DV}{as:List AV}(hr:RelVs π ds as){l:List Leaf}{nm:Nm}
  (hrd:rdSt (some S) S sh.ins sh.m ds []=some (l,nm)) {x:dens sh.ts} (htd:toDens sh.ts l=some x) {y:dens sh.out.ts} (hF:F x=some y) :
  nm=[]∧AC P f as s' fun v s1=>∃ ds2 S2 π2,afterD S [] sh.out (ofDens sh.out.ts y)=some (ds2,S2)∧Ext π π2∧RelVs π2 ds2 [v]∧RelS π2 Fr S2 s1 ∧
   (∀ b o,S.get b=some o→∃ o',S2.get b=some o')∧(∀ b o b' c n,S.get b=some o→π b=some (.real b' c n)→s1 b'=s' b'):=by
 simp only[vokB,Bool.and_eq_true,List.isEmpty_iff]at hv
 obtain⟨⟨⟨v1,v2⟩,v3⟩,v4⟩:=hv
 unfold rdSt at hrd
 split at hrd
 ·rename_i l1 nm1 h1
  rw[v1]at hrd
  simp only[rdOs]at hrd
  cases hc:(noDup (nmNames nm1)&&(noDup (nm1.map (·.1))&&(keysIn [] nm1&&(boundB sh.m []&&noDup (([]:List (Nat×OSh)).map (·.1))))))with
  | false=>rw[hc]at hrd; cases hrd
  | true=>
   rw[hc]at hrd
   cases hrd
   simp only[Bool.and_eq_true]at hc
   have hnm:nm=[]:=by
    cases nm with
    | nil=>rfl
    | cons p q=>have:=hc.2.2.1; simp[keysIn]at this
   subst hnm
   refine⟨rfl,?_⟩
   obtain⟨_,avs,g2,g3⟩:=rdVs_view (π0:=fun _=>none) hS sh.ins.vals h1 hr
   obtain⟨ds0,k1,k2⟩:=g3 []
   have hl:=toDens_ofDens htd
   have hin:In (fun _=>none) es0 sh x avs es0:=by
    refine⟨ds0,[],?_,k2,⟨fun b o h=>by simp[DSt.get,fnd]at h,fun b1 b2 o1 o2 b' c1 n1 c2 n2 h=>by simp[DSt.get,fnd]at h,fun _ _ h=>h,fun b o b' c n h=>by simp[DSt.get,fnd]at h,fun _ _=>rfl⟩⟩
    rw[hl]
    simp only[List.append_nil]at k1
    simp only[fillSt,v1,List.append_nil,k1,fillOs]
   let Q:AV→Store→Prop:=fun v s2=>∃ π1 d os,fillSt (fun k=>k) sh.out.st (ofDens sh.out.ts y)=some ([d],os)∧noDup (sh.out.st.objs.map (·.1))=true∧RelV π1 d v∧RelS π1 es0 ⟨sh.out.q,os⟩ s2 ∧
    ∀ b z,s2 b=some z→∃ k o c n,fnd os k=some o∧π1 k=some (.real b c n)
   have hQ:AC P f avs es0 Q:=AC_sub (hdc.2 x y hF _ _ _ _ hin) fun v s1 ⟨π1,d,os,p1,p2,p3,p4,p5⟩=>by
    classical
    let s2:Store:=fun b=>if ∃ k o c n,fnd os k=some o∧π1 k=some (.real b c n)then s1 b else none
    have yes:∀ b,(∃ k o c n,fnd os k=some o∧π1 k=some (.real b c n))→s2 b=s1 b:=fun b hk=>by show(if _ then _ else _)=_; rw[if_pos hk]
    have no:∀ b,¬ (∃ k o c n,fnd os k=some o∧π1 k=some (.real b c n))→s2 b=none:=fun b hk=>by show(if _ then _ else _)=_; rw[if_neg hk]
    refine⟨s2,fun b=>?_,π1,d,os,p1,p2,p3,⟨fun b o hb=>?_,p4.inj,fun b' x h=>(by cases h),fun b o b' c n hb hp=>rfl,p4.nx⟩,fun b z hb=>?_⟩
    ·by_cases hk:∃ k o c n,fnd os k=some o∧π1 k=some (.real b c n)
     ·exact .inr (yes b hk)
     ·exact .inl (no b hk)
    ·exact(p4.obj b o hb).mono (Ext.refl _) fun b' c n hp=>yes b' ⟨b,o,c,n,hb,hp⟩
    ·by_cases hk:∃ k o c n,fnd os k=some o∧π1 k=some (.real b c n)
     ·exact hk
     ·rw[no b hk]at hb; cases hb
   refine AC_mono ?_ (AC_view hQ (fun w vs hs ha=>⟨by rw[ha.1,SVs_len g2],fun j hj=>?_⟩) ?_ ?_)
   ·rintro v s1 ⟨s2,⟨π1,d,os,p1,p2,p3,p4,p5⟩,rfl,hnew⟩
    have live:∀ k b,fnd ([]:Nm) k=some (some b)→∃ o,S.get b=some o:=fun k b h=>by simp[fnd]at h
    have hfr:frOf π ([]:Nm) s'=s':=by
     funext b
     unfold frOf
     rw[if_neg]
     rintro⟨k,b2,c,n,h,_⟩
     simp[fnd]at h
    have join:∀ b,s2 b≠none→joinS s' s2 b=s2 b:=fun b hb=>by
     unfold joinS
     cases hc:s2 b with
     | none=>exact absurd hc hb
     | some z=>rfl
    have h1:RelS π1 (frOf π ([]:Nm) s') ⟨sh.out.q,os⟩ (joinS s' s2):=by
     rw[hfr]
     refine⟨fun b o hb=>(p4.obj b o hb).mono (Ext.refl _) fun b' c n hp=>join b' ((p4.obj b o hb).some' hp),p4.inj,fun b' z h=>?_,fun b o b' c n hb hp=>?_,p4.nx⟩
     ·unfold joinS
      cases hc:s2 b' with
      | none=>exact h
      | some u=>rw[hnew b' u hc]at h; cases h
     ·cases hc:s2 b' with
      | none=>exact absurd hc ((p4.obj b o hb).some' hp)
      | some u=>exact hnew b' u hc
    obtain⟨ds2,S2,π2,a1,a2,a3,a4,a5,a6⟩:=after_sound hS live p1 p2 (RelVs_one p3) h1 (fun k hk=>by rw[v2]at hk; simp at hk)
    exact⟨ds2,S2,π2,a1,a2,a3,a4,fun b o hb=>a5 b o hb (by simp[nmNames]),fun b o b' c n hb hp=>a6 b o b' c n hb (by simp[nmNames]) hp⟩
   ·exact SVs_at g2 (by rw[← SVs_len g2]; exact hj) w _ hs (ha.2 j (by rw[← SVs_len g2]; exact hj))
   ·rintro v s2 ⟨π1,d,os,p1,p2,p3,p4,p5⟩
    unfold fillSt at p1
    split at p1
    ·rename_i ds1 l1 hvs
     split at p1
     ·cases p1
      exact gndRs_same _ v3 hvs (RelVs_one p3) v (by simp)
     ·cases p1
    ·cases p1
   ·rintro v s2 ⟨π1,d,os,p1,p2,p3,p4,p5⟩ b z hb o o' w hO
    obtain⟨k,ob,c,n,q1,q2⟩:=p5 b z hb
    unfold fillSt at p1
    split at p1
    ·rename_i ds1 l1 hvs
     split at p1
     ·rename_i os1 hos
      cases p1
      obtain⟨T,t,yy,rfl,hg⟩:=gndO_row v4 hos k ob (fnd_mem q1)
      rcases p4.obj k _ q1 with⟨q3,_⟩ | ⟨b2,c2,xs,q3,q4,q5,q6⟩
      ·rw[q2]at q3; cases q3
      ·rw[q2]at q3; cases q3
       rw[hb]at q5
       cases q5
       obtain⟨vs,e1,e2,e3,e4,e5,e6⟩:=hO
       refine⟨vs,e1,e2,e3,e4,e5,fun i j hi hj=>⟨?_,(e6 i j hi hj).2⟩⟩
       have hi':i < yy.length:=by rw[← q6.1]; exact hi
       have hcr:=q6.2 i hi'
       exact same_gnd hg hcr _ (at_mem (by rw[CR_len hcr]; exact hj)) _ _ _ _ (e6 i j hi hj).1
     ·cases p1
    ·cases p1
 ·cases hrd
def DTblOK (P:Program)(T:List FEnt):Prop:=∀ ent∈T,DC P ent.f ent.sh ent.F∧(ent.sh.bw=true→vokB ent.sh=true)
theorem DTbl_nil {P:Program}:DTblOK P []:=fun e h=>by cases h
theorem DTbl_cons {P:Program}{ent:FEnt}{T:List FEnt}(h:DC P ent.f ent.sh ent.F)(hv:(!ent.sh.bw||vokB ent.sh)=true)(hT:DTblOK P T):DTblOK P (ent::T):=fun e he=>by
 rcases List.mem_cons.1 he with rfl | he
 ·exact⟨h,fun hb=>by rw[hb]at hv; simpa using hv⟩
 ·exact hT e he
theorem dcall_sound {P:Program}(hS:RelS π Fr S s')(hH:HR π S RD R){f:FuncId}{ds:List DV}{as:List AV}(hr:RelVs π ds as){α:Type}{k:DV→DSt→Option α}{r:α}:∀ {T:List FEnt} (hT:DTblOK P T) (h:dcall RD T f ds S k=some r)
  {K:AV→Store→Prop} (hK:∀ d S1 a π1 s1,k d S1=some r→RelV π1 d a→Ext π π1→RelS π1 Fr S1 s1→HR π1 S1 RD R→K a s1),AC P f as s' fun v s1=>(∀ b,R b→s1 b=s' b)∧K v s1
 | [],hT,h,K,hK=>by simp[dcall]at h
 | ent::T,hT,h,K,hK=>by
  simp only[dcall]at h
  have rest:=fun h=>dcall_sound hS hH (f:=f) hr (T:=T) (fun e he=>hT e (by simp[he])) h hK
  cases hf:Nat.beq ent.f f with
  | false=>rw[hf]at h; exact rest h
  | true=>
   rw[hf]at h
   simp only[cond_true]at h
   obtain rfl:=beq_iff.1 hf
   split at h
   ·rename_i x nm hin
    cases hn:notInL RD (nmNames nm)with
    | false=>rw[hn]at h; cases h
    | true=>
     rw[hn]at h
     simp only[cond_true]at h
     cases hF:ent.F x with
     | none=>rw[hF]at h; cases h
     | some y=>
      rw[hF]at h
      simp only[Option.bind_some]at h
      obtain⟨hdc,hbw⟩:=hT ent (by simp)
      unfold rdIn at hin
      cases hbwc:ent.sh.bw with
      | true=>
       rw[hbwc]at hin
       simp only[bwOf]at hin
       split at hin
       ·rename_i l nm1 hrd
        split at hin
        ·rename_i x1 htd
         cases hin
         obtain⟨rfl,hac⟩:=view_call hS hdc (hbw hbwc) hr hrd htd hF
         refine AC_mono ?_ hac
         rintro v s1 ⟨ds2,S2,π2,a1,a2,a3,a4,a5,a6⟩
         rw[a1]at h
         split at h
         ·rename_i d2 S2' he
          cases he
          simp only[RelVs]at a3
          obtain⟨a,as',e,a3,e2⟩:=a3
          cases e
          refine⟨fun b' hR=>?_,hK d2 S2 v π2 s1 h a3 a2 a4 ?_⟩
          ·obtain⟨b,c,n,h1,h2⟩:=hH.of b' hR
           obtain⟨o,ho,_⟩:=hH.live b h1
           exact a6 b o b' c n ho h2
          ·refine hH.mono a2 fun b hb=>?_
           obtain⟨o,ho,_⟩:=hH.live b hb
           exact a5 b o ho
         ·cases h
        ·cases hin
       ·cases hin
      | false=>
      rw[hbwc]at hin
      simp only[bwOf]at hin
      split at hin
      ·rename_i l nm1 hrd
       split at hin
       ·rename_i x1 htd
        cases hin
        have hl:=toDens_ofDens htd
        obtain⟨q1,q2,q3,live,ds0,os0,q4,q5,q6⟩:=canon hS hrd hr (Fr1:=frOf π nm s') (fun b' x h=>frOf_le h) (fun k b b' c n h1 h2=>frOf_none h1 h2)
        refine AC_mono ?_ (hdc.2 x y hF (piOf π nm) (frOf π nm s') as s' ⟨ds0,os0,by rw[hl]; exact q4,q5,q6⟩)
        rintro v s1 ⟨π1,d,os,p1,p2,p3,p4,p5⟩
        obtain⟨ds2,S2,π2,a1,a2,a3,a4,a5,a6⟩:=after_sound hS live p1 p2 (RelVs_one p3) p4 (fun k hk b hb=>by rw[p5 k hk]; simp only[piOf,hb,locOf])
        rw[a1]at h
        split at h
        ·rename_i d2 S2' he
         cases he
         simp only[RelVs]at a3
         obtain⟨a,as',e,a3,e2⟩:=a3
         cases e
         refine⟨fun b' hR=>?_,hK d2 S2 v π2 s1 h a3 a2 a4 ?_⟩
         ·obtain⟨b,c,n,h1,h2⟩:=hH.of b' hR
          obtain⟨o,ho,_⟩:=hH.live b h1
          exact a6 b o b' c n ho (fun hb=>by rw[notInL_mem hn b hb]at h1; cases h1) h2
         ·refine hH.mono a2 fun b hb=>?_
          obtain⟨o,ho,_⟩:=hH.live b hb
          exact a5 b o ho (fun hb2=>by rw[notInL_mem hn b hb2]at hb; cases hb)
        ·cases h
       ·cases hin
      ·cases hin
   ·exact rest h
theorem ObR_st {π:Pi}{s1 s2:Store}{b:Nat}{o:DObj}(h:ObR π s1 b o)(he:∀ b' c n,π b=some (.real b' c n)→∀ x,s1 b'=some x→s2 b'=some x):ObR π s2 b o:=by
 cases o with
 | box ds=>
  simp only[ObR]at h ⊢
  obtain⟨b',c,n,as,h1,h2,h3⟩:=h
  exact⟨b',c,n,as,h1,he _ _ _ h1 _ h2,h3⟩
 | row T t l=>
  simp only[ObR]at h ⊢
  rcases h with h | ⟨b',c,xs,h1,h2,h3,h4⟩
  ·exact .inl h
  ·exact .inr ⟨b',c,xs,h1,h2,he _ _ _ h1 _ h3,h4⟩
 | imap kn ag t es pd=>
  simp only[ObR]at h ⊢
  obtain⟨b',c,n,es',h1,h2,h3⟩:=h
  refine⟨b',c,n,es',h1,h2,?_⟩
  cases pd with
  | none=>exact he _ _ _ h1 _ h3
  | some p=>
   obtain⟨y,v0',k1,k2,k3⟩:=h3
   exact⟨y,v0',k1,k2,he _ _ _ h1 _ k3⟩
theorem joinSt_some {s F:Store}{b:Nat}{x:AObj}(h:s b=some x)(ha:Apart s F):joinSt s F b=some x:=by
 have:F b=none:=by
  cases hf:F b with
  | none=>rfl
  | some y=>have:=ha b (by rw[hf]; simp); rw[h]at this; cases this
 unfold joinSt; rw[this]; exact h
theorem RelS.join {Fr F:Store}{S:DSt}{s':Store}(hS:RelS π Fr S s')(ha:Apart s' F):RelS π (joinSt Fr F) S (joinSt s' F):=by
 refine⟨fun b o hb=>ObR_st (hS.obj b o hb) fun b' c n _ x hx=>joinSt_some hx ha,hS.inj,fun b' x hx=>?_,fun b o b' c n hb hp=>?_,hS.nx⟩
 ·unfold joinSt at hx ⊢
  cases hf:F b' with
  | some y=>rw[hf]at hx; exact hx
  | none=>rw[hf]at hx; exact hS.frm b' x hx
 ·have h1:=hS.out b o b' c n hb hp
  have h2:F b'=none:=by
   cases hf:F b' with
   | none=>rfl
   | some y=>
    have h3:=ha b' (by rw[hf]; simp)
    exact absurd h3 ((hS.obj b o hb).some' hp)
  unfold joinSt; rw[h2]; exact h1
theorem dcallF_sound {P:Program}(hS:RelS π Fr S s')(hH:HR π S RD R){f:FuncId}{ds:List DV}{as:List AV}(hr:RelVs π ds as){α:Type}{k:DV→DSt→Option α}{r:α}{T:List FEnt}(hT:DTblOK P T)(h:dcall RD T f ds S k=some r)
  {K:AV→Store→Prop} (hK:∀ d S1 a π1 s1,k d S1=some r→RelV π1 d a→Ext π π1→RelS π1 Fr S1 s1→HR π1 S1 RD R→K a s1):ACF P f as s' fun v s1=>(∀ b,R b→s1 b=s' b)∧K v s1:=by
 intro F hF
 refine AC_mono ?_ (dcall_sound (hS.join hF) hH hr hT h (K:=fun a s1=>∃ s2,Apart s2 F∧s1=joinSt s2 F∧K a s2) ?_)
 ·rintro v s1 ⟨h1,s2,h2,h3,h4⟩
  refine⟨s2,h2,h3,fun b hb=>?_,h4⟩
  have h5:=h1 b hb
  have hFb:F b=none:=by
   obtain⟨b0,c,n,h6,h7⟩:=hH.of b hb
   obtain⟨o,ho,_⟩:=hH.live b0 h6
   cases hf:F b with
   | none=>rfl
   | some y=>exact absurd (hF b (by rw[hf]; simp)) ((hS.obj b0 o ho).some' h7)
  rw[h3]at h5
  unfold joinSt at h5
  rw[hFb]at h5
  exact h5
 ·intro d S1 a π1 s1 g1 g2 g3 g4 g5
  let s2:Store:=fun b=>match F b with
   | some _=>none
   | none=>s1 b
  have e1:Apart s2 F:=fun b hb=>by
   show(match F b with | some _=>none | none=>s1 b)=none
   cases hf:F b with
   | some y=>rfl
   | none=>exact absurd hf hb
  have e2:s1=joinSt s2 F:=by
   funext b
   show s1 b=match F b with | some x=>some x | none=>s2 b
   cases hf:F b with
   | some y=>exact g4.frm b y (by unfold joinSt; rw[hf])
   | none=>show s1 b=(match F b with | some _=>none | none=>s1 b); rw[hf]
  refine⟨s2,e1,e2,hK d S1 a π1 s2 g1 g2 g3 ⟨fun b o hb=>ObR_st (g4.obj b o hb) fun b' c n hp x hx=>?_,g4.inj,fun b' x hx=>?_,fun b o b' c n hb hp=>?_,g4.nx⟩ g5⟩
  ·have h1:=g4.out b o b' c n hb hp
   have h2:F b'=none:=by
    cases hf:F b' with
    | none=>rfl
    | some y=>unfold joinSt at h1; rw[hf]at h1; cases h1
   show(match F b' with | some _=>none | none=>s1 b')=some x
   rw[h2]; exact hx
  ·have hFn:F b'=none:=by
    cases hf:F b' with
    | none=>rfl
    | some y=>have:=hF b' (by rw[hf]; simp); rw[hS.frm b' x hx]at this; cases this
   show(match F b' with | some _=>none | none=>s1 b')=some x
   rw[hFn]
   exact g4.frm b' x (by unfold joinSt; rw[hFn]; exact hx)
  ·have h1:=g4.out b o b' c n hb hp
   cases hf:F b' with
   | none=>unfold joinSt at h1; rw[hf]at h1; exact h1
   | some y=>unfold joinSt at h1; rw[hf]at h1; cases h1
theorem chks_inv {α:Type}:∀ {ob:List Bool} {k:Option α} {r:α},chks ob k=some r→ob.all id=true∧k=some r
 | [],k,r,h=>⟨rfl,h⟩
 | b::l,k,r,h=>by
  simp only[chks,chk]at h
  cases b with
  | false=>cases h
  | true=>obtain⟨h1,h2⟩:=chks_inv (ob:=l) h; exact⟨by simpa using h1,h2⟩
theorem RelE.put {e:DEnv}{e':Env}(hE:RelE π e e'){d:DV}{a:AV}(hr:RelV π d a)(t:Option Nat):RelE π (e.put t d) (Env.put e' t a):=by
 cases t with
 | none=>exact hE
 | some t=>
  intro u x hu
  simp only[DEnv.put,fnd_rep]at hu
  simp only[Env.put,Env.set]
  split at hu
  ·rename_i e1; rw[if_pos e1]; cases hu; exact hr
  ·rename_i e1; rw[if_neg e1]; exact hE u x hu
theorem RelE.ext {π1:Pi}{e:DEnv}{e':Env}(hE:RelE π e e')(hx:Ext π π1):RelE π1 e e':=fun t d h=>(hE t d h).ext hx
theorem RelE.put1 {e:DEnv}{e':Env}(hE:RelE π e e'){t:Nat}{d:DV}(hr:RelV π d (e' t)):RelE π (e.put (some t) d) e':=by
 intro u x hu
 simp only[DEnv.put,fnd_rep]at hu
 split at hu
 ·rename_i e1; subst e1; cases hu; exact hr
 ·exact hE u x hu
def Done (P:Program)(R:Nat→Prop)(o:AOper)(gd:Bool)(K:Env→Store→Prop)(e':Env)(s':Store):Prop:=match isEff o.op with
 | true=>eff P R o.op (opd e') s' fun v s1=>K (Env.put e' o.dst v) s1
 | false=>nop [] R o.op (opd e') s' fun v ob=>ob∧K (Env.put e' o.dst (match gd with | true=>.whn true v | false=>v)) s'
theorem wv_rel {gd:Bool}{d:DV}{a:AV}(h:RelV π d a):RelV π (wv gd d) (match gd with | true=>.whn true a | false=>a):=by
 cases gd with
 | true=>simp only[wv,RelV]; exact⟨a,rfl,fun _=>h⟩
 | false=>exact h
theorem dxo1_sound {P:Program}{T:List FEnt}(hT:DTblOK P T){o:AOper}{ann:Ann}{gd:Bool}{α:Type}{k:DEnv→DSt→Option α}{r:α}{e:DEnv}{e':Env}(h:dxo1 RD T S e o ann gd k=some r)(hE:RelE π e e')(hS:RelS π Fr S s')(hH:HR π S RD R)
  {K:Env→Store→Prop} (hK:∀ e1 S1 π1 e1' s1,k e1 S1=some r→Ext π π1→RelE π1 e1 e1'→RelS π1 Fr S1 s1→HR π1 S1 RD R→K e1' s1):Done P R o gd K e' s':=by
 have hρ:∀ x,RelV π (opdD e x) (opd e' x):=opd_rel hE
 have call:∀ (f:FuncId) (ds:List DV) (as:List AV),RelVs π ds as→dcall RD T f ds S (fun d S'=>k (e.put o.dst d) S')=some r→ACF P f as s' fun v s1=>(∀ b,R b→s1 b=s' b)∧K (Env.put e' o.dst v) s1:=by
  intro f ds as hr h2
  exact dcallF_sound hS hH hr hT h2 (K:=fun v s1=>K (Env.put e' o.dst v) s1) fun d S1 a π1 s1 g1 g2 g3 g4 g5=>hK _ _ π1 _ _ g1 g3 ((hE.ext g3).put g2 _) g4 g5
 unfold dxo1 at h
 unfold Done
 split at h
 ·rename_i f xs ho
  obtain⟨h1,h2⟩:=chks_inv h
  obtain⟨d1,d2⟩:=dvals_rel hρ h1
  rw[ho]
  exact⟨d2,call f _ _ d1 h2⟩
 ·rename_i g xs ho
  split at h
  ·rename_i f caps hg
   obtain⟨h1,h2⟩:=chks_inv h
   obtain⟨o1,o2⟩:=all_app h1
   have v:=relv_val (hρ g) o1
   rw[hg]at v
   simp only[RelV]at v
   obtain⟨as,e1,v⟩:=v
   obtain⟨d1,d2⟩:=dvals_rel hρ o2
   rw[ho]
   refine⟨relv_df (hρ g) o1,d2,?_⟩
   rw[e1]
   exact call f _ _ (RelVs_app d1 v) h2
  ·cases h
 ·rename_i c x y ho
  split at h
  ·rename_i g hg
   obtain⟨h1,h2⟩:=chks_inv h
   have e1:=bval_inv hg (relv_val (hρ c) h1)
   have fc:=relv_df (hρ c) h1
   rw[ho]
   simp only[isEff,nop,e1]
   cases g with
   | true=>
    simp only[cond_true]at h2 ⊢
    obtain⟨h3,h4⟩:=chks_inv h2
    exact⟨⟨fc,fun _=>relv_df (hρ x) h3,fun h=>(by cases h)⟩,hK _ _ π _ _ h4 (Ext.refl _) (hE.put (wv_rel (relv_val (hρ x) h3)) _) hS hH⟩
   | false=>
    simp only[cond_false]at h2 ⊢
    obtain⟨h3,h4⟩:=chks_inv h2
    exact⟨⟨fc,fun h=>(by cases h),fun _=>relv_df (hρ y) h3⟩,hK _ _ π _ _ h4 (Ext.refl _) (hE.put (wv_rel (relv_val (hρ y) h3)) _) hS hH⟩
  ·cases h
 ·rename_i ne x ho
  split at h
  ·rename_i b hb
   obtain⟨h1,h2⟩:=chks_inv h
   have hv:=relv_val (hρ x) h1
   rw[ho]
   refine⟨relv_df (hρ x) h1,?_⟩
   have val:∀ b,RelV π (isnV ne b) (.bool (if ne then !b else b)):=fun b=>by cases ne <;> exact relv_bool _
   have go:∀ b,k (e.put o.dst (isnV ne b)) S=some r→K (Env.put e' o.dst (.bool (if ne then !b else b))) s':=fun b hk=>hK _ _ π _ _ hk (Ext.refl _) (hE.put (val b) _) hS hH
   have both:b=true→∀ b,k (e.put o.dst (isnV ne b)) S=some r:=fun e1 b'=>by
    subst e1
    simp only[bisn]at h2
    split at h2
    ·rename_i he; cases b' with
     | true=>rw[he]; exact h2
     | false=>exact h2
    ·cases h2
   have kf:k (e.put o.dst (isnV ne false)) S=some r:=by
    cases b with
    | true=>exact both rfl false
    | false=>exact h2
   unfold isnL at hb
   split at hb
   ·rename_i t l hx
    cases hb
    rw[hx]at hv
    simp only[RelV,CR]at hv
    rcases hv with⟨e1,rfl⟩ | ⟨get,e1,hv⟩
    ·simp only[List.cons.injEq,and_true]at e1
     rw[e1]
     exact fun b=>go b (both (by simp) b)
    ·simp only[List.cons.injEq,and_true]at e1
     rw[e1]
     intro b' hb'
     cases b' with
     | false=>exact go false kf
     | true=>exact go true (both (by simpa using hb' rfl) true)
   ·rename_i b0 hx
    split at hb
    ·rename_i T0 t0 l hg
     cases hb
     rw[hx]at hv
     simp only[RelV]at hv
     rcases hv with⟨b',c,n,hp,e1⟩ | ⟨hp,e1⟩
     ·rw[e1]; exact go false kf
     ·rw[e1]
      rcases hS.obj _ _ hg with⟨q1,rfl⟩ | ⟨b2,c2,xs,hp2,_⟩
      ·exact fun b=>go b (both (by simp) b)
      ·rw[hp]at hp2; cases hp2
    ·cases hb
   ·rename_i hx
    cases hb
    rw[hx]at hv
    simp only[RelV]at hv
    rw[hv]
    exact fun b=>go b (both rfl b)
   ·cases hb
  ·cases h
 ·unfold dop at h
  cases he:isEff o.op with
  | true=>
   rw[he]at h
   simp only at h ⊢
   split at h
   ·rename_i d S' ob hd
    obtain⟨h1,h2⟩:=chks_inv h
    exact deo_sound hS hH hρ hd h1 fun a π1 s1 g1 g2 g3 g4=>hK _ _ π1 _ _ h2 g2 ((hE.ext g2).put g1 _) g3 g4
   ·cases h
  | false=>
   rw[he]at h
   simp only at h ⊢
   split at h
   ·rename_i d ob hd
    obtain⟨h1,h2⟩:=chks_inv h
    obtain⟨a,p,g1,g2,g3⟩:=dno_sound hS hH hρ hd h1
    exact g3 _ ⟨g2,hK _ _ π _ _ h2 (Ext.refl _) (hE.put (wv_rel g1) _) hS hH⟩
   ·cases h
theorem dxo_sound {P:Program}{T:List FEnt}(hT:DTblOK P T){o:AOper}{ann:Ann}{α:Type}{k:DEnv→DSt→Option α}{r:α}{e:DEnv}{e':Env}(h:dxo RD T o ann k e S=some r)(hE:RelE π e e')(hS:RelS π Fr S s')(hH:HR π S RD R)
  {K:Env→Store→Prop} (hK:∀ e1 S1 π1 e1' s1,k e1 S1=some r→Ext π π1→RelE π1 e1 e1'→RelS π1 Fr S1 s1→HR π1 S1 RD R→K e1' s1):xo P [] R o K e' s':=by
 have skip:∀ (e0:DEnv),RelE π e0 e'→k (e0.put o.dst (skipD o)) S=some r→(match isEff o.op with
   | true=>K (Env.put e' o.dst .undef) s'
   | false=>K (Env.put e' o.dst (.whn false .undef)) s'):=fun e0 h0 hk=>by
  unfold skipD at hk
  cases he:isEff o.op with
  | true=>rw[he]at hk; exact hK _ _ π _ _ hk (Ext.refl _) (h0.put (by simp only[RelV]) _) hS hH
  | false=>rw[he]at hk; exact hK _ _ π _ _ hk (Ext.refl _) (h0.put (by simp only[RelV]; exact⟨_,rfl,fun hc=>by cases hc⟩) _) hS hH
 have no:∀ (g:Nat) (want:Bool),o.grd=some (g,want)→grdOf want (e' g)=some false→(match isEff o.op with
   | true=>K (Env.put e' o.dst .undef) s'
   | false=>K (Env.put e' o.dst (.whn false .undef)) s')→xo P [] R o K e' s':=fun g want hg hq hk=>by
  unfold xo
  rw[hg]
  simp only[hq]
  cases he:isEff o.op with
  | true=>rw[he]at hk; exact⟨fun h=>(by cases h),fun _=>hk⟩
  | false=>rw[he]at hk; exact hk
 have yes:∀ (g:Nat) (want:Bool),o.grd=some (g,want)→grdOf want (e' g)=some true→Done P R o true K e' s'→xo P [] R o K e' s':=fun g want hg hq hk=>by
  unfold xo
  rw[hg]
  simp only[hq]
  unfold Done at hk
  cases he:isEff o.op with
  | true=>rw[he]at hk; exact⟨fun _=>hk,fun h=>(by cases h)⟩
  | false=>rw[he]at hk; exact hk
 have br:∀ (g:Nat) (want b:Bool) (e0:DEnv),o.grd=some (g,want)→grdOf want (e' g)=some (gb want b)→RelE π e0 e'→gbr RD T o ann k e0 S want b=some r→xo P [] R o K e' s':=fun g want b e0 hg hq h0 hk=>by
  unfold gbr at hk
  cases hb:gb want b with
  | true=>rw[hb]at hk hq; exact yes g want hg hq (dxo1_sound hT hk h0 hS hH hK)
  | false=>rw[hb]at hk hq; exact no g want hg hq (skip e0 h0 hk)
 unfold dxo at h
 split at h
 ·rename_i hg
  have:=dxo1_sound hT h hE hS hH hK
  unfold Done at this
  unfold xo
  rw[hg]
  simp only
  cases he:isEff o.op with
  | true=>rw[he]at this; exact this
  | false=>rw[he]at this; exact this
 ·rename_i g want hg
  have hr:RelV π (e.get g) (e' g):=opd_rel hE (.t g)
  split at h
  ·rename_i c hc
   rw[hc]at hr
   have e1:=bval_inv (d:=.v ⟨.bool,c⟩) rfl hr
   cases c with
   | true=>exact br g want true _ hg (by rw[e1]; rfl) (hE.put1 (by rw[e1]; exact relv_bool _)) h
   | false=>exact br g want false _ hg (by rw[e1]; rfl) (hE.put1 (by rw[e1]; exact relv_bool _)) h
  ·rename_i c hc
   rw[hc]at hr
   simp only[RelV]at hr
   obtain⟨a',e1,hr⟩:=hr
   have e2:=hr trivial
   simp only[CR,List.cons.injEq,and_true]at e2
   rw[e2]at e1
   cases c with
   | true=>exact br g want true _ hg (by rw[e1]; rfl) (hE.put1 (by rw[e1]; simp only[RelV]; exact⟨_,rfl,fun _=>relv_bool _⟩)) h
   | false=>exact br g want false _ hg (by rw[e1]; rfl) (hE.put1 (by rw[e1]; simp only[RelV]; exact⟨_,rfl,fun _=>relv_bool _⟩)) h
  ·rename_i d hc
   rw[hc]at hr
   simp only[RelV]at hr
   obtain⟨a',e1,hr⟩:=hr
   exact no g want hg (by rw[e1]; rfl) (skip e hE h)
  ·cases h
end
end Go.Proofs.YtdacabdocbhkdaaGreat.D

set_option linter.unusedVariables false
set_option linter.unusedSimpArgs false
namespace Go.Proofs.YtdacabdocbhkdaaGreat.D
open Go Go.Proofs.YtdacabdocbhkdaaGreat.L
section
variable {π:Pi} {Fr:Store} {S:DSt} {s':Store}
theorem fnd_mapV {α β:Type}(f:α→β):∀ (l:List (Nat×α)) (k:Nat),fnd (mapV f l) k=(fnd l k).map f
 | [],k=>rfl
 | (c,x)::l,k=>by
  simp only[mapV,fnd,fnd_mapV f l k]
  cases Nat.beq c k <;> rfl
theorem fv_frz {b:Nat}{x:AObj}{D:List AV}{a:AV}(h:a.frz=true):fv b x D a=a:=by
 cases a <;> simp[AV.frz]at h <;> rfl
theorem CR_fv {b:Nat}{x:AObj}{D:List AV}{t:Ty}{y:t.den}{cs:List AV}(h:CR t y cs):cs.map (fv b x D)=cs:=by
 have:∀ (l:List AV),(∀ a∈l,a.frz=true)→l.map (fv b x D)=l:=fun l hl=>by
  induction l with
  | nil=>rfl
  | cons a l ih=>rw[List.map_cons,fv_frz (hl a (by simp)),ih fun a ha=>hl a (by simp[ha])]
 exact this cs (CR_frz h)
theorem MR_fv {b:Nat}{x:AObj}{D:List AV}{ag:Bool}{t:Ty}{y:t.den}{a:AV}(h:MR ag t y a):fv b x D a=a:=by
 cases ag with
 | true=>obtain⟨cs,rfl,_⟩:=h; rfl
 | false=>exact fv_frz (CR_frz h a (by simp))
theorem ERs_fv {b:Nat}{x:AObj}{D:List AV}{ag:Bool}{t:Ty}:∀ {es:List (List Int×t.den)} {es':List (List Int×AV)},ERs ag t es es'→∀ p∈es',fv b x D p.2=p.2
 | [],_,h,p,hp=>by simp only[ERs]at h; subst h; cases hp
 | (k,y)::l,_,h,p,hp=>by
  simp only[ERs]at h
  obtain⟨a,l',rfl,h1,h⟩:=h
  rcases List.mem_cons.1 hp with rfl | hp
  ·exact MR_fv h1
  ·exact ERs_fv h p hp
theorem mput_mem:∀ {es:List (List Int×AV)}{k:List Int}{v:AV}{p:List Int×AV} ,p∈mput es k v→p∈es∨p.2=v
 | [],k,v,p,h=>by simp[mput]at h; subst h; exact .inr rfl
 | (k',u)::l,k,v,p,h=>by
  simp only[mput]at h
  split at h
  ·rcases List.mem_cons.1 h with rfl | h
   ·exact .inr rfl
   ·exact .inl (by simp[h])
  ·rcases List.mem_cons.1 h with rfl | h
   ·exact .inl (by simp)
   ·rcases mput_mem h with h | h
    ·exact .inl (by simp[h])
    ·exact .inr h
theorem map_fv_id {b:Nat}{x:AObj}{D:List AV}{es:List (List Int×AV)}(h:∀ p∈es,fv b x D p.2=p.2):(es.map fun p=>(p.1,fv b x D p.2))=es:=by
 induction es with
 | nil=>rfl
 | cons p es ih=>rw[List.map_cons,h p (by simp),ih fun p hp=>h p (by simp[hp])]
theorem dfzR_sound (hS:RelS π Fr S s'){e:DEnv}{e':Env}(hE:RelE π e e'){b:Nat}{e1:DEnv}{S1:DSt}{T:Nat}{t:Ty}{l:List t.den}(hb:S.get b=some (.row T t l))(h:some (mapV (fz2 S b t l) e,(⟨S.nx,mapV (fzO S b t l) (rmv S.m b)⟩:DSt))=some (e1,S1)):∃ e1' s1,Wk s' e' s1 e1'∧RelE π e1 e1'∧RelS π Fr S1 s1:=by
 ·cases h
  have get:∀ c,(⟨S.nx,mapV (fzO S b t l) (rmv S.m b)⟩:DSt).get c=(if c=b then none else S.get c).map (fzO S b t l):=fun c=>by
   show fnd (mapV _ _) c=_
   rw[fnd_mapV,fnd_rmv]; rfl
  have live:∀ c o,(⟨S.nx,mapV (fzO S b t l) (rmv S.m b)⟩:DSt).get c=some o→c≠b∧∃ o0,S.get c=some o0∧o=fzO S b t l o0:=fun c o hc=>by
   rw[get]at hc
   split at hc
   ·cases hc
   ·rename_i hne
    cases hg:S.get c with
    | none=>rw[hg]at hc; cases hc
    | some o0=>rw[hg]at hc; cases hc; exact⟨hne,o0,rfl,rfl⟩
  rcases hS.obj _ _ hb with⟨hv,rfl⟩ | ⟨b',c,xs,hp,hcap,hs,hr⟩
  ·
   have v1:∀ d a,RelV π d a→RelV π (fz1 S b t [] d) a:=fun d a hd=>by
    cases d with
    | slc b2=>
     simp only[fz1]
     cases hc:Nat.beq b2 b with
     | true=>
      obtain rfl:=beq_iff.1 hc
      simp only[RelV]at hd
      rcases hd with⟨_,_,_,hp,_⟩ | ⟨_,rfl⟩
      ·rw[hv]at hp; cases hp
      ·simp only[cond_true,mkL,RelV]; exact .inl ⟨rfl,rfl⟩
     | false=>
      simp only[cond_false]
      split
      ·exact hd
      ·simp only[RelV]
    | ptr b2 o=>
     simp only[fz1]
     cases hc:Nat.beq b2 b with
     | true=>simp only[cond_true,RelV]
     | false=>
      simp only[cond_false]
      split
      ·exact hd
      ·simp only[RelV]
    | _=>exact hd
   have vs1:∀ ds as,RelVs π ds as→RelVs π (ds.map (fz1 S b t [])) as:=fun ds=>by
    induction ds with
    | nil=>intro as h; exact h
    | cons d ds ih=>
     intro as h
     simp only[RelVs]at h
     obtain⟨a,as',rfl,h1,h2⟩:=h
     exact RelVs_cons (v1 d a h1) (ih as' h2)
   refine⟨e',s',Wk.refl _ _,fun u d hu=>?_,⟨fun c o hc=>?_,fun b1 b2 o1 o2 b' c1 n1 c2 n2 h1 h2 p1 p2=>?_,hS.frm,fun c o b' c1 n1 hc hp=>?_,hS.nx⟩⟩
   ·rw[fnd_mapV]at hu
    cases hg:fnd e u with
    | none=>rw[hg]at hu; cases hu
    | some d0=>
     rw[hg]at hu
     cases hu
     have hd:=hE u d0 hg
     cases d0 with
     | agg cs=>
      simp only[fz2]
      simp only[RelV]at hd ⊢
      obtain⟨as,e1,hd⟩:=hd
      exact⟨as,e1,vs1 _ _ hd⟩
     | tup cs=>
      simp only[fz2]
      simp only[RelV]at hd ⊢
      obtain⟨as,e1,hd⟩:=hd
      exact⟨as,e1,vs1 _ _ hd⟩
     | _=>exact v1 _ _ hd
   ·obtain⟨hne,o0,h0,rfl⟩:=live c o hc
    have hO:=hS.obj _ _ h0
    cases o0 with
    | box cs=>
     obtain⟨b',c,n,as,g1,g2,g3⟩:=hO
     exact⟨b',c,n,as,g1,g2,vs1 _ _ g3⟩
    | _=>exact hO
   ·obtain⟨_,q1,g1,_⟩:=live _ _ h1
    obtain⟨_,q2,g2,_⟩:=live _ _ h2
    exact hS.inj _ _ _ _ _ _ _ _ _ g1 g2 p1 p2
   ·obtain⟨_,q1,g1,_⟩:=live _ _ hc
    exact hS.out _ _ _ _ _ g1 hp
  ·have v1:∀ d a,RelV π d a→RelV π (fz1 S b t l d) (fv b' (.row T t.w c xs) [] a):=fun d a hd=>by
    have nm:∀ b2 o2 b2' c2 n2,S.get b2=some o2→Nat.beq b2 b=false→π b2=some (.real b2' c2 n2)→b2'≠b':=fun b2 o2 b2' c2 n2 h1 h2 h3 e=>by
     subst e
     have:=hS.inj _ _ _ _ _ _ _ _ _ h1 hb h3 hp
     subst this
     simp at h2
    cases d with
    | slc b2=>
     simp only[fz1]
     cases hc:Nat.beq b2 b with
     | true=>
      obtain rfl:=beq_iff.1 hc
      simp only[RelV]at hd
      rcases hd with⟨b3,c3,n3,hp3,rfl⟩ | ⟨hp3,rfl⟩
      ·rw[hp]at hp3; cases hp3
       simp only[cond_true,fv,if_true]
       rw[if_pos ⟨by rw[hr.1]; exact Nat.le_refl _,hcap⟩]
       simp only[mkL,RelV]
       exact .inr ⟨_,rfl,hr.2⟩
      ·rw[hp]at hp3; cases hp3
     | false=>
      simp only[cond_false]
      split
      ·rename_i o2 ho2
       have hd0:=hd
       simp only[RelV]at hd
       rcases hd with⟨b3,c3,n3,hp3,rfl⟩ | ⟨hp3,rfl⟩
       ·simp only[fv]; rw[if_neg (nm _ _ _ _ _ ho2 hc hp3)]; exact hd0
       ·exact hd0
      ·simp only[RelV]
    | ptr b2 o=>
     simp only[fz1]
     cases hc:Nat.beq b2 b with
     | true=>simp only[cond_true,RelV]
     | false=>
      simp only[cond_false]
      split
      ·rename_i o2 ho2
       have hd0:=hd
       simp only[RelV]at hd
       obtain⟨b3,c3,n3,hp3,rfl⟩:=hd
       simp only[fv]; rw[if_neg (nm _ _ _ _ _ ho2 hc hp3)]; exact hd0
      ·simp only[RelV]
    | v x=>
     have:a.frz=true:=CR_frz (by simpa only[RelV]using hd) a (by simp)
     rw[fv_frz this]; exact hd
    | undef=>simp only[fz1,RelV]
    | emp=>simp only[RelV]at hd; subst hd; simp only[fz1,fv,RelV]
    | nilp=>simp only[RelV]at hd; subst hd; simp only[fz1,fv,RelV]
    | nilm=>simp only[RelV]at hd; subst hd; simp only[fz1,fv,RelV]
    | agg ds=>have hd0:=hd; simp only[RelV]at hd; obtain⟨as,rfl,_⟩:=hd; exact hd0
    | tup ds=>have hd0:=hd; simp only[RelV]at hd; obtain⟨as,rfl,_⟩:=hd; exact hd0
    | elm ds=>have hd0:=hd; simp only[RelV]at hd; obtain⟨as,rfl,_⟩:=hd; exact hd0
    | fn f ds=>have hd0:=hd; simp only[RelV]at hd; obtain⟨as,rfl,_⟩:=hd; exact hd0
    | rptr b k i j=>have hd0:=hd; simp only[RelV]at hd; obtain⟨_,_,_,_,_,rfl⟩:=hd; exact hd0
    | slo b k i j=>have hd0:=hd; simp only[RelV]at hd; obtain⟨_,_,_,_,_,rfl⟩:=hd; exact hd0
    | mp b=>have hd0:=hd; simp only[RelV]at hd; obtain⟨_,_,_,_,rfl⟩:=hd; exact hd0
    | stk b=>have hd0:=hd; simp only[RelV]at hd; obtain⟨_,_,rfl⟩:=hd; exact hd0
    | whn g d=>have hd0:=hd; simp only[RelV]at hd; obtain⟨_,rfl,_⟩:=hd; exact hd0
   have vs1:∀ ds as,RelVs π ds as→RelVs π (ds.map (fz1 S b t l)) (as.map (fv b' (.row T t.w c xs) [])):=fun ds=>by
    induction ds with
    | nil=>intro as h; simp only[RelVs]at h; subst h; exact RelVs_nil
    | cons d ds ih=>
     intro as h
     simp only[RelVs]at h
     obtain⟨a,as',rfl,h1,h2⟩:=h
     exact RelVs_cons (v1 d a h1) (ih as' h2)
   let x:AObj:=.row T t.w c xs
   let s1:Store:=fun c'=>if c'=b' then none else match Fr c' with
    | none=>(s' c').map (fvo b' x [])
    | some _=>s' c'
   have s1v:∀ c' y,c'≠b'→Fr c'=none→s' c'=some y→s1 c'=some (fvo b' x [] y):=fun c' y h1 h2 h3=>by
    show(if c'=b' then none else _)=_
    rw[if_neg h1]
    simp only[h2,h3,Option.map_some]
   have hfrz:frzO x:=fun l2 hl a ha=>by
    obtain⟨i,hi,rfl⟩:=List.getElem_of_mem hl
    have:=hr.2 i (by rw[← hr.1]; exact hi)
    rw[List.getD_eq_getElem?_getD,List.getElem?_eq_getElem hi]at this
    exact CR_frz this a ha
   refine⟨fun u=>fva b' x [] (e' u),s1,?_,fun u d hu=>?_,⟨fun c2 o hc=>?_,fun b1 b2 o1 o2 b3 c1 n1 c2 n2 h1 h2 p1 p2=>?_,fun b3 y h=>?_,fun c2 o b3 c1 n1 hc hp=>?_,hS.nx⟩⟩
   ·refine Wk.frz [] hs hfrz ?_ (fun c'=>?_) (fun u=>.inr (.inr rfl))
    ·show(if b'=b' then none else _)=none
     rw[if_pos rfl]
    ·by_cases hcb:c'=b'
     ·left; show(if c'=b' then none else _)=none; rw[if_pos hcb]
     ·cases hf:Fr c' with
      | none=>right; right; show(if c'=b' then none else _)=_; rw[if_neg hcb]; simp only[hf]; rfl
      | some y=>right; left; show(if c'=b' then none else _)=_; rw[if_neg hcb]; simp only[hf]
   ·rw[fnd_mapV]at hu
    cases hg:fnd e u with
    | none=>rw[hg]at hu; cases hu
    | some d0=>
     rw[hg]at hu
     cases hu
     have hd:=hE u d0 hg
     show RelV π _ (fva b' x [] (e' u))
     cases d0 with
     | agg cs=>
      simp only[fz2]
      simp only[RelV]at hd ⊢
      obtain⟨as,e1,hd⟩:=hd
      rw[e1]
      exact⟨_,rfl,vs1 _ _ hd⟩
     | tup cs=>
      simp only[fz2]
      simp only[RelV]at hd ⊢
      obtain⟨as,e1,hd⟩:=hd
      rw[e1]
      exact⟨_,rfl,vs1 _ _ hd⟩
     | undef=>simp only[fz2,fz1,RelV]
     | v y=>
      have:(e' u).frz=true:=CR_frz (by simpa only[RelV]using hd) _ (by simp)
      have e2:fva b' x [] (e' u)=e' u:=by
       revert this; cases e' u <;> intro this <;> simp[AV.frz]at this <;> rfl
      rw[e2]; exact hd
     | slc b2=>
      have e2:fva b' x [] (e' u)=fv b' x [] (e' u):=by
       simp only[RelV]at hd
       rcases hd with⟨_,_,_,_,e3⟩ | ⟨_,e3⟩ <;> rw[e3] <;> rfl
      rw[e2]; exact v1 _ _ hd
     | ptr b2 o=>
      have e2:fva b' x [] (e' u)=fv b' x [] (e' u):=by
       simp only[RelV]at hd
       obtain⟨_,_,_,_,e3⟩:=hd; rw[e3]; rfl
      rw[e2]; exact v1 _ _ hd
     | emp=>simp only[RelV]at hd; rw[hd]; simp only[fz2,fz1,fva,fv,RelV]
     | nilp=>simp only[RelV]at hd; rw[hd]; simp only[fz2,fz1,fva,fv,RelV]
     | nilm=>simp only[RelV]at hd; rw[hd]; simp only[fz2,fz1,fva,fv,RelV]
     | elm ds=>have hd0:=hd; simp only[RelV]at hd; obtain⟨as,e3,_⟩:=hd; rw[e3]at hd0 ⊢; exact hd0
     | fn f ds=>have hd0:=hd; simp only[RelV]at hd; obtain⟨as,e3,_⟩:=hd; rw[e3]at hd0 ⊢; exact hd0
     | rptr b k i j=>have hd0:=hd; simp only[RelV]at hd; obtain⟨_,_,_,_,_,e3⟩:=hd; rw[e3]at hd0 ⊢; exact hd0
     | slo b k i j=>have hd0:=hd; simp only[RelV]at hd; obtain⟨_,_,_,_,_,e3⟩:=hd; rw[e3]at hd0 ⊢; exact hd0
     | mp b=>have hd0:=hd; simp only[RelV]at hd; obtain⟨_,_,_,_,e3⟩:=hd; rw[e3]at hd0 ⊢; exact hd0
     | stk b=>have hd0:=hd; simp only[RelV]at hd; obtain⟨_,_,e3⟩:=hd; rw[e3]at hd0 ⊢; exact hd0
     | whn g d=>have hd0:=hd; simp only[RelV]at hd; obtain⟨_,e3,_⟩:=hd; rw[e3]at hd0 ⊢; exact hd0
   ·obtain⟨hne,o0,h0,rfl⟩:=live c2 o hc
    have hO:=hS.obj _ _ h0
    have ne:∀ b3 c3 n3,π c2=some (.real b3 c3 n3)→b3≠b':=fun b3 c3 n3 hp3 e=>by
     subst e; exact hne (hS.inj _ _ _ _ _ _ _ _ _ h0 hb hp3 hp)
    cases o0 with
    | box cs=>
     obtain⟨b3,c3,n3,as,g1,g2,g3⟩:=hO
     exact⟨b3,c3,n3,_,g1,s1v _ _ (ne _ _ _ g1) (hS.out _ _ _ _ _ h0 g1) g2,vs1 _ _ g3⟩
    | row T2 t2 l2=>
     rcases hO with⟨g1,g2⟩ | ⟨b3,c3,ys,g1,g2,g3,g4⟩
     ·exact .inl ⟨g1,g2⟩
     ·refine .inr ⟨b3,c3,_,g1,g2,s1v _ _ (ne _ _ _ g1) (hS.out _ _ _ _ _ h0 g1) g3,by simp[g4.1],fun i hi=>?_⟩
      have hi':i < ys.length:=by rw[g4.1]; exact hi
      have:=g4.2 i hi
      have e3:(ys.map fun l=>l.map (fv b' x [])).getD i []=(ys.getD i []).map (fv b' x []):=by
       simp[List.getD_eq_getElem?_getD,List.getElem?_map,hi']
      rw[e3,CR_fv this]; exact this
    | imap kn ag t2 es pd=>
     obtain⟨b3,c3,n3,es',g1,g2,g3⟩:=hO
     refine⟨b3,c3,n3,es',g1,g2,?_⟩
     cases pd with
     | none=>
      have:=s1v _ _ (ne _ _ _ g1) (hS.out _ _ _ _ _ h0 g1) g3
      rw[show s1 b3=some (.imap kn es' none)by rw[this]; simp only[fvo]; rw[map_fv_id (ERs_fv g2)]]
     | some p=>
      obtain⟨tk,key,v0⟩:=p
      obtain⟨y,v0',q1,q2,q3⟩:=g3
      refine⟨y,v0',q1,q2,?_⟩
      rw[s1v _ _ (ne _ _ _ g1) (hS.out _ _ _ _ _ h0 g1) q3]
      simp only[fvo]
      rw[map_fv_id fun p hp=>by
       rcases mput_mem hp with hp | hp
       ·exact ERs_fv g2 p hp
       ·rw[hp]; exact MR_fv q2]
   ·obtain⟨_,q1,g1,_⟩:=live _ _ h1
    obtain⟨_,q2,g2,_⟩:=live _ _ h2
    exact hS.inj _ _ _ _ _ _ _ _ _ g1 g2 p1 p2
   ·have hne:b3≠b':=fun e=>by rw[e,hS.out _ _ _ _ _ hb hp]at h; cases h
    show(if b3=b' then none else _)=_
    rw[if_neg hne]
    simp only[h]
    exact hS.frm _ _ h
   ·obtain⟨_,q1,g1,_⟩:=live _ _ hc
    exact hS.out _ _ _ _ _ g1 hp
theorem fzn_frz:∀ {ds:List DV}{as:List AV} ,RelVs π ds as→ds.all DV.fzn=true→∀ a∈as,a.frz=true
 | [],as,h,_=>by simp only[RelVs]at h; subst h; intro a ha; cases ha
 | d::ds,as,h,hz=>by
  simp only[RelVs]at h
  obtain⟨a,as',rfl,h1,h2⟩:=h
  simp only[List.all_cons,Bool.and_eq_true]at hz
  intro c hc
  rcases List.mem_cons.1 hc with rfl | hc
  ·cases d with
   | v x=>exact CR_frz (by simpa only[RelV]using h1) _ (by simp)
   | emp=>simp only[RelV]at h1; subst h1; rfl
   | nilp=>simp only[RelV]at h1; subst h1; rfl
   | nilm=>simp only[RelV]at h1; subst h1; rfl
   | elm ds=>simp only[RelV]at h1; obtain⟨_,rfl,_⟩:=h1; rfl
   | _=>simp[DV.fzn]at hz
  ·exact fzn_frz h2 hz.2 c hc
theorem dfzB_sound (hS:RelS π Fr S s'){e:DEnv}{e':Env}(hE:RelE π e e'){b:Nat}{e1:DEnv}{S1:DSt}{cs:List DV}(hb:S.get b=some (.box cs))(hz:cs.all DV.fzn=true)(h:some (mapV (fb2 S b cs) e,(⟨S.nx,mapV (fbO S b cs) (rmv S.m b)⟩:DSt))=some (e1,S1)):∃ e1' s1,Wk s' e' s1 e1'∧RelE π e1 e1'∧RelS π Fr S1 s1:=by
 ·cases h
  have get:∀ c,(⟨S.nx,mapV (fbO S b cs) (rmv S.m b)⟩:DSt).get c=(if c=b then none else S.get c).map (fbO S b cs):=fun c=>by
   show fnd (mapV _ _) c=_
   rw[fnd_mapV,fnd_rmv]; rfl
  have live:∀ c o,(⟨S.nx,mapV (fbO S b cs) (rmv S.m b)⟩:DSt).get c=some o→c≠b∧∃ o0,S.get c=some o0∧o=fbO S b cs o0:=fun c o hc=>by
   rw[get]at hc
   split at hc
   ·cases hc
   ·rename_i hne
    cases hg:S.get c with
    | none=>rw[hg]at hc; cases hc
    | some o0=>rw[hg]at hc; cases hc; exact⟨hne,o0,rfl,rfl⟩
  obtain⟨b',c0,n0,ax,hp,hs,hr⟩:=hS.obj _ _ hb
  ·skip
   have v1:∀ d a,RelV π d a→RelV π (fb1 S b cs d) (fv b' (.box ax) [] a):=fun d a hd=>by
    have nm:∀ b2 o2 b2' c2 n2,S.get b2=some o2→Nat.beq b2 b=false→π b2=some (.real b2' c2 n2)→b2'≠b':=fun b2 o2 b2' c2 n2 h1 h2 h3 e=>by
     subst e
     have:=hS.inj _ _ _ _ _ _ _ _ _ h1 hb h3 hp
     subst this
     simp at h2
    cases d with
    | slc b2=>
     simp only[fb1]
     cases hc:Nat.beq b2 b with
     | true=>simp only[cond_true,RelV]
     | false=>
      simp only[cond_false]
      split
      ·rename_i o2 ho2
       have hd0:=hd
       simp only[RelV]at hd
       rcases hd with⟨b3,c3,n3,hp3,rfl⟩ | ⟨hp3,rfl⟩
       ·simp only[fv]; rw[if_neg (nm _ _ _ _ _ ho2 hc hp3)]; exact hd0
       ·exact hd0
      ·simp only[RelV]
    | ptr b2 o=>
     simp only[fb1]
     cases hc:Nat.beq b2 b with
     | true=>
      obtain rfl:=beq_iff.1 hc
      simp only[RelV]at hd
      obtain⟨b3,c3,n3,hp3,rfl⟩:=hd
      rw[hp]at hp3; cases hp3
      simp only[cond_true,fv,if_true]
      cases hl:leb o cs.length with
      | true=>
       simp only[leb,Nat.ble_eq]at hl
       rw[if_pos (by rw[RelVs_len hr]; exact hl)]
       simp only[cond_true,RelV]
       exact⟨_,rfl,RelVs_drop o hr⟩
      | false=>simp only[cond_false,RelV]
     | false=>
      simp only[cond_false]
      split
      ·rename_i o2 ho2
       have hd0:=hd
       simp only[RelV]at hd
       obtain⟨b3,c3,n3,hp3,rfl⟩:=hd
       simp only[fv]; rw[if_neg (nm _ _ _ _ _ ho2 hc hp3)]; exact hd0
      ·simp only[RelV]
    | v x=>
     have:a.frz=true:=CR_frz (by simpa only[RelV]using hd) a (by simp)
     rw[fv_frz this]; exact hd
    | undef=>simp only[fb1,RelV]
    | emp=>simp only[RelV]at hd; subst hd; simp only[fb1,fv,RelV]
    | nilp=>simp only[RelV]at hd; subst hd; simp only[fb1,fv,RelV]
    | nilm=>simp only[RelV]at hd; subst hd; simp only[fb1,fv,RelV]
    | agg ds=>have hd0:=hd; simp only[RelV]at hd; obtain⟨as,rfl,_⟩:=hd; exact hd0
    | tup ds=>have hd0:=hd; simp only[RelV]at hd; obtain⟨as,rfl,_⟩:=hd; exact hd0
    | elm ds=>have hd0:=hd; simp only[RelV]at hd; obtain⟨as,rfl,_⟩:=hd; exact hd0
    | fn f ds=>have hd0:=hd; simp only[RelV]at hd; obtain⟨as,rfl,_⟩:=hd; exact hd0
    | rptr b k i j=>have hd0:=hd; simp only[RelV]at hd; obtain⟨_,_,_,_,_,rfl⟩:=hd; exact hd0
    | slo b k i j=>have hd0:=hd; simp only[RelV]at hd; obtain⟨_,_,_,_,_,rfl⟩:=hd; exact hd0
    | mp b=>have hd0:=hd; simp only[RelV]at hd; obtain⟨_,_,_,_,rfl⟩:=hd; exact hd0
    | stk b=>have hd0:=hd; simp only[RelV]at hd; obtain⟨_,_,rfl⟩:=hd; exact hd0
    | whn g d=>have hd0:=hd; simp only[RelV]at hd; obtain⟨_,rfl,_⟩:=hd; exact hd0
   have vs1:∀ ds as,RelVs π ds as→RelVs π (ds.map (fb1 S b cs)) (as.map (fv b' (.box ax) [])):=fun ds=>by
    induction ds with
    | nil=>intro as h; simp only[RelVs]at h; subst h; exact RelVs_nil
    | cons d ds ih=>
     intro as h
     simp only[RelVs]at h
     obtain⟨a,as',rfl,h1,h2⟩:=h
     exact RelVs_cons (v1 d a h1) (ih as' h2)
   let x:AObj:=.box ax
   let s1:Store:=fun c'=>if c'=b' then none else match Fr c' with
    | none=>(s' c').map (fvo b' x [])
    | some _=>s' c'
   have s1v:∀ c' y,c'≠b'→Fr c'=none→s' c'=some y→s1 c'=some (fvo b' x [] y):=fun c' y h1 h2 h3=>by
    show(if c'=b' then none else _)=_
    rw[if_neg h1]
    simp only[h2,h3,Option.map_some]
   have hfrz:frzO x:=fzn_frz hr hz
   refine⟨fun u=>fva b' x [] (e' u),s1,?_,fun u d hu=>?_,⟨fun c2 o hc=>?_,fun b1 b2 o1 o2 b3 c1 n1 c2 n2 h1 h2 p1 p2=>?_,fun b3 y h=>?_,fun c2 o b3 c1 n1 hc hp=>?_,hS.nx⟩⟩
   ·refine Wk.frz [] hs hfrz ?_ (fun c'=>?_) (fun u=>.inr (.inr rfl))
    ·show(if b'=b' then none else _)=none
     rw[if_pos rfl]
    ·by_cases hcb:c'=b'
     ·left; show(if c'=b' then none else _)=none; rw[if_pos hcb]
     ·cases hf:Fr c' with
      | none=>right; right; show(if c'=b' then none else _)=_; rw[if_neg hcb]; simp only[hf]; rfl
      | some y=>right; left; show(if c'=b' then none else _)=_; rw[if_neg hcb]; simp only[hf]
   ·rw[fnd_mapV]at hu
    cases hg:fnd e u with
    | none=>rw[hg]at hu; cases hu
    | some d0=>
     rw[hg]at hu
     cases hu
     have hd:=hE u d0 hg
     show RelV π _ (fva b' x [] (e' u))
     cases d0 with
     | agg cs=>
      simp only[fb2]
      simp only[RelV]at hd ⊢
      obtain⟨as,e1,hd⟩:=hd
      rw[e1]
      exact⟨_,rfl,vs1 _ _ hd⟩
     | tup cs=>
      simp only[fb2]
      simp only[RelV]at hd ⊢
      obtain⟨as,e1,hd⟩:=hd
      rw[e1]
      exact⟨_,rfl,vs1 _ _ hd⟩
     | undef=>simp only[fb2,fb1,RelV]
     | v y=>
      have:(e' u).frz=true:=CR_frz (by simpa only[RelV]using hd) _ (by simp)
      have e2:fva b' x [] (e' u)=e' u:=by
       revert this; cases e' u <;> intro this <;> simp[AV.frz]at this <;> rfl
      rw[e2]; exact hd
     | slc b2=>
      have e2:fva b' x [] (e' u)=fv b' x [] (e' u):=by
       simp only[RelV]at hd
       rcases hd with⟨_,_,_,_,e3⟩ | ⟨_,e3⟩ <;> rw[e3] <;> rfl
      rw[e2]; exact v1 _ _ hd
     | ptr b2 o=>
      have e2:fva b' x [] (e' u)=fv b' x [] (e' u):=by
       simp only[RelV]at hd
       obtain⟨_,_,_,_,e3⟩:=hd; rw[e3]; rfl
      rw[e2]; exact v1 _ _ hd
     | emp=>simp only[RelV]at hd; rw[hd]; simp only[fb2,fb1,fva,fv,RelV]
     | nilp=>simp only[RelV]at hd; rw[hd]; simp only[fb2,fb1,fva,fv,RelV]
     | nilm=>simp only[RelV]at hd; rw[hd]; simp only[fb2,fb1,fva,fv,RelV]
     | elm ds=>have hd0:=hd; simp only[RelV]at hd; obtain⟨as,e3,_⟩:=hd; rw[e3]at hd0 ⊢; exact hd0
     | fn f ds=>have hd0:=hd; simp only[RelV]at hd; obtain⟨as,e3,_⟩:=hd; rw[e3]at hd0 ⊢; exact hd0
     | rptr b k i j=>have hd0:=hd; simp only[RelV]at hd; obtain⟨_,_,_,_,_,e3⟩:=hd; rw[e3]at hd0 ⊢; exact hd0
     | slo b k i j=>have hd0:=hd; simp only[RelV]at hd; obtain⟨_,_,_,_,_,e3⟩:=hd; rw[e3]at hd0 ⊢; exact hd0
     | mp b=>have hd0:=hd; simp only[RelV]at hd; obtain⟨_,_,_,_,e3⟩:=hd; rw[e3]at hd0 ⊢; exact hd0
     | stk b=>have hd0:=hd; simp only[RelV]at hd; obtain⟨_,_,e3⟩:=hd; rw[e3]at hd0 ⊢; exact hd0
     | whn g d=>have hd0:=hd; simp only[RelV]at hd; obtain⟨_,e3,_⟩:=hd; rw[e3]at hd0 ⊢; exact hd0
   ·obtain⟨hne,o0,h0,rfl⟩:=live c2 o hc
    have hO:=hS.obj _ _ h0
    have ne:∀ b3 c3 n3,π c2=some (.real b3 c3 n3)→b3≠b':=fun b3 c3 n3 hp3 e=>by
     subst e; exact hne (hS.inj _ _ _ _ _ _ _ _ _ h0 hb hp3 hp)
    cases o0 with
    | box cs=>
     obtain⟨b3,c3,n3,as,g1,g2,g3⟩:=hO
     exact⟨b3,c3,n3,_,g1,s1v _ _ (ne _ _ _ g1) (hS.out _ _ _ _ _ h0 g1) g2,vs1 _ _ g3⟩
    | row T2 t2 l2=>
     rcases hO with⟨g1,g2⟩ | ⟨b3,c3,ys,g1,g2,g3,g4⟩
     ·exact .inl ⟨g1,g2⟩
     ·refine .inr ⟨b3,c3,_,g1,g2,s1v _ _ (ne _ _ _ g1) (hS.out _ _ _ _ _ h0 g1) g3,by simp[g4.1],fun i hi=>?_⟩
      have hi':i < ys.length:=by rw[g4.1]; exact hi
      have:=g4.2 i hi
      have e3:(ys.map fun l=>l.map (fv b' x [])).getD i []=(ys.getD i []).map (fv b' x []):=by
       simp[List.getD_eq_getElem?_getD,List.getElem?_map,hi']
      rw[e3,CR_fv this]; exact this
    | imap kn ag t2 es pd=>
     obtain⟨b3,c3,n3,es',g1,g2,g3⟩:=hO
     refine⟨b3,c3,n3,es',g1,g2,?_⟩
     cases pd with
     | none=>
      have:=s1v _ _ (ne _ _ _ g1) (hS.out _ _ _ _ _ h0 g1) g3
      rw[show s1 b3=some (.imap kn es' none)by rw[this]; simp only[fvo]; rw[map_fv_id (ERs_fv g2)]]
     | some p=>
      obtain⟨tk,key,v0⟩:=p
      obtain⟨y,v0',q1,q2,q3⟩:=g3
      refine⟨y,v0',q1,q2,?_⟩
      rw[s1v _ _ (ne _ _ _ g1) (hS.out _ _ _ _ _ h0 g1) q3]
      simp only[fvo]
      rw[map_fv_id fun p hp=>by
       rcases mput_mem hp with hp | hp
       ·exact ERs_fv g2 p hp
       ·rw[hp]; exact MR_fv q2]
   ·obtain⟨_,q1,g1,_⟩:=live _ _ h1
    obtain⟨_,q2,g2,_⟩:=live _ _ h2
    exact hS.inj _ _ _ _ _ _ _ _ _ g1 g2 p1 p2
   ·have hne:b3≠b':=fun e=>by rw[e,hS.out _ _ _ _ _ hb hp]at h; cases h
    show(if b3=b' then none else _)=_
    rw[if_neg hne]
    simp only[h]
    exact hS.frm _ _ h
   ·obtain⟨_,q1,g1,_⟩:=live _ _ hc
    exact hS.out _ _ _ _ _ g1 hp
theorem dfz_sound (hS:RelS π Fr S s'){e:DEnv}{e':Env}(hE:RelE π e e'){b:Nat}{e1:DEnv}{S1:DSt}(h:dfz e S b=some (e1,S1)):∃ e1' s1,Wk s' e' s1 e1'∧RelE π e1 e1'∧RelS π Fr S1 s1:=by
 unfold dfz at h
 split at h
 ·rename_i cs hb
  cases hz:cs.all DV.fzn with
  | false=>rw[hz]at h; cases h
  | true=>rw[hz]at h; exact dfzB_sound hS hE hb hz h
 ·rename_i T t l hb
  exact dfzR_sound hS hE hb h
 ·cases h
end
end Go.Proofs.YtdacabdocbhkdaaGreat.D

set_option linter.unusedVariables false
set_option linter.unusedSimpArgs false
namespace Go.Proofs.YtdacabdocbhkdaaGreat.D
open Go Go.Proofs.YtdacabdocbhkdaaGreat.L
section
variable {π:Pi} {Fr:Store} {S:DSt} {s':Store}
theorem HR_nil (π:Pi)(S:DSt):HR π S [] (fun _=>False):=⟨fun b hb=>by simp at hb,fun b _ _ _ hb=>by simp at hb,fun _ h=>h.elim⟩
theorem dxr_sound {P:Program}{T:List FEnt}(hT:DTblOK P T){α:Type}{k:DEnv→DSt→Option α}{r:α}{K:Env→Store→Prop}:∀ (l:List DOper) {π:Pi} {S:DSt} {s':Store} {e:DEnv} {e':Env},dxr T l k e S=some r→RelE π e e'→RelS π Fr S s' →
  (∀ e1 S1 π1 e1' s1,k e1 S1=some r→Ext π π1→RelE π1 e1 e1'→RelS π1 Fr S1 s1→K e1' s1)→xrw P [] (eraseO l) K e' s'
 | [],π,S,s',e,e',h,hE,hS,hK=>⟨e',s',Wk.refl _ _,hK _ _ π _ _ h (Ext.refl _) hE hS⟩
 | .op o a::l,π,S,s',e,e',h,hE,hS,hK=>by
  simp only[dxr]at h
  exact⟨e',s',Wk.refl _ _,dxo_sound hT h hE hS (HR_nil π S) fun e1 S1 π1 e1' s1 g1 g2 g3 g4 g5=>
   dxr_sound hT l g1 g3 g4 fun e2 S2 π2 e2' s2 q1 q2 q3 q4=>hK _ _ π2 _ _ q1 (g2.trans q2) q3 q4⟩
 | .fz u p::l,π,S,s',e,e',h,hE,hS,hK=>by
  simp only[dxr]at h
  split at h
  ·split at h
   ·rename_i b hb e1 S1 hz
    obtain⟨e1',s1,w,g1,g2⟩:=dfz_sound hS hE hz
    exact xrw_wk w _ (dxr_sound hT l h g1 g2 hK)
   ·cases h
  ·exact dxr_sound hT l h hE hS hK
theorem dxrD_sound {P:Program}{T:List FEnt}(hT:DTblOK P T){RD:List Nat}{R:Nat→Prop}{α:Type}{k:DEnv→DSt→Option α}{r:α}{K:Env→Store→Prop}:∀ (l:List (AOper×Ann)) {π:Pi} {S:DSt} {s':Store} {e:DEnv} {e':Env},dxrD RD T l k e S=some r→RelE π e e'→RelS π Fr S s'→HR π S RD R →
  (∀ e1 S1 π1 e1' s1,k e1 S1=some r→Ext π π1→RelE π1 e1 e1'→RelS π1 Fr S1 s1→K e1' s1)→xr P [] R (l.map (·.1)) K e' s'
 | [],π,S,s',e,e',h,hE,hS,hH,hK=>hK _ _ π _ _ h (Ext.refl _) hE hS
 | (o,a)::l,π,S,s',e,e',h,hE,hS,hH,hK=>by
  simp only[dxrD]at h
  exact dxo_sound hT h hE hS hH fun e1 S1 π1 e1' s1 g1 g2 g3 g4 g5=>
   dxrD_sound hT l g1 g3 g4 g5 fun e2 S2 π2 e2' s2 q1 q2 q3 q4=>hK _ _ π2 _ _ q1 (g2.trans q2) q3 q4
theorem rsOk_sound {e:DEnv}{e':Env}(hE:RelE π e e')(hS:RelS π Fr S s'):∀ {rs RD:List Nat},rsOk e S rs=some RD→HR π S RD (rOf e' rs)∧∀ b,rOf e' rs b→own s' b
 | [],RD,h=>by
  cases h
  exact⟨⟨fun b hb=>by simp at hb,fun b _ _ _ hb=>by simp at hb,fun _ h=>h.elim⟩,fun b h=>h.elim⟩
 | t::l,RD,h=>by
  simp only[rsOk]at h
  split at h
  ·rename_i bs hbs
   obtain⟨h1,h2⟩:=rsOk_sound hE hS hbs
   have hr:RelV π (e.get t) (e' t):=opd_rel hE (.t t)
   have name:∀ b o,S.get b=some o→RD=b::bs→(∀ b' c n,π b=some (.real b' c n)→nameOf (e' t).val=some b')→(∀ b',nameOf (e' t).val=some b'→∃ c n,π b=some (.real b' c n))→HR π S RD (rOf e' (t::l))∧∀ b,rOf e' (t::l) b→own s' b:=by
    intro b o hb e1 n1 n2
    subst e1
    refine⟨⟨fun c hc=>?_,fun c b' m n hc hp=>?_,fun b' hR=>?_⟩,fun b' hR=>?_⟩
    ·rcases List.mem_cons.1 (any_mem.1 hc)with rfl | hc
     ·exact⟨o,hb,(hS.obj _ _ hb).loc⟩
     ·exact h1.live c (any_mem.2 hc)
    ·rcases List.mem_cons.1 (any_mem.1 hc)with rfl | hc
     ·exact .inl (n1 _ _ _ hp)
     ·exact .inr (h1.to c b' m n (any_mem.2 hc) hp)
    ·rcases hR with hR | hR
     ·obtain⟨c,n,hp⟩:=n2 _ hR; exact⟨b,c,n,any_mem.2 (by simp),hp⟩
     ·obtain⟨c,m,n,q1,q2⟩:=h1.of b' hR; exact⟨c,m,n,any_mem.2 (by simp[any_mem.1 q1]),q2⟩
    ·rcases hR with hR | hR
     ·obtain⟨c,n,hp⟩:=n2 _ hR; exact(hS.obj _ _ hb).some' hp
     ·exact h2 b' hR
   have none':RD=bs→nameOf (e' t).val=none→HR π S RD (rOf e' (t::l))∧∀ b,rOf e' (t::l) b→own s' b:=by
    intro e1 hn
    subst e1
    have iff:∀ b,rOf e' (t::l) b↔rOf e' l b:=fun b=>⟨fun h=>h.elim (fun h=>by rw[hn]at h; cases h) id,.inr⟩
    exact⟨⟨h1.live,fun c b' m n hc hp=>(iff _).2 (h1.to c b' m n hc hp),fun b' hR=>h1.of b' ((iff _).1 hR)⟩,fun b' hR=>h2 b' ((iff _).1 hR)⟩
   split at h
   ·rename_i b o hg
    rw[hg]at hr
    simp only[RelV]at hr
    obtain⟨b',c,n,hp,e1⟩:=hr
    split at h
    ·rename_i o2 hb
     cases h
     exact name b o2 hb rfl (fun b2 c2 n2 hp2=>by rw[hp]at hp2; cases hp2; rw[e1]; rfl) (fun b2 hn=>by rw[e1]at hn; cases hn; exact⟨c,n,hp⟩)
    ·cases h
   ·rename_i b k i j hg
    rw[hg]at hr
    simp only[RelV]at hr
    obtain⟨b',c,n,hp,_,e1⟩:=hr
    split at h
    ·rename_i o2 hb
     cases h
     exact name b o2 hb rfl (fun b2 c2 n2 hp2=>by rw[hp]at hp2; cases hp2; rw[e1]; rfl) (fun b2 hn=>by rw[e1]at hn; cases hn; exact⟨c,n,hp⟩)
    ·cases h
   ·rename_i b hg
    rw[hg]at hr
    simp only[RelV]at hr
    split at h
    ·rename_i o2 hb
     cases h
     rcases hr with⟨b',c,n,hp,e1⟩ | ⟨hp,e1⟩
     ·exact name b o2 hb rfl (fun b2 c2 n2 hp2=>by rw[hp]at hp2; cases hp2; rw[e1]; rfl) (fun b2 hn=>by rw[e1]at hn; cases hn; exact⟨c,n,hp⟩)
     ·exact name b o2 hb rfl (fun b2 c2 n2 hp2=>by rw[hp]at hp2; cases hp2) (fun b2 hn=>by rw[e1]at hn; cases hn)
    ·cases h
   ·rename_i b k i j hg
    rw[hg]at hr
    simp only[RelV]at hr
    obtain⟨b',c,n,hp,_,e1⟩:=hr
    split at h
    ·rename_i o2 hb
     cases h
     exact name b o2 hb rfl (fun b2 c2 n2 hp2=>by rw[hp]at hp2; cases hp2; rw[e1]; rfl) (fun b2 hn=>by rw[e1]at hn; cases hn; exact⟨c,n,hp⟩)
    ·cases h
   ·rename_i b hg
    rw[hg]at hr
    simp only[RelV]at hr
    obtain⟨b',c,n,hp,e1⟩:=hr
    split at h
    ·rename_i o2 hb
     cases h
     exact name b o2 hb rfl (fun b2 c2 n2 hp2=>by rw[hp]at hp2; cases hp2; rw[e1]; rfl) (fun b2 hn=>by rw[e1]at hn; cases hn; exact⟨c,n,hp⟩)
    ·cases h
   ·rename_i x hg
    rw[hg]at hr
    have hfrz:(e' t).frz=true:=CR_frz (by simpa only[RelV]using hr) _ (by simp)
    cases ho:oneT x.t with
    | false=>rw[ho]at h; cases h
    | true=>
     rw[ho]at h; cases h
     refine none' rfl ?_
     revert hfrz; cases e' t <;> intro hfrz <;> simp[AV.frz]at hfrz <;> rfl
   ·rename_i cs hg
    rw[hg]at hr
    simp only[RelV]at hr
    obtain⟨as,e1,_⟩:=hr
    cases h
    exact none' rfl (by rw[e1]; rfl)
   ·cases h
  ·cases h
theorem exEq_eq {a b:Exit}(h:exEq a b=true):a=b:=by
 cases a <;> cases b <;> simp only[exEq]at h <;> first
  | rfl
  | cases h
  | (rw[beq_iff.1 h])
theorem injX_elim {β:Type}{f:XSh→List Leaf→Option β}{r:β}{ex:Exit}{e:DEnv}{S:DSt}:∀ {xs:List XSh} {y:XD xs},injX xs ex e S=some y→elimX xs y f=some r→∃ a z,a.ex=ex∧rdX a e S=some z∧f a (ofDens a.o.ts z)=some r
 | [],y,h,_=>by simp[injX]at h
 | [a],y,h,h2=>by
  simp only[injX]at h
  cases he:exEq a.ex ex with
  | false=>rw[he]at h; cases h
  | true=>rw[he]at h; exact⟨a,y,exEq_eq he,h,h2⟩
 | a::b::l,y,h,h2=>by
  simp only[injX]at h
  split at h
  ·rename_i z hz
   cases h
   cases he:exEq a.ex ex with
   | false=>rw[he]at hz; cases hz
   | true=>rw[he]at hz; exact⟨a,z,exEq_eq he,hz,h2⟩
  ·split at h
   ·rename_i z hz
    cases h
    exact injX_elim (xs:=b::l) hz h2
   ·cases h
theorem regs_rel {e:DEnv}{e':Env}(hE:RelE π e e'):∀ (rs:List Nat),RelVs π (regsD e rs) (rs.map e')
 | []=>RelVs_nil
 | t::l=>RelVs_cons (opd_rel hE (.t t)) (regs_rel hE l)
theorem envL_rel {e':Env}:∀ {rs:List Nat} {ds:List DV},RelVs π ds (rs.map e')→RelE π (envL rs ds) e'
 | [],ds,h=>by intro t d ht; cases ds <;> simp[envL,fnd]at ht
 | r::rs,ds,h=>by
  cases ds with
  | nil=>intro t d ht; simp[envL,fnd]at ht
  | cons d0 ds=>
   simp only[List.map_cons,RelVs]at h
   obtain⟨a,as',e1,h1,h2⟩:=h
   cases e1
   intro t d ht
   simp only[envL,fnd]at ht
   by_cases e2:r=t
   ·subst e2; simp at ht; subst ht; exact h1
   ·simp only[beq_ne e2,cond_false]at ht; exact envL_rel h2 t d ht
theorem idNm_fnd {ids:List Nat}{k:Nat}(h:ids.any (Nat.beq k)=true):fnd (idNm ids) k=some (some k):=by
 induction ids with
 | nil=>simp at h
 | cons c ids ih=>
  by_cases e:c=k
  ·subst e; simp[idNm,fnd]
  ·have h':ids.any (Nat.beq k)=true:=by
    rcases List.mem_cons.1 (any_mem.1 h)with h | h
    ·exact absurd h.symm e
    ·exact any_mem.2 h
   have:=ih h'
   simp only[idNm,List.map_cons,fnd,beq_ne e,cond_false]at this ⊢
   exact this
theorem subN_any {l m:List Nat}(h:subN l m=true){k:Nat}(hk:l.any (Nat.beq k)=true):m.any (Nat.beq k)=true:=List.all_eq_true.1 h k (any_mem.1 hk)
theorem fill_obj {sh:StSh}{l:List Leaf}{ds:List DV}{os:List (Nat×DObj)}(h:fillSt (fun k=>k) sh l=some (ds,os)){k:Nat}(hk:(sh.objs.map (·.1)).any (Nat.beq k)=true):∃ o,fnd os k=some o:=by
 unfold fillSt at h
 split at h
 ·split at h
  ·rename_i ho
   cases h
   have:=fillOs_keys ho
   have hm:k∈os.map (·.1):=by rw[this]; exact any_mem.1 hk
   obtain⟨⟨k2,o⟩,h1,rfl⟩:=List.mem_map.1 hm
   exact mem_fnd h1
  ·cases h
 ·cases h
def putF (s:Store)(q:Nat)(x:Option AObj):Store:=fun c=>if c=q then x else s c
theorem putF_same (s:Store)(q:Nat)(x:Option AObj):putF s q x q=x:=by simp[putF]
theorem putF_ne (s:Store){q c:Nat}(x:Option AObj)(h:c≠q):putF s q x c=s c:=by simp[putF,h]
theorem putF_put (s:Store)(q:Nat)(x y:Option AObj):putF (putF s q x) q y=putF s q y:=by
 funext c; unfold putF; split <;> rfl
theorem putF_self (s:Store)(q:Nat):putF s q (s q)=s:=by
 funext c; unfold putF; split
 ·rename_i h; rw[h]
 ·rfl
theorem upd_putF (s:Store)(q:Nat)(x:AObj):upd s q x=putF s q (some x):=rfl
theorem del_putF (s:Store)(q:Nat):del s q=putF s q none:=rfl
theorem RelS_put (hS:RelS π Fr S s'){q:Nat}(hno:∀ b o b' c n,S.get b=some o→π b=some (.real b' c n)→b'≠q)(x:Option AObj):RelS π (putF Fr q x) S (putF s' q x):=by
 refine⟨fun b o h=>(hS.obj b o h).mono (Ext.refl _) fun b' c n hp=>putF_ne _ _ (hno _ _ _ _ _ h hp),hS.inj,fun b' y h=>?_,fun b o b' c n h hp=>?_,hS.nx⟩
 ·unfold putF at h ⊢
  split
  ·rename_i e; rw[if_pos e]at h; exact h
  ·rename_i e; rw[if_neg e]at h; exact hS.frm _ _ h
 ·rw[putF_ne _ _ (hno _ _ _ _ _ h hp)]; exact hS.out _ _ _ _ _ h hp
theorem RelS_back {Fr':Store}{s:Store}(h:RelS π Fr' S s){m b:Nat}{c n:Nat}{x y:AObj}{o:DObj}(hF:∀ q z,Fr q=some z→Fr' q=some z∧q≠m)(hm:Fr' m=some y)(hp:π b=some (.real m c n))(hO:ObR π (upd s m x) b o):RelS π Fr (S.set b o) (upd s m x):=by
 have ne:∀ b2 o2 b' c2 n2,S.get b2=some o2→π b2=some (.real b' c2 n2)→b'≠m:=fun b2 o2 b' c2 n2 h1 h2 e=>by
  subst e; rw[h.out _ _ _ _ _ h1 h2]at hm; cases hm
 refine⟨fun b2 o2 hb=>?_,fun b1 b2 o1 o2 b' c1 n1 c2 n2 h1 h2 p1 p2=>?_,fun b' z hz=>?_,fun b2 o2 b' c2 n2 hb hp2=>?_,fun b2 hb=>h.nx _ hb⟩
 ·rw[DSt.get_set]at hb
  split at hb
  ·rename_i e; subst e; cases hb; exact hO
  ·exact(h.obj _ _ hb).mono (Ext.refl _) fun b' c2 n2 hp2=>upd_ne _ _ (ne _ _ _ _ _ hb hp2)
 ·rw[DSt.get_set]at h1 h2
  split at h1 <;> split at h2
  ·rename_i e1 e2; rw[e1,e2]
  ·rename_i e1 e2
   rw[e1,hp]at p1; cases p1
   exact absurd rfl (ne _ _ _ _ _ h2 p2)
  ·rename_i e1 e2
   rw[e2,hp]at p2; cases p2
   exact absurd rfl (ne _ _ _ _ _ h1 p1)
  ·exact h.inj _ _ _ _ _ _ _ _ _ h1 h2 p1 p2
 ·obtain⟨g1,g2⟩:=hF _ _ hz
  rw[upd_ne _ _ g2]; exact h.frm _ _ g1
 ·rw[DSt.get_set]at hb
  split at hb
  ·rename_i e; subst e
   rw[hp]at hp2; cases hp2
   cases hf:Fr m with
   | none=>rfl
   | some z=>exact absurd rfl (hF _ _ hf).2
  ·have:=h.out _ _ _ _ _ hb hp2
   cases hf:Fr b' with
   | none=>rfl
   | some z=>rw[(hF _ _ hf).1]at this; cases this
theorem RelS_name {m:Nat}{os:List (Nat×DObj)}(hS:RelS π Fr ⟨m,os⟩ s')(l:Loc):RelS (addP π m l) Fr ⟨m+1,os⟩ s':=by
 have hx:Ext π (addP π m l):=addP_ext (hS.nx _ (Nat.le_refl _)) _
 have live:∀ b o,(⟨m+1,os⟩:DSt).get b=some o→b≠m:=fun b o h e=>by
  obtain⟨l2,hl⟩:=(hS.obj b o h).loc
  rw[e,hS.nx _ (Nat.le_refl _)]at hl; cases hl
 refine⟨fun b o h=>(hS.obj b o h).mono hx fun _ _ _ _=>rfl,fun b1 b2 o1 o2 b' c1 n1 c2 n2 h1 h2 p1 p2=>?_,hS.frm,fun b o b' c n h hp=>?_,fun b h=>?_⟩
 ·rw[addP_ne _ _ (live _ _ h1)]at p1
  rw[addP_ne _ _ (live _ _ h2)]at p2
  exact hS.inj _ _ _ _ _ _ _ _ _ h1 h2 p1 p2
 ·rw[addP_ne _ _ (live _ _ h)]at hp
  exact hS.out _ _ _ _ _ h hp
 ·have h':m+1≤b:=h
  rw[addP_ne _ _ (by omega)]; exact hS.nx _ (show m≤b by omega)
theorem foldS_app {α σ:Type}(step:σ→α→Option σ):∀ (a b:List α) (x:σ),foldS step (a++b) x=(foldS step a x).bind (foldS step b)
 | [],b,x=>rfl
 | c::a,b,x=>by
  simp only[List.cons_append,foldS]
  cases step x c with
  | none=>rfl
  | some y=>simp only[Option.bind_some]; exact foldS_app step a b y
theorem rngF_inv {α σ:Type}{es:List α}{step:σ→α→Option σ}{x z:σ}(h:rngF es step x=some z):∀ p:List α,p.Perm es→foldS step p x=some z:=by
 unfold rngF at h
 split at h
 ·rename_i hp; intro p hpp; rw[hp p hpp]; exact h
 ·cases h
theorem range_rest {n:Nat}{v:List Nat}(hn:v.Nodup)(hl:∀ p∈v,p < n):∃ r,(v++r).Perm (List.range n):=by
 refine⟨(List.range n).filter fun p=>!v.contains p,?_⟩
 refine(List.perm_ext_iff_of_nodup ?_ List.nodup_range).2 fun a=>?_
 ·rw[List.nodup_append]
  refine⟨hn,List.nodup_range.sublist List.filter_sublist,fun a ha b hb e=>?_⟩
  subst e
  have:=(List.mem_filter.1 hb).2
  simp[ha]at this
 ·rw[List.mem_append,List.mem_filter,List.mem_range]
  constructor
  ·rintro(h | h)
   ·exact hl a h
   ·exact h.1
  ·intro h
   by_cases ha:a∈v
   ·exact .inl ha
   ·exact .inr ⟨h,by simpa using ha⟩
theorem map_range_get {α:Type}(es:List α)(d:α):(List.range es.length).map (fun i=>es.getD i d)=es:=by
 refine List.ext_getElem (by simp) fun i h1 h2=>?_
 simp[List.getD_eq_getElem?_getD,h2]
theorem ERs_at {ag:Bool}{t:Ty}:∀ {es:List (List Int×t.den)} {es':List (List Int×AV)} {i:Nat} (d:List Int×t.den),ERs ag t es es'→i < es.length→(es'.getD i default).1=(es.getD i d).1∧MR ag t (es.getD i d).2 (es'.getD i default).2
 | [],_,i,d,h,hi=>by simp at hi
 | (k,x)::l,es',i,d,h,hi=>by
  simp only[ERs]at h
  obtain⟨a,l',rfl,h1,h⟩:=h
  cases i with
  | zero=>exact⟨rfl,h1⟩
  | succ i=>simpa using ERs_at (i:=i) d h (by simpa using hi)
theorem keyD_rel (kn:Nat)(k:List Int):RelV π (keyD kn k) (kav kn k):=by
 cases kn with
 | zero=>exact relv_int _ _
 | succ n=>
  simp only[keyD,kav,RelV]
  refine⟨_,rfl,?_⟩
  induction k with
  | nil=>exact RelVs_nil
  | cons a k ih=>exact RelVs_cons (relv_int _ _) ih
theorem envL_mem:∀ {rs:List Nat}{ds:List DV}{t:Nat}{d:DV} ,fnd (envL rs ds) t=some d→t∈rs
 | [],ds,t,d,h=>by cases ds <;> simp[envL,fnd]at h
 | r::rs,[],t,d,h=>by simp[envL,fnd]at h
 | r::rs,d0::ds,t,d,h=>by
  simp only[envL,fnd]at h
  by_cases e:r=t
  ·subst e; simp
  ·simp only[beq_ne e,cond_false]at h
   exact List.mem_cons_of_mem _ (envL_mem h)
theorem notRegs_ne {rs:List Nat}{a b:Nat}(h:notRegs rs a b=true):∀ t∈rs,t≠a∧t≠b:=fun t ht=>by
 have:=List.all_eq_true.1 h t ht
 simp only[Bool.and_eq_true,Bool.not_eq_true']at this
 exact⟨fun e=>by subst e; simp at this,fun e=>by subst e; simp at this⟩
theorem mrng_sound {P:Program}{T:List FEnt}{c:DCode}(ih:∀ {α:Type} {K:Exit→DEnv→DSt→Option α} {e:DEnv} {S:DSt} {r:α},dxc T c K e S=some r→∀ {π:Pi} {Fr:Store} {e':Env} {s':Store},RelE π e e'→RelS π Fr S s' →
   ∀ {C:Exit→Env→Store→Prop},(∀ x e1 S1 π1 e1' s1,K x e1 S1=some r→Ext π π1→RelE π1 e1 e1'→RelS π1 Fr S1 s1→C x e1' s1)→xc P [] (erase c) C e' s')
  {x:Opd} {it nx bb et j:Nat} {hd:LSh} {α:Type} {K:DEnv→DSt→Option α} {e:DEnv} {S:DSt} {r0:α} {b kn:Nat} {ag:Bool} {t:Ty} {es:List (List Int×t.den)}
  (hx:(opdD e x).val = .mp b) (hb:S.get b=some (.imap kn ag t es none)) (hdf:(opdD e x).df.all id=true) (hnr:(notRegs (it::hd.regs) nx bb&&notRegs hd.regs it it)=true) (hids:subN hd.ids (hd.st.objs.map (·.1))=true)
  {y0:dens hd.ts} {nm:Nm} (hrd:rdL hd e (S.del b) []=some (y0,nm)) {z:dens hd.ts} (hz:rngF es (rngStep hd it et kn ag t fun K'=>dxc T c (blkD j K')) y0=some z)
  (hK0:(match afterD (S.del b) nm ⟨hd.st,hd.ts,hd.ids,hd.m⟩ (ofDens hd.ts z)with
   | some (ds,S')=>K (envL hd.regs ds) (S'.set b (.imap kn ag t es none))
   | none=>none)=some r0)
  {π:Pi} {Fr:Store} {e':Env} {s':Store} (hE:RelE π e e') (hS:RelS π Fr S s') {C:Env→Store→Prop} (hK:∀ e1 S1 π1 e1' s1,K e1 S1=some r0→Ext π π1→RelE π1 e1 e1'→RelS π1 Fr S1 s1→C e1' s1) :
  mrngW x it nx bb et (fun K'=>xc P [] (erase c) (blkK j K')) C e' s':=by
 have hxr:=opd_rel hE x
 have hxv:=relv_val hxr hdf
 rw[hx]at hxv
 simp only[RelV]at hxv
 obtain⟨m,cm,nm0,hp,hmv⟩:=hxv
 obtain⟨m2,c2,n2,es',hp2,hers,hsm⟩:=hS.obj _ _ hb
 rw[hp]at hp2; cases hp2
 have hsm:s' m=some (.imap kn es' none):=hsm
 have hlen:=ERs_len hers
 simp only[Bool.and_eq_true]at hnr
 have nr1:=notRegs_ne hnr.1
 have nr2:=notRegs_ne hnr.2
 refine⟨relv_df hxr hdf,m,kn,es',hmv,hsm,fun r en cl hr hrm=>?_⟩
 have hS0:=RelS_del hS b
 have no_m:∀ b2 o b' c n,(S.del b).get b2=some o→π b2=some (.real b' c n)→b'≠m:=fun b2 o b' c n h1 h2 e=>by
  subst e
  rw[DSt.get_del]at h1
  split at h1
  ·cases h1
  ·rename_i hne; exact hne (hS.inj _ _ _ _ _ _ _ _ _ h1 hb h2 hp)
 have no_r:∀ b2 o b' c n,(S.del b).get b2=some o→π b2=some (.real b' c n)→b'≠r:=fun b2 o b' c n h1 h2 e=>by
  subst e; exact(hS0.obj _ _ h1).some' h2 hr
 have hS2:=RelS_put (RelS_put hS0 no_m (some (.rmap en cl))) no_r (some (.rit m cl #[]))
 have hFr:Fr r=none:=by
  cases hf:Fr r with
  | none=>rfl
  | some y=>rw[hS.frm _ _ hf]at hr; cases hr
 have hFm:Fr m=none:=hS.out _ _ _ _ _ hb hp
 generalize hF2:putF (putF Fr m (some (.rmap en cl))) r (some (.rit m cl #[]))=Fr2 at hS2
 have es2:upd (upd s' m (.rmap en cl)) r (.rit m cl #[])=putF (putF s' m (some (.rmap en cl))) r (some (.rit m cl #[])):=rfl
 rw[es2]
 generalize hs2:putF (putF s' m (some (.rmap en cl))) r (some (.rit m cl #[]))=s2 at hS2
 have f2m:Fr2 m=some (.rmap en cl):=by rw[← hF2,putF_ne _ _ (Ne.symm hrm),putF_same]
 have f2r:Fr2 r=some (.rit m cl #[]):=by rw[← hF2,putF_same]
 unfold rdL at hrd
 split at hrd
 ·rename_i l nm1 hr1
  split at hrd
  ·rename_i x1 htd
   cases hrd
   have hl:=toDens_ofDens htd
   obtain⟨q1,q2,q3,live,ds0,os0,q4,q5,q6⟩:=canon hS2 hr1 (regs_rel hE hd.regs) (Fr1:=frOf π nm s2) (fun b' x h=>frOf_le h) (fun k b b' c n h1 h2=>frOf_none h1 h2)
   have fm:frOf π nm s2 m=some (.rmap en cl):=frOf_fr hS2 live f2m
   have fr:frOf π nm s2 r=some (.rit m cl #[]):=frOf_fr hS2 live f2r
   let d0:List Int×t.den:=([],t.zero)
   let get:Nat→List Int×t.den:=fun i=>es.getD i d0
   let step:=rngStep hd it et kn ag t fun K'=>dxc T c (blkD j K')
   let I:List Nat→Env→Store→Prop:=fun v e2 sv=>∃ y π1 ds os,foldS step (v.map get) y0=some y∧fillSt (fun k=>k) hd.st (ofDens hd.ts y)=some (ds,os)∧RelVs π1 ds (hd.regs.map e2) ∧
    RelS π1 (putF (frOf π nm s2) r (sv r)) ⟨hd.m,os⟩ sv∧e2 it = .ptr r 0∧sv m=some (.rmap en cl)∧(∃ seen,sv r=some (.rit m cl seen))∧v.Nodup∧(∀ p∈v,p < es.length)∧∀ k,hd.ids.any (Nat.beq k)=true→π1 k=piOf π nm k
   have regs_it:∀ (e2:Env) (a:AV),hd.regs.map (Env.set e2 it a)=hd.regs.map e2:=fun e2 a=>List.map_congr_left fun q hq=>by
    simp only[Env.set]; rw[if_neg (nr2 q hq).1]
   refine⟨I,Env.set e' it (.ptr r 0),s2,Wk.refl _ _,by rw[← hs2,putF_same],⟨y0,piOf π nm,ds0,os0,rfl,by rw[hl]; exact q4,by rw[regs_it]; exact q5,?_,by simp[Env.set],by rw[← hs2,putF_ne _ _ (Ne.symm hrm),putF_same],⟨_,by rw[← hs2,putF_same]⟩,List.nodup_nil,(fun p hp=>by cases hp),fun _ _=>rfl⟩,?_,?_,?_⟩
   ·have e3:putF (frOf π nm s2) r (s2 r)=frOf π nm s2:=by
     rw[show s2 r=frOf π nm s2 r by rw[fr,← hs2,putF_same],putF_self]
    rw[e3]; exact q6
   ·rintro v e2 sv ⟨y,π1,ds,os,g1,g2,g3,g4,g5,g6,_⟩
    exact⟨g5,g6⟩
   ·rintro v e2 sv seen ⟨y,π1,ds,os,g1,g2,g3,g4,g5,g6,g7,g8,g9,g10⟩ i hi hiv
    rw[hlen]at hi
    have hnd:(v++[i]).Nodup:=by
     rw[List.nodup_append]
     exact⟨g8,by simp,fun a ha b hb e=>by simp at hb; subst hb; subst e; exact hiv ha⟩
    have hlt:∀ p∈v++[i],p < es.length:=fun p hp=>by
     rcases List.mem_append.1 hp with h | h
     ·exact g9 p h
     ·simp at h; subst h; exact hi
    obtain⟨rest,hperm⟩:=range_rest hnd hlt
    have hall:=rngF_inv hz (((v++[i])++rest).map get) (by have:=hperm.map get; rwa [map_range_get es d0]at this)
    rw[List.map_append,foldS_app]at hall
    cases hy1:foldS step ((v++[i]).map get) y0 with
    | none=>rw[show foldS (rngStep hd it et kn ag t fun K'=>dxc T c (blkD j K')) ((v++[i]).map get) y0=none from hy1]at hall; cases hall
    | some y1=>
     have hst:step y (get i)=some y1:=by
      have:=hy1
      rw[List.map_append,foldS_app,g1]at this
      simp only[Option.bind_some,List.map_cons,List.map_nil,foldS]at this
      cases hs:step y (get i)with
      | none=>rw[hs]at this; cases this
      | some y2=>rw[hs]at this; simpa using this
     have hst0:=hst
     simp only[step,rngStep,g2]at hst
     have no_r1:∀ b2 o b' c n,(⟨hd.m,os⟩:DSt).get b2=some o→π1 b2=some (.real b' c n)→b'≠r:=fun b2 o b' c n h1 h2 e=>by
      subst e
      obtain⟨sn,hsn⟩:=g7
      have:=g4.out _ _ _ _ _ h1 h2
      rw[putF_same,hsn]at this; cases this
     have hS5:=RelS_name (RelS_put g4 no_r1 (some (.rit m cl seen))) (.real r 0 0)
     rw[putF_put]at hS5
     have hnm:π1 hd.m=none:=g4.nx _ (Nat.le_refl _)
     have hx1:Ext π1 (addP π1 hd.m (.real r 0 0)):=addP_ext hnm _
     have hE5:RelE (addP π1 hd.m (.real r 0 0)) ((et,.tup [keyD kn (get i).1,mvD ag t (get i).2])::(it,.ptr hd.m 0)::envL hd.regs ds)
       (Env.set (Env.set (Env.set e2 nx .undef) bb .undef) et (.tup [kav kn (es'.getD i default).1,(es'.getD i default).2])):=by
      intro u d hu
      obtain⟨k1,k2⟩:=ERs_at d0 hers hi
      simp only[fnd]at hu
      by_cases e1:et=u
      ·subst e1
       simp only[Nat.beq_refl,cond_true,Option.some.injEq]at hu
       subst hu
       simp only[Env.set,if_true,RelV]
       refine⟨_,rfl,RelVs_cons ?_ (RelVs_one (MR_mvD k2))⟩
       rw[k1]; exact keyD_rel _ _
      ·simp only[beq_ne e1,cond_false]at hu
       have hne:u≠et:=fun e=>e1 e.symm
       by_cases e2':it=u
       ·subst e2'
        simp only[Nat.beq_refl,cond_true,Option.some.injEq]at hu
        subst hu
        have:=nr1 it (by simp)
        simp only[Env.set,if_neg hne,if_neg this.1,if_neg this.2,g5,RelV]
        exact⟨r,0,0,addP_same _ _ _,rfl⟩
       ·simp only[beq_ne e2',cond_false]at hu
        have hmem:=envL_mem hu
        have:=nr1 u (by simp[hmem])
        have hr':=envL_rel g3 u d hu
        simp only[Env.set,if_neg hne,if_neg this.1,if_neg this.2]
        exact hr'.ext hx1
     refine ih hst hE5 hS5 fun ex e3 S3 π3 e3' s3 k1 k2 k3 k4=>?_
     have idsome:∀ k,hd.ids.any (Nat.beq k)=true→∃ lc,π1 k=some lc:=fun k hk=>by
      obtain⟨o,ho⟩:=fill_obj g2 (subN_any hids hk)
      exact(g4.obj k o ho).loc
     have fin:rngKD hd it .normal e3 S3=some y1→rngK (fun e' s'=>s' r=some (.rit m cl seen)∧I (v++[i]) e' s') .normal e3' s3:=fun hk=>by
      simp only[rngKD]at hk
      split at hk
      ·rename_i b0 hg
       cases hbq:Nat.beq b0 hd.m with
       | false=>rw[hbq]at hk; cases hk
       | true=>
        rw[hbq]at hk
        obtain rfl:=beq_iff.1 hbq
        simp only[cond_true]at hk
        have hitr:=opd_rel k3 (.t it)
        simp only[opdD,hg,RelV,opd]at hitr
        obtain⟨r',c',n',hpr,hite⟩:=hitr
        rw[k2 _ _ (addP_same π1 hd.m (.real r 0 0))]at hpr
        cases hpr
        have hs3r:s3 r=some (.rit m cl seen):=k4.frm _ _ (putF_same _ _ _)
        split at hk
        ·rename_i x2 nm2 hr2
         cases hk
         unfold rdL at hr2
         split at hr2
         ·rename_i l2 nm3 hr3
          split at hr2
          ·rename_i x3 htd3
           cases hr2
           have hl3:=toDens_ofDens htd3
           obtain⟨p1,p2,p3,p4,ds2,os2,p5,p6,p7⟩:=canon k4 hr3 (regs_rel k3 hd.regs) (Fr1:=putF (frOf π nm s2) r (some (.rit m cl seen))) k4.frm (fun k b b' c n h1 h2=>by
            obtain⟨o,ho⟩:=(canon k4 hr3 (regs_rel k3 hd.regs) (Fr1:=es0) (fun _ _ h=>by cases h) (fun _ _ _ _ _ _ _=>rfl)).2.2.2.1 k b h1
            exact k4.out b o b' c n ho h2)
           refine⟨e3',s3,Wk.refl _ _,hs3r,y1,piOf π3 nm2,ds2,os2,hy1,by rw[hl3]; exact p5,p6,by rw[hs3r]; exact p7,hite,k4.frm _ _ (by rw[putF_ne _ _ (Ne.symm hrm)]; exact fm),⟨_,hs3r⟩,hnd,hlt,fun k hk=>?_⟩
           have hf:=p1 _ _ (idNm_fnd hk)
           have e3:piOf π3 nm2 k=π3 k:=by simp only[piOf,hf,locOf]
           obtain⟨lc,hlc⟩:=idsome k hk
           rw[e3,← g10 k hk,hlc]
           exact k2 _ _ (hx1 _ _ hlc)
          ·cases hr2
         ·cases hr2
        ·cases hk
      ·cases hk
     cases ex with
     | normal=>exact fin k1
     | exit q=>
      simp only[blkD]at k1
      simp only[blkK]
      by_cases hq:q=j
      ·subst hq
       rw[if_pos rfl]
       simp only[Nat.beq_refl,cond_true]at k1
       exact fin k1
      ·simp only[beq_ne hq,cond_false,rngKD]at k1
       cases k1
     | ret=>simp only[blkD,rngKD]at k1; cases k1
     | goto q=>simp only[blkD,rngKD]at k1; cases k1
     | panic q=>simp only[blkD,rngKD]at k1; cases k1
     | outgrown=>simp only[blkD,rngKD]at k1; cases k1
   ·rintro v e2 sv ⟨y,π1,ds,os,g1,g2,g3,g4,g5,g6,⟨sn,g7⟩,g8,g9,g10⟩ hallv
    have hperm:v.Perm (List.range es.length):=(List.perm_ext_iff_of_nodup g8 List.nodup_range).2 fun a=>by
     rw[List.mem_range]; exact⟨g9 a,fun h=>hallv a (by rw[hlen]; exact h)⟩
    have hyz:y=z:=by
     have:=rngF_inv hz (v.map get) (by have:=hperm.map get; rwa [map_range_get es d0]at this)
     rw[show foldS (rngStep hd it et kn ag t fun K'=>dxc T c (blkD j K')) (v.map get) y0=some y from g1]at this
     exact Option.some.inj this
    subst hyz
    have no_r1:∀ b2 o b' c n,(⟨hd.m,os⟩:DSt).get b2=some o→π1 b2=some (.real b' c n)→b'≠r:=fun b2 o b' c n h1 h2 e=>by
     subst e
     have:=g4.out _ _ _ _ _ h1 h2
     rw[putF_same,g7]at this; cases this
    have h4:=RelS_put g4 no_r1 (some (.rit m cl #[]))
    rw[putF_put]at h4
    have e4:putF (frOf π nm s2) r (some (.rit m cl #[]))=frOf π nm s2:=by rw[← fr,putF_self]
    rw[e4]at h4
    obtain⟨ds3,S3,π3,a1,a2,a3,a4,a5,a6⟩:=after_sound (o:=⟨hd.st,hd.ts,hd.ids,hd.m⟩) hS2 live g2 q3 g3 h4 (fun k hk b hb=>by
     rw[g10 k hk]
     simp only[piOf,hb,locOf])
    have a1':afterD (S.del b) nm ⟨hd.st,hd.ts,hd.ids,hd.m⟩ (ofDens hd.ts y)=some (ds3,S3):=a1
    rw[a1']at hK0
    have no_r3:∀ b2 o b' c n,S3.get b2=some o→π3 b2=some (.real b' c n)→b'≠r:=fun b2 o b' c n h1 h2 e=>by
     subst e
     have:=a4.out _ _ _ _ _ h1 h2
     rw[f2r]at this; cases this
    have h5:=RelS_put a4 no_r3 none
    rw[putF_put]at h5
    have hfin:=RelS_back (Fr:=Fr) (m:=m) (b:=b) (x:=.imap kn es' none) (y:=.rmap en cl) (o:=.imap kn ag t es none) h5 (fun q w hq=>by
      have h1:q≠r:=fun e=>by rw[e,hFr]at hq; cases hq
      have h2:q≠m:=fun e=>by rw[e,hFm]at hq; cases hq
      exact⟨by rw[putF_ne _ _ h1,← hF2,putF_ne _ _ h1,putF_ne _ _ h2]; exact hq,h2⟩) (by rw[putF_ne _ _ (Ne.symm hrm)]; exact f2m) (a2 _ _ hp) ⟨m,cm,nm0,es',a2 _ _ hp,hers,upd_same _ _ _⟩
    refine hK _ _ π3 _ _ hK0 a2 (fun u d hu=>?_) hfin
    have hmem:=envL_mem hu
    have hne:=nr1 u (by simp[hmem])
    have:=envL_rel a3 u d hu
    simp only[Env.set,if_neg hne.1,if_neg hne.2]
    exact this
  ·cases hrd
 ·cases hrd
theorem dxc_sound {P:Program}{T:List FEnt}(hT:DTblOK P T):∀ (c:DCode) {α:Type} {K:Exit→DEnv→DSt→Option α} {e:DEnv} {S:DSt} {r:α},dxc T c K e S=some r→∀ {π:Pi} {Fr:Store} {e':Env} {s':Store},RelE π e e'→RelS π Fr S s' →
  ∀ {C:Exit→Env→Store→Prop},(∀ x e1 S1 π1 e1' s1,K x e1 S1=some r→Ext π π1→RelE π1 e1 e1'→RelS π1 Fr S1 s1→C x e1' s1)→xc P [] (erase c) C e' s'
 | .skip,α,K,e,S,r,h,π,Fr,e',s',hE,hS,C,hK=>hK _ _ _ π _ _ h (Ext.refl _) hE hS
 | .ret,α,K,e,S,r,h,π,Fr,e',s',hE,hS,C,hK=>hK _ _ _ π _ _ h (Ext.refl _) hE hS
 | .exit i,α,K,e,S,r,h,π,Fr,e',s',hE,hS,C,hK=>hK _ _ _ π _ _ h (Ext.refl _) hE hS
 | .reg l,α,K,e,S,r,h,π,Fr,e',s',hE,hS,C,hK=>dxr_sound hT l h hE hS fun e1 S1 π1 e1' s1 g1 g2 g3 g4=>hK _ _ _ π1 _ _ g1 g2 g3 g4
 | .drw rs l,α,K,e,S,r,h,π,Fr,e',s',hE,hS,C,hK=>by
  simp only[dxc]at h
  split at h
  ·rename_i RD hrd
   obtain⟨h1,h2⟩:=rsOk_sound hE hS hrd
   exact⟨h2,dxrD_sound hT l h hE hS h1 fun e1 S1 π1 e1' s1 g1 g2 g3 g4=>hK _ _ _ π1 _ _ g1 g2 g3 g4⟩
  ·cases h
 | .seq a b,α,K,e,S,r,h,π,Fr,e',s',hE,hS,C,hK=>by
  simp only[dxc]at h
  refine dxc_sound hT a h hE hS fun x e1 S1 π1 e1' s1 g1 g2 g3 g4=>?_
  cases x with
  | normal=>exact dxc_sound hT b g1 g3 g4 fun x e2 S2 π2 e2' s2 q1 q2 q3 q4=>hK _ _ _ π2 _ _ q1 (g2.trans q2) q3 q4
  | exit i=>exact hK _ _ _ π1 _ _ g1 g2 g3 g4
  | goto i=>exact hK _ _ _ π1 _ _ g1 g2 g3 g4
  | ret=>exact hK _ _ _ π1 _ _ g1 g2 g3 g4
  | panic i=>exact hK _ _ _ π1 _ _ g1 g2 g3 g4
  | outgrown=>exact hK _ _ _ π1 _ _ g1 g2 g3 g4
 | .cond c a b,α,K,e,S,r,h,π,Fr,e',s',hE,hS,C,hK=>by
  simp only[dxc]at h
  split at h
  ·rename_i g hg
   obtain⟨h1,h2⟩:=chks_inv h
   have hr:=opd_rel hE c
   have e1:=bval_inv hg (relv_val hr h1)
   refine⟨relv_df hr h1,?_⟩
   rw[e1]
   cases g with
   | true=>exact⟨fun _=>dxc_sound hT a h2 hE hS hK,fun h=>(by cases h)⟩
   | false=>exact⟨fun h=>(by cases h),fun _=>dxc_sound hT b h2 hE hS hK⟩
  ·cases h
 | .blk i c,α,K,e,S,r,h,π,Fr,e',s',hE,hS,C,hK=>by
  simp only[dxc]at h
  refine dxc_sound hT c h hE hS fun x e1 S1 π1 e1' s1 g1 g2 g3 g4=>?_
  cases x with
  | exit j=>
   simp only[blkD]at g1
   simp only[blkK]
   by_cases hj:j=i
   ·subst hj
    rw[if_pos rfl]
    simp only[Nat.beq_refl,cond_true]at g1
    exact hK _ _ _ π1 _ _ g1 g2 g3 g4
   ·rw[if_neg hj]
    simp only[beq_ne hj,cond_false]at g1
    exact hK _ _ _ π1 _ _ g1 g2 g3 g4
  | normal=>exact hK _ _ _ π1 _ _ g1 g2 g3 g4
  | goto i=>exact hK _ _ _ π1 _ _ g1 g2 g3 g4
  | ret=>exact hK _ _ _ π1 _ _ g1 g2 g3 g4
  | panic i=>exact hK _ _ _ π1 _ _ g1 g2 g3 g4
  | outgrown=>exact hK _ _ _ π1 _ _ g1 g2 g3 g4
 | .loop hd xs c,α,K,e,S,r,h,π,Fr,e',s',hE,hS,C,hK=>by
  simp only[dxc]at h
  cases hids:subN hd.ids (hd.st.objs.map (·.1))with
  | false=>rw[hids]at h; cases h
  | true=>
   rw[hids]at h
   simp only[cond_true]at h
   split at h
   ·rename_i x nm hrd
    cases hw:whileF (dstep (xs:=xs) hd (dxc T c)) x with
    | none=>rw[hw]at h; cases h
    | some y=>
     rw[hw]at h
     simp only[Option.bind_some]at h
     unfold rdL at hrd
     split at hrd
     ·rename_i l nm1 hr1
      split at hrd
      ·rename_i x1 htd
       cases hrd
       have hl:=toDens_ofDens htd
       obtain⟨q1,q2,q3,live,ds0,os0,q4,q5,q6⟩:=canon hS hr1 (regs_rel hE hd.regs) (Fr1:=frOf π nm s') (fun b' x h=>frOf_le h) (fun k b b' c n h1 h2=>frOf_none h1 h2)
       let I:Nat→Env→Store→Prop:=fun m e1' s1=>∃ x1 π1 ds os,goF (dstep (xs:=xs) hd (dxc T c)) m x1=some y∧fillSt (fun k=>k) hd.st (ofDens hd.ts x1)=some (ds,os)∧RelVs π1 ds (hd.regs.map e1')∧RelS π1 (frOf π nm s') ⟨hd.m,os⟩ s1 ∧
        ∀ k,hd.ids.any (Nat.beq k)=true→π1 k=piOf π nm k
       refine⟨I,18446744073709551616,e',s',Wk.refl _ _,⟨x,piOf π nm,ds0,os0,hw,by rw[hl]; exact q4,q5,q6,fun _ _=>rfl⟩,?_⟩
       rintro m e1' s1 ⟨x1,π1,ds,os,hgo,hfl,hrv,hrs,hid⟩
       cases m with
       | zero=>cases hgo
       | succ m=>
        simp only[goF]at hgo
        have idsome:∀ k,hd.ids.any (Nat.beq k)=true→∃ lc,π1 k=some lc:=fun k hk=>by
         obtain⟨o,ho⟩:=fill_obj hfl (subN_any hids hk)
         exact(hrs.obj k o ho).loc
        cases hst:dstep (xs:=xs) hd (dxc T c) x1 with
        | none=>rw[hst]at hgo; cases hgo
        | some z=>
         rw[hst]at hgo
         unfold dstep at hst
         rw[hfl]at hst
         simp only at hst
         refine dxc_sound hT c hst (envL_rel hrv) hrs fun ex e2 S2 π2 e2' s2 g1 g2 g3 g4=>?_
         have idk:∀ k,hd.ids.any (Nat.beq k)=true→π2 k=piOf π nm k:=fun k hk=>by
          obtain⟨lc,hlc⟩:=idsome k hk
          rw[← hid k hk,hlc]; exact g2 _ _ hlc
         have exit:∀ yy,injX xs ex e2 S2=some yy→z = .inr yy→C ex e2' s2:=fun yy hin hz=>by
          subst hz
          simp only at hgo
          cases hgo
          obtain⟨a,w,ha,hrx,hk⟩:=injX_elim hin h
          cases hsub:subN a.o.ids hd.ids with
          | false=>rw[hsub]at hk; cases hk
          | true=>
           rw[hsub]at hk
           simp only[cond_true]at hk
           unfold rdX at hrx
           split at hrx
           ·rename_i l2 nm2 hr2
            have hl2:=toDens_ofDens hrx
            obtain⟨p1,p2,p3,p4,ds2,os2,p5,p6,p7⟩:=canon g4 hr2 (regs_rel g3 a.regs) (Fr1:=frOf π nm s') g4.frm (fun k b b' c n h1 h2=>by
             obtain⟨o,ho⟩:=(canon g4 hr2 (regs_rel g3 a.regs) (Fr1:=es0) (fun _ _ h=>by cases h) (fun _ _ _ _ _ _ _=>rfl)).2.2.2.1 k b h1
             exact g4.out b o b' c n ho h2)
            rw[hl2]at hk
            obtain⟨ds3,S3,π3,a1,a2,a3,a4,a5,a6⟩:=after_sound hS live p5 p3 p6 p7 (fun k hk b hb=>by
             have hf:=p1 _ _ (idNm_fnd hk)
             have e3:piOf π2 nm2 k=π2 k:=by simp only[piOf,hf,locOf]
             rw[e3,idk k (subN_any hsub hk)]
             simp only[piOf,hb,locOf])
            rw[a1]at hk
            rw[← ha]
            exact hK _ _ _ π3 _ _ hk a2 (envL_rel a3) a4
           ·cases hrx
         have other:(match injX xs ex e2 S2 with | some y=>some (.inr y) | none=>none)=some z→C ex e2' s2:=fun hg=>by
          split at hg
          ·rename_i yy hyy; cases hg; exact exit yy hyy rfl
          ·cases hg
         cases ex with
         | normal=>
          simp only[lpKD]at g1
          split at g1
          ·rename_i x2 nm2 hr2
           cases g1
           unfold rdL at hr2
           split at hr2
           ·rename_i l2 nm3 hr3
            split at hr2
            ·rename_i x3 htd3
             cases hr2
             have hl3:=toDens_ofDens htd3
             obtain⟨p1,p2,p3,p4,ds2,os2,p5,p6,p7⟩:=canon g4 hr3 (regs_rel g3 hd.regs) (Fr1:=frOf π nm s') g4.frm (fun k b b' c n h1 h2=>by
              obtain⟨o,ho⟩:=(canon g4 hr3 (regs_rel g3 hd.regs) (Fr1:=es0) (fun _ _ h=>by cases h) (fun _ _ _ _ _ _ _=>rfl)).2.2.2.1 k b h1
              exact g4.out b o b' c n ho h2)
             refine⟨m,e2',s2,Wk.refl _ _,Nat.lt_succ_self m,x2,piOf π2 nm2,ds2,os2,hgo,by rw[hl3]; exact p5,p6,p7,fun k hk=>?_⟩
             have hf:=p1 _ _ (idNm_fnd hk)
             have e3:piOf π2 nm2 k=π2 k:=by simp only[piOf,hf,locOf]
             rw[e3,idk k hk]
            ·cases hr2
           ·cases hr2
          ·cases g1
         | exit i=>exact other g1
         | ret=>exact other g1
         | goto i=>exact other g1
         | panic i=>exact other g1
         | outgrown=>exact other g1
      ·cases hrd
     ·cases hrd
   ·cases h
 | .mrng pre x it nx bb et j hd c,α,K,e,S,r,h,π,Fr,e',s',hE,hS,C,hK=>by
  simp only[dxc]at h
  refine dxr_sound hT pre h hE hS fun e1 S1 π1 e1' s1 g1 g2 g3 g4=>?_
  split at g1
  ·rename_i b hx
   split at g1
   ·rename_i kn ag t es hb
    obtain⟨o1,g1⟩:=chks_inv g1
    obtain⟨o1,o2⟩:=all_app o1
    simp only[List.all_cons,List.all_nil,id,Bool.and_true]at o2
    split at g1
    ·rename_i y nm hrd
     cases hids:subN hd.ids (hd.st.objs.map (·.1))with
     | false=>rw[hids]at hrd; cases hrd
     | true=>
      rw[hids,cond_true]at hrd
      cases hz:rngF es (rngStep hd it et kn ag t fun K'=>dxc T c (blkD j K')) y with
      | none=>rw[hz]at g1; cases g1
      | some z=>
       rw[hz]at g1
       simp only[Option.bind_some]at g1
       exact mrng_sound (K:=K .normal) (C:=C .normal) (dxc_sound hT c) hx hb o1 o2 hids hrd hz g1 g3 g4 fun e2 S2 π2 e2' s2 q1 q2 q3 q4=>hK _ _ _ π2 _ _ q1 (g2.trans q2) q3 q4
    ·cases g1
   ·cases g1
  ·cases g1
 | .once hd xs c,α,K,e,S,r,h,π,Fr,e',s',hE,hS,C,hK=>by
  simp only[dxc]at h
  cases hids:subN hd.ids (hd.st.objs.map (·.1))with
  | false=>rw[hids]at h; cases h
  | true=>
   rw[hids]at h
   simp only[cond_true]at h
   split at h
   ·rename_i x nm hrd
    cases hw:onceF (xs:=xs) hd (dxc T c) x with
    | none=>rw[hw]at h; cases h
    | some y=>
     rw[hw]at h
     simp only[Option.bind_some]at h
     unfold rdL at hrd
     split at hrd
     ·rename_i l nm1 hr1
      split at hrd
      ·rename_i x1 htd
       cases hrd
       have hl:=toDens_ofDens htd
       obtain⟨q1,q2,q3,live,ds0,os0,q4,q5,q6⟩:=canon hS hr1 (regs_rel hE hd.regs) (Fr1:=frOf π nm s') (fun b' x h=>frOf_le h) (fun k b b' c n h1 h2=>frOf_none h1 h2)
       rw[← hl]at q4
       unfold onceF at hw
       rw[q4]at hw
       simp only at hw
       have idsome:∀ k,hd.ids.any (Nat.beq k)=true→∃ lc,piOf π nm k=some lc:=fun k hk=>by
        obtain⟨o,ho⟩:=fill_obj q4 (subN_any hids hk)
        exact(q6.obj k o ho).loc
       refine dxc_sound hT c hw (envL_rel q5) q6 fun ex e2 S2 π2 e2' s2 g1 g2 g3 g4=>?_
       have idk:∀ k,hd.ids.any (Nat.beq k)=true→π2 k=piOf π nm k:=fun k hk=>by
        obtain⟨lc,hlc⟩:=idsome k hk
        rw[hlc]; exact g2 _ _ hlc
       obtain⟨a,w,ha,hrx,hk⟩:=injX_elim g1 h
       cases hsub:subN a.o.ids hd.ids with
       | false=>rw[hsub]at hk; cases hk
       | true=>
        rw[hsub]at hk
        simp only[cond_true]at hk
        unfold rdX at hrx
        split at hrx
        ·rename_i l2 nm2 hr2
         have hl2:=toDens_ofDens hrx
         obtain⟨p1,p2,p3,p4,ds2,os2,p5,p6,p7⟩:=canon g4 hr2 (regs_rel g3 a.regs) (Fr1:=frOf π nm s') g4.frm (fun k b b' c n h1 h2=>by
          obtain⟨o,ho⟩:=(canon g4 hr2 (regs_rel g3 a.regs) (Fr1:=es0) (fun _ _ h=>by cases h) (fun _ _ _ _ _ _ _=>rfl)).2.2.2.1 k b h1
          exact g4.out b o b' c n ho h2)
         rw[hl2]at hk
         obtain⟨ds3,S3,π3,a1,a2,a3,a4,a5,a6⟩:=after_sound hS live p5 p3 p6 p7 (fun k hk b hb=>by
          have hf:=p1 _ _ (idNm_fnd hk)
          have e3:piOf π2 nm2 k=π2 k:=by simp only[piOf,hf,locOf]
          rw[e3,idk k (subN_any hsub hk)]
          simp only[piOf,hb,locOf])
         rw[a1]at hk
         rw[← ha]
         exact hK _ _ _ π3 _ _ hk a2 (envL_rel a3) a4
        ·cases hrx
      ·cases hrd
     ·cases hrd
   ·cases h
theorem argE_rel {as:List AV}:∀ {ds:List DV} {bs:List AV} (i:Nat),RelVs π ds bs→(∀ j,at_ as (i+j)=at_ bs j)→RelE π (argE i ds) (envOf as)
 | [],bs,i,h,hb=>by intro t d ht; simp[argE,fnd]at ht
 | d0::ds,bs,i,h,hb=>by
  simp only[RelVs]at h
  obtain⟨a,as',rfl,h1,h2⟩:=h
  intro t d ht
  simp only[argE,fnd]at ht
  by_cases e1:i=t
  ·subst e1
   simp at ht
   subst ht
   show RelV π d0 (at_ as i)
   rw[show i=i+0 from rfl,hb 0]; exact h1
  ·simp only[beq_ne e1,cond_false]at ht
   refine argE_rel (i+1) h2 (fun j=>?_) t d ht
   rw[show i+1+j=i+(j+1)by omega,hb (j+1)]; rfl
theorem resD1_rel {e:DEnv}{e':Env}(hE:RelE π e e')(hS:RelS π Fr S s'){r:Res}{d:DV}(h:resD1 e S r=some d):∃ a,resOne e' s' r=some a∧RelV π d a:=by
 cases r with
 | t n=>cases h; exact⟨_,rfl,opd_rel hE (.t n)⟩
 | cell a ag k=>
  simp only[resD1]at h
  split at h
  ·rename_i b hg
   have hr:=opd_rel hE (.t a)
   simp only[opdD,hg,RelV,opd]at hr
   obtain⟨b',c,n,hp,e1⟩:=hr
   split at h
   ·rename_i cs hb
    obtain⟨b2,c2,n2,as,hp2,hs,hv⟩:=hS.obj _ _ hb
    rw[hp]at hp2; cases hp2
    cases hc:Nat.beq cs.length k with
    | false=>rw[hc]at h; cases h
    | true=>
     rw[hc]at h
     simp only[cond_true]at h
     have hlen:as.length=k:=by rw[RelVs_len hv]; exact beq_iff.1 hc
     simp only[resOne,e1,hs]
     cases ag with
     | true=>
      cases h
      exact⟨.agg as,by simp[hlen],by simp only[RelV]; exact⟨as,rfl,hv⟩⟩
     | false=>
      simp only at h
      split at h
      ·cases h
       simp only[RelVs]at hv
       obtain⟨a,as',rfl,h1,h2⟩:=hv
       exact⟨a,by simp only[List.length_cons]at hlen; simp only[List.length_cons,hlen,if_true,Bool.false_eq_true,if_false]; rfl,h1⟩
      ·cases h
   ·cases h
  ·cases h
theorem resDs_rel {e:DEnv}{e':Env}(hE:RelE π e e')(hS:RelS π Fr S s'):∀ {rs:List Res} {ds:List DV},resDs e S rs=some ds→∃ as,resAll e' s' rs=some as∧RelVs π ds as
 | [],ds,h=>by cases h; exact⟨[],rfl,RelVs_nil⟩
 | r::rs,ds,h=>by
  simp only[resDs]at h
  split at h
  ·rename_i d ds' h1 h2
   cases h
   obtain⟨a,g1,g2⟩:=resD1_rel hE hS h1
   obtain⟨as,g3,g4⟩:=resDs_rel hE hS h2
   exact⟨a::as,by simp only[resAll,g1,g3],RelVs_cons g2 g4⟩
  ·cases h
theorem resD_rel {e:DEnv}{e':Env}(hE:RelE π e e')(hS:RelS π Fr S s'){rs:List Res}{d:DV}(h:resD e S rs=some d):∃ a,resOf e' s' rs=some a∧RelV π d a:=by
 unfold resD at h
 split at h
 ·rename_i d1 hd
  cases h
  obtain⟨as,g1,g2⟩:=resDs_rel hE hS hd
  simp only[RelVs]at g2
  obtain⟨a,as',rfl,g2,rfl⟩:=g2
  exact⟨a,by simp only[resOf,g1],g2⟩
 ·rename_i ds hne hd
  cases h
  obtain⟨as,g1,g2⟩:=resDs_rel hE hS hd
  refine⟨.tup as,?_,by simp only[RelV]; exact⟨as,rfl,g2⟩⟩
  unfold resOf
  rw[g1]
  split
  ·rename_i v hv
   cases hv
   have:=RelVs_len g2
   match ds,this,hne with
   | [x],_,hne=>exact absurd rfl (hne x)
  ·rename_i vs _ hv; cases hv; rfl
  ·rename_i hv; cases hv
 ·cases h
theorem dxf_sound {P:Program}{T:List FEnt}(hT:DTblOK P T){f:FuncId}{n:Nat}{rs:List Res}{c:DCode}(hF:L.Fn P f n rs (erase c)){sh:FSh}(hn:Nat.ble sh.ins.vals.length n=true):DC P f sh (dxf T sh rs c):=by
 refine⟨hF.callR,fun x r h π Fr as s' hin=>?_⟩
 obtain⟨ds,os,h1,h2,h3⟩:=hin
 unfold dxf at h
 rw[h1]at h
 simp only at h
 have hids:subN sh.out.ids (sh.ins.objs.map (·.1))=true:=by
  cases hc:subN sh.out.ids (sh.ins.objs.map (·.1))with
  | true=>rfl
  | false=>rw[hc]at h; cases h
 rw[hids,cond_true]at h
 have hlen:as.length≤n:=by
  rw[RelVs_len h2]
  have:ds.length=sh.ins.vals.length:=by
   unfold fillSt at h1
   split at h1
   ·rename_i ds1 l1 hv
    split at h1
    ·cases h1
     clear h h2
     revert hv
     generalize ofDens sh.ts x=l
     generalize sh.ins.vals=rs
     intro hv
     induction rs generalizing ds l with
     | nil=>simp only[fillVs]at hv; cases hv; rfl
     | cons r rs ih=>
      simp only[fillVs]at hv
      split at hv
      ·split at hv
       ·rename_i h2; cases hv; simp[ih _ _ h2]
       ·cases hv
      ·cases hv
    ·cases h1
   ·cases h1
  rw[this]
  simpa [Nat.ble_eq]using hn
 refine AC_of_body (TblOK_nil _) hF hlen (dxc_sound hT c h (argE_rel 0 h2 fun j=>by rw[Nat.zero_add]) h3 fun ex e1 S1 π1 e1' s1 g1 g2 g3 g4=>?_)
 have fin:(match resD e1 S1 rs with
   | some d=>match rdSt none S1 sh.out.st sh.out.q [d] (idNm sh.out.ids)with
    | some (l,_)=>toDens sh.out.ts l
    | none=>none
   | none=>none)=some r→∃ r0,resOf e1' s1 rs=some r0∧∃ r' s'',Wk1 s1 r0 s'' r'∧∃ π1,Out π π1 Fr sh.out r r' s'':=fun hg=>by
  split at hg
  ·rename_i d hd
   split at hg
   ·rename_i l nm hr
    obtain⟨a,q1,q2⟩:=resD_rel g3 g4 hd
    refine⟨a,q1,a,s1,Wk1.refl _ _,piOf π1 nm,?_⟩
    obtain⟨p1,p2,p3,p4,ds2,os2,p5,p6,p7⟩:=canon g4 hr (RelVs_one q2) (Fr1:=Fr) g4.frm (fun k b b' c n h1 h2=>by
     obtain⟨o,ho⟩:=(canon g4 hr (RelVs_one q2) (Fr1:=es0) (fun _ _ h=>by cases h) (fun _ _ _ _ _ _ _=>rfl)).2.2.2.1 k b h1
     exact g4.out b o b' c n ho h2)
    have hl:ofDens sh.out.ts r=l:=toDens_ofDens hg
    cases ds2 with
    | nil=>simp only[RelVs]at p6; cases p6
    | cons d2 ds2=>
     simp only[RelVs]at p6
     obtain⟨a',as',e1,p6,p8⟩:=p6
     cases e1
     cases ds2 with
     | cons d3 ds3=>simp only[RelVs]at p8; obtain⟨_,_,e1,_⟩:=p8; cases e1
     | nil=>
      refine⟨d2,os2,by rw[hl]; exact p5,p3,p6,p7,fun k hk=>?_⟩
      have hf:=p1 _ _ (idNm_fnd hk)
      simp only[piOf,hf,locOf]
      obtain⟨o,ho⟩:=fill_obj h1 (subN_any hids hk)
      obtain⟨lc,hlc⟩:=(h3.obj k o ho).loc
      rw[hlc]; exact g2 _ _ hlc
   ·cases hg
  ·cases hg
 cases ex with
 | normal=>exact fin g1
 | ret=>exact fin g1
 | _=>cases g1
end
end Go.Proofs.YtdacabdocbhkdaaGreat.D

set_option linter.unusedVariables false
set_option linter.unusedSimpArgs false
namespace Go.Proofs.YtdacabdocbhkdaaGreat.D
open Go Go.Proofs.YtdacabdocbhkdaaGreat.L
theorem DC_eq {P:Program}{f:FuncId}{sh:FSh}{F F':dens sh.ts→Option (dens sh.out.ts)}(h:F=F')(k:DC P f sh F):DC P f sh F':=h▸k
theorem DC_none {P:Program}{f:FuncId}{sh:FSh}(h:CallR P f):DC P f sh (fun _=>none):=⟨h,fun x r hr=>by cases hr⟩
theorem DTbl_cons' {P:Program}{f:FuncId}{sh:FSh}{F:dens sh.ts→Option (dens sh.out.ts)}{T:List FEnt}(h:DC P f sh F)(hv:(!sh.bw||vokB sh)=true)(hT:DTblOK P T):DTblOK P (⟨f,sh,F⟩::T):=DTbl_cons (ent:=⟨f,sh,F⟩) h hv hT
theorem goF_eq {σ ρ:Type}{step:σ→Option (σ⊕ρ)}(I:σ→Prop)(μ:σ→Nat)(g:σ→ρ)(h:∀ x,I x→step x=some (.inr (g x))∨∃ y,step x=some (.inl y)∧I y∧μ y < μ x∧g y=g x):
  ∀ (n:Nat) (x:σ),I x→μ x < n→goF step n x=some (g x)
 | 0,x,hx,hn=>by omega
 | n+1,x,hx,hn=>by
  rcases h x hx with h1 | ⟨y,h1,h2,h3,h4⟩
  ·simp only[goF,h1]
  ·simp only[goF,h1]
   rw[goF_eq I μ g h n y h2 (by omega),h4]
theorem whileF_eq {σ ρ:Type}{step:σ→Option (σ⊕ρ)}(I:σ→Prop)(μ:σ→Nat)(g:σ→ρ)(h:∀ x,I x→step x=some (.inr (g x))∨∃ y,step x=some (.inl y)∧I y∧μ y < μ x∧g y=g x)
  (x:σ) (hx:I x) (hn:μ x < 18446744073709551616):whileF step x=some (g x):=goF_eq I μ g h _ x hx hn
end Go.Proofs.YtdacabdocbhkdaaGreat.D

set_option linter.unusedVariables false
set_option linter.unusedSimpArgs false
namespace Go.Proofs.YtdacabdocbhkdaaGreat.D
open Go Go.Proofs.YtdacabdocbhkdaaGreat.L
inductive Mk where
 | a (i:Nat) (ag:Bool) (t:Ty)
 | f (i r:Nat) (p:List Nat)
def mkF:List Mk→Nat→List DOper
 | .f i r p::hs,k=>bif Nat.beq i k then .fz r p::mkF hs k else []
 | _,_=>[]
def mkR:List Mk→Nat→List Mk
 | .f i r p::hs,k=>bif Nat.beq i k then mkR hs k else .f i r p::hs
 | hs,_=>hs
def mkA:List Mk→Nat→Ann
 | .a i ag t::_,k=>bif Nat.beq i k then some (ag,t)else none
 | _,_=>none
def mkN:List Mk→Nat→List Mk
 | .a i ag t::hs,k=>bif Nat.beq i k then hs else .a i ag t::hs
 | hs,_=>hs
def annO:List AOper→List Mk→Nat→List DOper
 | [],hs,k=>mkF hs k
 | o::l,hs,k=>mkF hs k ++ .op o (mkA (mkR hs k) k)::annO l (mkN (mkR hs k) k) (k+1)
def annD:List AOper→List Mk→Nat→List (AOper×Ann)
 | [],_,_=>[]
 | o::l,hs,k=>(o,mkA hs k)::annD l (mkN hs k) (k+1)
theorem eraseO_app:∀ (a b:List DOper) ,eraseO (a++b)=eraseO a++eraseO b
 | [],_=>rfl
 | .op o _::a,b=>by simp[eraseO,eraseO_app a b]
 | .fz ..::a,b=>by simp[eraseO,eraseO_app a b]
theorem eraseO_mkF:∀ (hs:List Mk)(k:Nat) ,eraseO (mkF hs k)=[]
 | [],_=>rfl
 | .a ..::_,_=>rfl
 | .f i r p::hs,k=>by
  simp only[mkF]
  cases Nat.beq i k
  ·rfl
  ·exact eraseO_mkF hs k
theorem erase_annO:∀ (l:List AOper)(hs:List Mk)(k:Nat) ,eraseO (annO l hs k)=l
 | [],hs,k=>eraseO_mkF hs k
 | o::l,hs,k=>by simp only[annO,eraseO_app,eraseO_mkF,List.nil_append,eraseO,erase_annO l]
theorem erase_annD:∀ (l:List AOper)(hs:List Mk)(k:Nat) ,(annD l hs k).map (·.1)=l
 | [],_,_=>rfl
 | o::l,hs,k=>by simp only[annD,List.map_cons,erase_annD l]
inductive HT where
 | n
 | r (l:List Mk)
 | s (x y:HT)
 | b (x:HT)
 | l (h:LSh) (xs:List XSh) (x:HT)
 | o (h:LSh) (xs:List XSh) (x:HT)
 | m (l:List Mk) (h:LSh) (x:HT)
def noL:LSh:=⟨[],⟨[],[]⟩,[],0,[]⟩
def annN:ACode→DCode
 | .skip=>.skip
 | .ret=>.ret
 | .exit i=>.exit i
 | .reg l=>.reg (annO (l ()) [] 0)
 | .drw rs l=>.drw rs (annD (l ()) [] 0)
 | .seq x y=>.seq (annN x) (annN y)
 | .cond c x y=>.cond c (annN x) (annN y)
 | .blk i x=>.blk i (annN x)
 | .loop c=>.loop noL [] (annN (c ()))
 | .mrng pre x it nx bb et j c=>.mrng (annO (pre ()) [] 0) x it nx bb et j noL (annN (c ()))
def ann:HT→ACode→DCode
 | .r hs,.reg l=>.reg (annO (l ()) hs 0)
 | .r hs,.drw rs l=>.drw rs (annD (l ()) hs 0)
 | .s h k,.seq x y=>.seq (ann h x) (ann k y)
 | .s h k,.cond c x y=>.cond c (ann h x) (ann k y)
 | .b h,.blk i x=>.blk i (ann h x)
 | .l h xs k,.loop c=>.loop h xs (ann k (c ()))
 | .o h xs k,c=>.once h xs (ann k c)
 | .m hs h k,.mrng pre x it nx bb et j c=>.mrng (annO (pre ()) hs 0) x it nx bb et j h (ann k (c ()))
 | _,c=>annN c
theorem erase_annN:∀ c:ACode,erase (annN c)=c
 | .skip | .ret | .exit _=>rfl
 | .reg l=>by simp only[annN,erase,erase_annO]
 | .drw rs l=>by simp only[annN,erase,erase_annD]
 | .seq x y=>by simp only[annN,erase,erase_annN x,erase_annN y]
 | .cond c x y=>by simp only[annN,erase,erase_annN x,erase_annN y]
 | .blk i x=>by simp only[annN,erase,erase_annN x]
 | .loop c=>by simp only[annN,erase,erase_annN (c ())]
 | .mrng pre x it nx bb et j c=>by simp only[annN,erase,erase_annO,erase_annN (c ())]
theorem erase_ann:∀ (h:HT)(c:ACode) ,erase (ann h c)=c:=by
 intro h
 induction h with
 | n=>intro c; cases c <;> exact erase_annN _
 | r hs=>
  intro c
  cases c <;> first
   | exact erase_annN _
   | simp only[ann,erase,erase_annO,erase_annD]
 | s h k ih1 ih2=>
  intro c
  cases c <;> first
   | exact erase_annN _
   | simp only[ann,erase,ih1,ih2]
 | b h ih=>
  intro c
  cases c <;> first
   | exact erase_annN _
   | simp only[ann,erase,ih]
 | l h xs k ih=>
  intro c
  cases c <;> first
   | exact erase_annN _
   | simp only[ann,erase,ih]
 | o h xs k ih=>intro c; simp only[ann,erase,ih]
 | m hs h k ih=>
  intro c
  cases c <;> first
   | exact erase_annN _
   | simp only[ann,erase,erase_annO,ih]
def lReg (P:Program)(n:Nat)(c:RCh)(ops:Array Oper)(draw:Bool):ACode:=match draw with
 | false=>.reg fun _=>(cOpers P n ops c.ch ops.toList).getD []
 | true=>.drw c.rs fun _=>pick' ((cOpers P n ops c.ch ops.toList).getD []).toArray (ordOf c ops.size)
theorem lReg_of {P:Program}{n:Nat}{c:RCh}{ops:Array Oper}{draw:Bool}{a:ACode}(h:cReg P n c ops draw=some a):lReg P n c ops draw=a:=by
 unfold cReg at h
 unfold lReg
 split at h
 ·rename_i l hl
  rw[hl]
  split at h
  ·cases h; rfl
  ·simp only[]at h
   split at h
   ·cases h; rfl
   ·cases h
 ·cases h
def lCode (P:Program)(n:Nat)(cs:List (Nat×RCh)):Code→ACode
 | .skip=>.skip
 | .ret=>.ret
 | .exit i=>.exit i
 | .region id ops draw=>lReg P n (rch cs id) ops draw
 | .seq a b=>cSeq P n a b (lCode P n cs a) (lCode P n cs b)
 | .cond c a b=>.cond ((cOpd c).getD (.t 0)) (lCode P n cs a) (lCode P n cs b)
 | .block i c=>.blk i (lCode P n cs c)
 | .loop c=>.loop fun _=>lCode P n cs c
 | _=>.skip
theorem lCode_of {P:Program}{n:Nat}{cs:List (Nat×RCh)}:∀ {c:Code} {a:ACode},cCode P n cs c=some a→lCode P n cs c=a
 | .skip,_,h=>by cases h; rfl
 | .ret,_,h=>by cases h; rfl
 | .exit i,_,h=>by cases h; rfl
 | .region id ops draw,_,h=>lReg_of h
 | .seq x y,_,h=>by
  simp only[cCode]at h
  split at h
  ·rename_i h1 h2; cases h; rw[lCode,lCode_of h1,lCode_of h2]
  ·cases h
 | .cond c x y,_,h=>by
  simp only[cCode]at h
  split at h
  ·rename_i h0 h1 h2; cases h; rw[lCode,lCode_of h1,lCode_of h2,h0]; rfl
  ·cases h
 | .block i c,_,h=>by
  simp only[cCode]at h
  split at h
  ·rename_i h1; cases h; rw[lCode,lCode_of h1]
  ·cases h
 | .loop c,_,h=>by
  simp only[cCode]at h
  split at h
  ·rename_i h1; cases h; rw[lCode,lCode_of h1]
  ·cases h
def anF (P:Program)(cs:List (Nat×RCh))(fn:Func)(h:HT):DCode:=match fn.body with
 | some b=>ann h (lCode P fn.ntmps cs b)
 | none=>.skip
theorem Fn.ofA {P:Program}(hm:P.follows .mixedOrders=true){f:FuncId}{fn:Func}(hf:P.funcs[f]?=some fn)(cs:List (Nat×RCh)){n:Nat}{rs:List Res}(H:HT)(h:(cFn P cs fn).map (fun x=>(x.1,x.2.1))=some (n,rs)):L.Fn P f n rs (erase (anF P cs fn H)):=by
 cases hc:cFn P cs fn with
 | none=>rw[hc]at h; cases h
 | some x=>
  rw[hc]at h
  obtain⟨n',rs',c⟩:=x
  cases h
  have:erase (anF P cs fn H)=c:=by
   have hc':=hc
   unfold cFn at hc'
   split at hc'
   ·split at hc'
    ·rename_i b rs0 hb hr
     split at hc'
     ·rename_i c0 h0
      cases hc'
      simp only[anF,hb,erase_ann]
      exact lCode_of h0
     ·cases hc'
    ·cases hc'
   ·cases hc'
  rw[this]
  exact L.Fn.of hm hf cs hc
def sb:List Nat→DCode→DCode
 | [],c=>c
 | 0::p,.seq x _=>sb p x
 | _::p,.seq _ y=>sb p y
 | 0::p,.cond _ x _=>sb p x
 | _::p,.cond _ _ y=>sb p y
 | _::p,.blk _ x=>sb p x
 | _::p,.loop _ _ x=>sb p x
 | _::p,.once _ _ x=>sb p x
 | _::p,.mrng _ _ _ _ _ _ _ _ x=>sb p x
 | _::_,c=>c
end Go.Proofs.YtdacabdocbhkdaaGreat.D

set_option linter.unusedVariables false
set_option linter.unusedSimpArgs false
namespace Go.Proofs.YtdacabdocbhkdaaGreat.D
open Go Go.Proofs.YtdacabdocbhkdaaGreat.L
def foldT (t:Ty):List Ty→Ty
 | []=>t
 | u::us=>.pair t (foldT u us)
def Wf:(t:Ty)→t.den→Prop
 | .int k,n=>(Lit.int k n).wf=true
 | .str,s=>s.size≤maxLen
 | .sl t,l=>l.length≤maxLen∧∀ i,i < l.length→Wf t (at0 t l i)
 | .pair a b,x=>Wf a x.1∧Wf b x.2
 | _,_=>True
def fieldsAt (P:Program)(rec:TypeId→Option (List Ty)):Nat→List Field→Option (List Ty)
 | _,[]=>some []
 | off,f::fs=>match rec f.type with
  | some ts=>bif Nat.beq f.offset off&&Nat.beq (P.cellsOf f.type) ts.length then(match fieldsAt P rec (off+ts.length) fs with
   | some us=>some (ts++us)
   | none=>none)else none
  | none=>none
def tyCells (P:Program):Nat→TypeId→Option (List Ty)
 | 0,_=>none
 | n+1,t=>match P.underlying t with
  | some (.int k)=>some [.int k]
  | some .bool=>some [.bool]
  | some .string=>some [.str]
  | some (.slice e)=>match tyCells P n e with
   | some (u::us)=>bif Nat.beq (P.cellsOf e) (us.length+1)then some [.sl (foldT u us)]else none
   | _=>none
  | some (.struct fs)=>match fieldsAt P (tyCells P n) 0 fs.toList with
   | some ts=>bif Nat.beq (P.cellsOf t) ts.length then some ts else none
   | none=>none
  | _=>none
def LCs (w:World):List Leaf→List Value→Prop
 | [],cs=>cs=[]
 | l::ls,cs=>∃ a v cs',cs=v::cs'∧CR l.t l.x [a]∧FV (fun _=>False) w a v∧Wf l.t l.x∧LCs w ls cs'
theorem LCs_app {w:World}:∀ {l l':List Leaf} {cs cs':List Value},LCs w l cs→LCs w l' cs'→LCs w (l++l') (cs++cs')
 | [],_,_,_,h,h'=>by cases h; exact h'
 | x::l,_,_,_,⟨a,v,c,e,h1,h2,h3,h4⟩,h'=>by subst e; exact⟨a,v,_,rfl,h1,h2,h3,LCs_app h4 h'⟩
theorem LCs_len {w:World}:∀ {l:List Leaf} {cs:List Value},LCs w l cs→cs.length=l.length
 | [],_,h=>by cases h; rfl
 | x::l,_,⟨a,v,c,e,h1,h2,h3,h4⟩=>by subst e; simp[LCs_len h4]
theorem at_succ (a:AV)(as:List AV)(j:Nat):at_ (a::as) (j+1)=at_ as j:=by simp[at_]
theorem foldT_w:∀ (t:Ty)(ts:List Ty) ,(∀ u∈t::ts,u.w=1)→(foldT t ts).w=ts.length+1
 | t,[],h=>by simp[foldT,h t (by simp)]
 | t,u::us,h=>by
  simp only[foldT,Ty.w,h t (by simp),foldT_w u us (fun v hv=>h v (by simp at hv ⊢; exact .inr hv)),List.length_cons]; omega
theorem pack {w:World}:∀ {t:Ty} {ts:List Ty} {l:List Leaf} {cs:List Value},l.map (·.t)=t::ts→LCs w l cs →
  ∃ (x:(foldT t ts).den) (as:List AV),CR (foldT t ts) x as∧Wf (foldT t ts) x∧as.length=cs.length∧∀ j,j < cs.length→FV (fun _=>False) w (at_ as j) (vat cs j)
 | t,[],[],_,h,_=>by simp at h
 | t,u::us,[],_,h,_=>by simp at h
 | t,[],⟨t',x⟩::l,cs,h,hc=>by
  simp only[List.map_cons,List.cons.injEq,List.map_eq_nil_iff]at h
  obtain⟨h1,rfl⟩:=h
  subst h1
  obtain⟨a,v,c,rfl,k1,k2,k3,k4⟩:=hc
  cases k4
  refine⟨x,[a],k1,k3,rfl,fun j hj=>?_⟩
  have:j=0:=by simpa using hj
  subst this
  exact k2
 | t,u::us,⟨t',x⟩::l,cs,h,hc=>by
  simp only[List.map_cons,List.cons.injEq]at h
  obtain⟨h1,h⟩:=h
  subst h1
  obtain⟨a,v,c,rfl,k1,k2,k3,k4⟩:=hc
  obtain⟨y,as,g1,g2,g3,g4⟩:=pack (t:=u) (ts:=us) (by simpa using h) k4
  refine⟨(x,y),a::as,⟨[a],as,rfl,k1,g1⟩,⟨k3,g2⟩,by simp[g3],fun j hj=>?_⟩
  cases j with
  | zero=>exact k2
  | succ j=>rw[at_succ]; exact g4 j (by simpa using hj)
section
variable {H:Type} {enc:TypeId×Value→H} {P:Program} {w:World} {base:Nat} {spare:Nat→Bool} {held:Bool}
theorem getD_range_map {α:Type}(g:Nat→α)(d:α){i n:Nat}(h:i < n):((List.range n).map g).getD i d=g i:=by
 simp[List.getD_eq_getElem?_getD,h]
theorem fields_cells {n:Nat}{rec:TypeId→Option (List Ty)}{cs:List Value}(hrec:∀ {t ts},rec t=some ts→∀ {cs x},DataW.trod enc P w base spare held n t cs=some x→∃ l:List Leaf,l.map (·.t)=ts∧LCs w l cs):
  ∀ (fs:List Field) (off:Nat) (ts:List Ty),fieldsAt P rec off fs=some ts→(∀ f∈fs,∃ x,DataW.trod enc P w base spare held n f.type ((cs.drop f.offset).take (P.cellsOf f.type))=some x) →
   ∃ l:List Leaf,l.map (·.t)=ts∧LCs w l ((cs.drop off).take ts.length)
 | [],off,ts,h,_=>by
  simp only[fieldsAt,Option.some.injEq]at h; subst h
  exact⟨[],rfl,by simp[LCs]⟩
 | f::fs,off,ts,h,hf=>by
  simp only[fieldsAt]at h
  cases hr:rec f.type with
  | none=>rw[hr]at h; cases h
  | some us=>
   rw[hr]at h
   cases hb:(Nat.beq f.offset off&&Nat.beq (P.cellsOf f.type) us.length)with
   | false=>simp only[hb,cond_false]at h; cases h
   | true=>
    simp only[hb,cond_true]at h
    simp only[Bool.and_eq_true,beq_iff]at hb
    obtain⟨e1,e2⟩:=hb
    cases hr2:fieldsAt P rec (off+us.length) fs with
    | none=>rw[hr2]at h; cases h
    | some vs=>
     rw[hr2]at h
     simp only[Option.some.injEq]at h; subst h
     obtain⟨x,hx⟩:=hf f (by simp)
     obtain⟨l,g1,g2⟩:=hrec hr hx
     obtain⟨l',g3,g4⟩:=fields_cells hrec fs _ _ hr2 (fun f' hf'=>hf f' (by simp[hf']))
     refine⟨l++l',by simp[g1,g3],?_⟩
     rw[e1,e2]at g2
     have:(cs.drop off).take (us++vs).length=(cs.drop off).take us.length++(cs.drop (off+us.length)).take vs.length:=by
      rw[List.length_append,List.take_add,List.drop_drop]
     rw[this]
     exact LCs_app g2 g4
theorem cell_lt {w:World}{a:Addr}{v:Value}(h:w.cell? a=some v):a.block < w.heap.size:=World.block_lt_of_cell? w a h
theorem trod_cells:∀ (n:Nat){t:TypeId}{ts:List Ty} ,tyCells P n t=some ts→∀ {fuel:Nat} {cs:List Value} {x:DataW H×List MemPlace},DataW.trod enc P w base spare held fuel t cs=some x→∃ l:List Leaf,l.map (·.t)=ts∧LCs w l cs
 | 0,_,_,h,_,_,_,_=>by cases h
 | n+1,t,ts,h,fuel,cs,x,ht=>by
  unfold tyCells at h
  split at h
  ·rename_i k hu
   cases h
   obtain⟨m,rfl,_,hw⟩:=DataW.trod_int hu ht
   exact⟨[⟨.int k,m⟩],rfl,_,_,_,rfl,rfl,.int k m,hw,rfl⟩
  ·rename_i hu
   cases h
   obtain⟨b,rfl,_⟩:=DataW.trod_bool hu ht
   exact⟨[⟨.bool,b⟩],rfl,_,_,_,rfl,rfl,.bool b,trivial,rfl⟩
  ·rename_i hu
   cases h
   obtain⟨s,rfl,_,hs⟩:=DataW.trod_string hu ht
   exact⟨[⟨.str,s⟩],rfl,_,_,_,rfl,rfl,.str s,hs,rfl⟩
  ·rename_i e hu
   cases hr:tyCells P n e with
   | none=>rw[hr]at h; cases h
   | some us=>
    rw[hr]at h
    cases us with
    | nil=>cases h
    | cons u us=>
     cases hb:Nat.beq (P.cellsOf e) (us.length+1)with
     | false=>simp only[hb,cond_false]at h; cases h
     | true=>
      simp only[hb,cond_true,Option.some.injEq]at h
      subst h
      have hce:=beq_iff.1 hb
      rcases DataW.trod_slice hu ht with⟨rfl,_⟩ | ⟨a,len,cap,elems,rest,m,rfl,rfl,_,_,hlc,hcm,hel,hcell,_,_⟩
      ·exact⟨[⟨.sl (foldT u us),[]⟩],rfl,.emp,_,_,rfl,.inl ⟨rfl,rfl⟩,.emp none,⟨by simp,by simp⟩,rfl⟩
      ·have key:∀ i,i < len→∃ (c:List Value) (x:(foldT u us).den) (as:List AV),(c.length=P.cellsOf e∧∀ j,j < P.cellsOf e→w.cell? ((a.add (i*P.cellsOf e)).add j)=c[j]?) ∧
         CR (foldT u us) x as∧Wf (foldT u us) x∧as.length=c.length∧∀ j,j < c.length→FV (fun _=>False) w (at_ as j) (vat c j):=by
        intro i hi
        have h1:=hcell i hi
        have h2:∃ y,elems[i]?=some y:=⟨_,List.getElem?_eq_getElem (by omega)⟩
        obtain⟨y,hy⟩:=h2
        rw[hy]at h1
        cases hc:w.cells? base (a.add (i*P.cellsOf e)) (P.cellsOf e)with
        | none=>rw[hc]at h1; cases h1
        | some c=>
         rw[hc]at h1
         obtain⟨_,g1,g2⟩:=World.cells?_some hc
         obtain⟨l,g3,g4⟩:=trod_cells n hr (show DataW.trod enc P w base spare held m e c=some y from h1)
         obtain⟨x,as,k⟩:=pack g3 g4
         exact⟨c,x,as,⟨g1,g2⟩,k⟩
       by_cases h0:len=0
       ·subst h0
        exact⟨[⟨.sl (foldT u us),[]⟩],rfl,.lst (foldT u us).w 0 (fun _=>[]),_,_,rfl,.inr ⟨fun _=>[],rfl,fun i hi=>by simp at hi⟩,.lst0 _ _ _ _,⟨by simp,by simp⟩,rfl⟩
       have hsp:a.spot=none:=by
        obtain⟨c,x,as,⟨g1,g2⟩,_⟩:=key 0 (by omega)
        have g3:=g2 0 (by omega)
        rw[List.getElem?_eq_getElem (by omega)]at g3
        simpa [Addr.add]using World.cell?_spot g3
       obtain⟨ab,ao,as⟩:=a
       have hsp':as=none:=hsp
       subst hsp'
       let F:Nat→(List Value×(foldT u us).den)×List AV:=fun i=>if hi:i < len then((Classical.choose (key i hi),Classical.choose (Classical.choose_spec (key i hi))),Classical.choose (Classical.choose_spec (Classical.choose_spec (key i hi))))else(([],Ty.zero _),[])
       have hF:∀ i,i < len→((F i).1.1.length=P.cellsOf e∧∀ j,j < P.cellsOf e→w.cell? (((⟨ab,ao,none⟩:Addr).add (i*P.cellsOf e)).add j)=(F i).1.1[j]?) ∧
         CR (foldT u us) (F i).1.2 (F i).2∧Wf (foldT u us) (F i).1.2∧(F i).2.length=(F i).1.1.length∧∀ j,j < (F i).1.1.length→FV (fun _=>False) w (at_ (F i).2 j) (vat (F i).1.1 j):=by
        intro i hi
        have:=Classical.choose_spec (Classical.choose_spec (Classical.choose_spec (key i hi)))
        simp only[F,dif_pos hi]
        exact this
       have hw:(foldT u us).w=P.cellsOf e:=by
        have g:=hF 0 (by omega)
        rw[← CR_len g.2.1,g.2.2.2.1,g.1.1]
       have hc:∀ i j,i < len→j < (foldT u us).w→w.cell? ((⟨ab,ao,none⟩:Addr).add (i*(foldT u us).w+j))=some (vat (F i).1.1 j):=by
        intro i j hi hj
        have g:=(hF i hi).1.2 j (by omega)
        rw[hw]
        rw[Go.WideShapes.add_plain,Go.WideShapes.add_plain]at g
        rw[Go.WideShapes.add_plain,← Nat.add_assoc,g]
        have hl:=(hF i hi).1.1
        rw[List.getElem?_eq_getElem (by omega)]
        simp[vat,List.getD_eq_getElem?_getD,List.getElem?_eq_getElem (show j < (F i).1.1.length by omega)]
       have hlen:((List.range len).map fun i=>(F i).1.2).length=len:=by simp
       refine⟨[⟨.sl (foldT u us),(List.range len).map fun i=>(F i).1.2⟩],rfl,.lst (foldT u us).w len (fun i=>(F i).2),_,_,rfl,.inr ⟨fun i=>(F i).2,by rw[hlen],fun i hi=>?_⟩,?_,⟨by rw[hlen]; omega,fun i hi=>?_⟩,rfl⟩
       ·rw[hlen]at hi
        rw[at0,getD_range_map _ _ hi]
        exact(hF i hi).2.1
       ·refine .lst _ _ _ _ _ (fun i j=>vat (F i).1.1 j) (by omega) hlc rfl (fun h=>h) ?_ hc (fun i hi=>CR_len (hF i hi).2.1) (fun i j hi hj=>(hF i hi).2.2.2.2 j (by rw[(hF i hi).1.1]; omega))
        have:=cell_lt (hc 0 0 (by omega) (by rw[hw,hce]; omega))
        rwa [add_block]at this
       ·rw[hlen]at hi
        rw[at0,getD_range_map _ _ hi]
        exact(hF i hi).2.2.1
  ·rename_i fs hu
   obtain⟨xs,m,rfl,_,hcl,hxl,hx⟩:=DataW.trod_struct hu ht
   cases hr:fieldsAt P (tyCells P n) 0 fs.toList with
   | none=>rw[hr]at h; cases h
   | some us=>
    rw[hr]at h
    cases hb:Nat.beq (P.cellsOf t) us.length with
    | false=>simp only[hb,cond_false]at h; cases h
    | true=>
     simp only[hb,cond_true,Option.some.injEq]at h
     subst h
     obtain⟨l,g1,g2⟩:=fields_cells (cs:=cs) (n:=m) (fun {t ts} hr {cs x} hx=>trod_cells n hr hx) fs.toList 0 us hr (fun f hf=>by
      obtain⟨i,hi,e⟩:=List.mem_iff_getElem.1 hf
      have hi':i < fs.size:=by simpa using hi
      have:=hx i f (by rw[Array.getElem?_eq_getElem hi']; simpa using e)
      rw[this]
      exact⟨_,List.getElem?_eq_getElem (by omega)⟩)
     refine⟨l,g1,?_⟩
     rw[List.drop_zero,List.take_of_length_le (by rw[hcl,beq_iff.1 hb]; exact Nat.le_refl _)]at g2
     exact g2
  ·cases h
end
end Go.Proofs.YtdacabdocbhkdaaGreat.D

set_option linter.unusedVariables false
set_option linter.unusedSimpArgs false
namespace Go.Proofs.YtdacabdocbhkdaaGreat.D
open Go Go.Proofs.YtdacabdocbhkdaaGreat.L
def pi0:Pi:=fun _=>none
def plainU:Option TypeDesc→Bool
 | some (.int _) | some .bool | some .string | some (.slice _)=>true
 | _=>false
section
variable {H:Type} {enc:TypeId×Value→H} {P:Program} {w:World} {base:Nat} {spare:Nat→Bool} {held:Bool}
theorem arg_st {n:Nat}{t:TypeId}{u:Ty}{us:List Ty}{fs:Array Field}{r:Reach}{b0:Nat}{v:Value}{d:DataW H}{ps:List MemPlace}(hu:P.underlying t=some (.struct fs))(hc:tyCells P n t=some (u::us))
  (hval:Value.okWide P w r b0 t v) (h:DataW.Trod enc P w base spare held t v d ps) :
  ∃ (x:(foldT u us).den) (a:AV),Wf (foldT u us) x∧RelV pi0 (.agg (cellsD (foldT u us) x)) a∧RV (fun _=>False) w a v:=by
 obtain⟨cs,rfl,_⟩:=Go.WideShapes.okWide_struct hu hval
 obtain⟨fuel,hf⟩:=h
 obtain⟨l,g1,g2⟩:=trod_cells n hc hf
 obtain⟨x,as,k1,k2,k3,k4⟩:=pack g1 g2
 refine⟨x,.agg as,k2,?_,?_⟩
 ·simp only[RelV]; exact⟨as,rfl,CR_cells k1⟩
 ·have e:(Value.agg cs).cells.toList=cs.toList:=rfl
  rw[e]at k3 k4
  have h1:=RV.agg (own:=fun _=>False) (w:=w) as cs.toList k3.symm (fun j hj=>.fz _ _ (k4 j (by omega)))
  simpa using h1
theorem arg_v {n:Nat}{t:TypeId}{u:Ty}{r:Reach}{b0:Nat}{v:Value}{d:DataW H}{ps:List MemPlace}(hu:plainU (P.underlying t)=true)(hc:tyCells P n t=some [u])
  (hval:Value.okWide P w r b0 t v) (h:DataW.Trod enc P w base spare held t v d ps) :
  ∃ (x:u.den) (a:AV),Wf u x∧RelV pi0 (.v ⟨u,x⟩) a∧RV (fun _=>False) w a v:=by
 obtain⟨fuel,hf⟩:=h
 obtain⟨l,g1,g2⟩:=trod_cells n hc hf
 have hcell:v.cells.toList=[v]:=by
  cases hx:P.underlying t with
  | none=>rw[hx]at hu; cases hu
  | some y=>
   cases y with
   | int k=>obtain⟨m,rfl⟩:=Go.WideShapes.okWide_int hx hval; rfl
   | bool=>obtain⟨m,rfl⟩:=Go.WideShapes.okWide_bool hx hval; rfl
   | string=>obtain⟨m,rfl⟩:=Go.WideShapes.okWide_string hx hval; rfl
   | slice e=>obtain⟨a,m,c,rfl⟩:=Go.WideShapes.okWide_slice hx hval; rfl
   | _=>rw[hx]at hu; cases hu
 rw[hcell]at g2
 cases l with
 | nil=>cases g1
 | cons l ls=>
  obtain⟨t',x⟩:=l
  simp only[List.map_cons,List.cons.injEq,List.map_eq_nil_iff]at g1
  obtain⟨h1,rfl⟩:=g1
  subst h1
  obtain⟨a,v',c,e,k1,k2,k3,k4⟩:=g2
  cases k4
  cases e
  exact⟨x,a,k3,by simp only[RelV]; exact k1,.fz _ _ k2⟩
end
theorem RVs_nil (o:Nat→Prop)(w:World):RVs o w [] []:=⟨rfl,fun j hj=>by simp at hj⟩
theorem RVs_cons {o:Nat→Prop}{w:World}{a:AV}{v:Value}{as:List AV}{vs:List Value}(h:RV o w a v)(hs:RVs o w as vs):RVs o w (a::as) (v::vs):=by
 refine⟨by simp[hs.1],fun j hj=>?_⟩
 cases j with
 | zero=>exact h
 | succ j=>have:=hs.2 j (by simpa using hj); simpa [at_,vat]using this
def boolOut:OutSh:=⟨⟨[.v .bool],[]⟩,[.bool],[],0⟩
theorem law_calls {P:Program}{f:FuncId}{ins:StSh}{ts:List Ty}{m:Nat}{bw:Bool}{F:dens ts→Option Bool}(hd:DC P f ⟨ins,ts,m,boolOut,bw⟩ F){x:dens ts}(hx:F x=some true){ds:List DV}
  (hf:fillSt (fun k=>k) ins (ofDens ts x)=some (ds,[])) {as:List AV} (hr:RelVs pi0 ds as) {vs:List Value} {w:World} (hv:RVs (fun _=>False) w as vs) :
  Calls P f vs.toArray w fun e w'=>e = .returned (.bool true)∧Go.RowKit.Below w.heap.size w w':=by
 have hac:=hd.2 x true hx pi0 es0 as es0 ⟨ds,[],hf,hr,⟨fun b o h=>(by cases h),fun b1 b2 o1 o2 b' c1 n1 c2 n2 h=>(by cases h),fun b' x h=>(by cases h),fun b o b' c n h=>(by cases h),fun b h=>rfl⟩⟩
 refine(hac.2 vs w (fun b x hb=>by cases hb) (by rw[own_es0]; exact hv)).mono ?_
 rintro en w' ⟨v,r,s',rfl,⟨π1,d,os,hfill,_,hrel,_,_⟩,_,hrv,hm⟩
 have hfill':some ([DV.v ⟨.bool,true⟩],([]:List (Nat×DObj)))=some ([d],os):=hfill
 simp only[Option.some.injEq,Prod.mk.injEq,List.cons.injEq,and_true]at hfill'
 obtain⟨rfl,rfl⟩:=hfill'
 simp only[RelV,CR]at hrel
 cases hrel
 refine⟨?_,⟨hm.os,hm.tape,hm.output,hm.size,fun b hb=>hm.block b hb (fun h=>h rfl)⟩⟩
 cases hrv with
 | fz _ _ h=>cases h; rfl
end Go.Proofs.YtdacabdocbhkdaaGreat.D

set_option linter.unusedVariables false
set_option linter.unusedSimpArgs false
namespace Go.Proofs.YtdacabdocbhkdaaGreat.D
open Go Go.Proofs.YtdacabdocbhkdaaGreat.L
theorem goF_run {σ ρ:Type}{step:σ→Option (σ⊕ρ)}(s:Nat→σ)(r:ρ):∀ (n k m:Nat),(∀ i,k≤i→i < k+n→step (s i)=some (.inl (s (i+1))))→step (s (k+n))=some (.inr r)→n < m→goF step m (s k)=some r
 | n,k,0,_,_,hm=>by omega
 | 0,k,m+1,_,h2,hm=>by
  have h2':step (s k)=some (.inr r):=h2
  simp only[goF,h2']
 | n+1,k,m+1,h1,h2,hm=>by
  simp only[goF,h1 k (Nat.le_refl _) (by omega)]
  exact goF_run s r n (k+1) m (fun i h3 h4=>h1 i (by omega) (by omega)) (by rwa [Nat.add_right_comm,Nat.add_assoc]) (by omega)
theorem while_run {σ ρ:Type}{step:σ→Option (σ⊕ρ)}(n:Nat)(s:Nat→σ)(r:ρ)(h1:∀ i,i < n→step (s i)=some (.inl (s (i+1))))(h2:step (s n)=some (.inr r))(hn:n < 18446744073709551616):whileF step (s 0)=some r:=
 goF_run s r n 0 _ (fun i _ h=>h1 i (by omega)) (by rwa [Nat.zero_add]) hn
def allB:Nat→(Nat→Bool)→Bool
 | 0,_=>true
 | n+1,f=>allB n f&&f n
theorem allB_true {f:Nat→Bool}:∀ {n:Nat},allB n f=true↔∀ k,k < n→f k=true
 | 0=>by simp[allB]
 | n+1=>by
  simp only[allB,Bool.and_eq_true,allB_true]
  constructor
  ·rintro⟨h1,h2⟩ k hk
   by_cases h:k=n
   ·rw[h]; exact h2
   ·exact h1 k (by omega)
  ·intro h; exact⟨fun k hk=>h k (by omega),h n (by omega)⟩
theorem allB_false {f:Nat→Bool}:∀ {n:Nat},allB n f=false→∃ k,k < n∧f k=false∧∀ i,i < k→f i=true
 | 0,h=>by simp[allB]at h
 | n+1,h=>by
  cases hn:allB n f with
  | false=>obtain⟨k,h1,h2⟩:=allB_false hn; exact⟨k,by omega,h2⟩
  | true=>simp only[allB,hn,Bool.true_and]at h; exact⟨n,by omega,h,fun i hi=>allB_true.1 hn i hi⟩
theorem allB_congr {f g:Nat→Bool}:∀ {n:Nat},(∀ k,k < n→f k=g k)→allB n f=allB n g
 | 0,_=>rfl
 | n+1,h=>by simp only[allB]; rw[allB_congr (fun k hk=>h k (by omega)),h n (by omega)]
theorem while_all {σ ρ:Type}{step:σ→Option (σ⊕ρ)}(n:Nat)(s:Nat→σ)(ok:Nat→Bool)(bad fin:ρ)(h1:∀ k,k < n→step (s k)=some (cond (ok k) (.inl (s (k+1))) (.inr bad)))
  (h2:step (s n)=some (.inr fin)) (hn:n < 18446744073709551616):whileF step (s 0)=some (cond (allB n ok) fin bad):=by
 cases h:allB n ok with
 | true=>exact while_run n s fin (fun i hi=>by rw[h1 i hi,allB_true.1 h i hi]; rfl) h2 hn
 | false=>
  obtain⟨k,hk,hf,ht⟩:=allB_false h
  exact while_run k s bad (fun i hi=>by rw[h1 i (by omega),ht i hi]; rfl) (by rw[h1 k hk,hf]; rfl) (by omega)
theorem while_all' {σ ρ:Type}{step:σ→Option (σ⊕ρ)}(n:Nat)(s:Nat→σ)(ok:Nat→Bool)(bad fin:ρ)(h1:∀ k,k < n→(∀ i,i < k→ok i=true)→step (s k)=some (cond (ok k) (.inl (s (k+1))) (.inr bad)))
  (h2:allB n ok=true→step (s n)=some (.inr fin)) (hn:n < 18446744073709551616):whileF step (s 0)=some (cond (allB n ok) fin bad):=by
 cases h:allB n ok with
 | true=>exact while_run n s fin (fun i hi=>by rw[h1 i hi fun j hj=>allB_true.1 h j (by omega),allB_true.1 h i hi]; rfl) (h2 h) hn
 | false=>
  obtain⟨k,hk,hf,ht⟩:=allB_false h
  exact while_run k s bad (fun i hi=>by rw[h1 i (by omega) fun j hj=>ht j (by omega),ht i hi]; rfl) (by rw[h1 k hk ht,hf]; rfl) (by omega)
def firstB:Nat→(Nat→Bool)→Nat
 | 0,_=>0
 | n+1,f=>bif Nat.blt (firstB n f) n then firstB n f else bif f n then n else n+1
def foldN {β:Type}(f:Nat→β→β):Nat→β→β
 | 0,b=>b
 | n+1,b=>f n (foldN f n b)
theorem inR_nat {k n:Nat}(h:k < n):inR (k:Int) n=true:=by simp[inR]; omega
theorem inR_iff {i:Int}{n:Nat}:inR i n=true↔0≤i∧i < n:=by simp[inR]
theorem inR_of {i:Int}{n:Nat}(h:0≤i)(h':i < n):inR i n=true:=inR_iff.2 ⟨h,h'⟩
theorem fits_iff {n:Int}:fits .i64 n=true ↔ -9223372036854775808≤n∧n≤9223372036854775807:=by
 rw[fits,decide_eq_true_eq]
 have e1:(2:Int)^(64-1)=9223372036854775808:=by decide
 have e2:(2:Int)^64=18446744073709551616:=by decide
 simp only[IntKind.wrap,IntKind.bits,IntKind.signed,Bool.true_and,decide_eq_true_eq,e1,e2]
 constructor
 ·intro h; rw[← h]; split <;> omega
 ·rintro⟨h1,h2⟩; split <;> omega
theorem fits_of {n:Int}(h:-9223372036854775808≤n)(h':n≤9223372036854775807):fits .i64 n=true:=fits_iff.2 ⟨h,h'⟩
theorem fits_nat {k:Nat}(h:k < 9223372036854775807):fits .i64 ((k:Int)+1)=true:=fits_of (by omega) (by omega)
theorem capOk_of {b n:Nat}(h:b*n≤140737488355328):capOk b n=true:=by simp[capOk,h]
theorem chk_t {α:Type}{k:Option α}:chk true k=k:=rfl
theorem chk_of {α:Type}{b:Bool}{k:Option α}(h:b=true):chk b k=k:=by rw[h]; rfl
theorem ix_nat {α:Type}[Inhabited α](l:List α)(k:Nat):ix l (k:Int)=l.getD k default:=by simp[ix]
theorem wf64 {n:Int}(h:(Lit.int .i64 n).wf=true):-9223372036854775808≤n∧n≤9223372036854775807:=by
 simp[Lit.wf,IntKind.min,IntKind.max,IntKind.signed,IntKind.bits]at h; omega
theorem cast_succ (k:Nat):((k+1:Nat):Int)=(k:Int)+1:=by omega
theorem lt_nat (k n:Nat):decide ((k:Int) < (n:Int))=decide (k < n):=by simp
theorem lt_nat_t {k n:Nat}(h:k < n):decide ((k:Int) < (n:Int))=true:=by simp[h]
theorem lt_nat_f (n:Nat):decide ((n:Int) < (n:Int))=false:=by simp
theorem bind_some' {α β:Type}(a:α)(f:α→Option β):(some a).bind f=f a:=rfl
theorem elim_inl {α β γ:Type}(f:α→γ)(g:β→γ)(a:α):Sum.elim f g (Sum.inl a)=f a:=rfl
theorem elim_inr {α β γ:Type}(f:α→γ)(g:β→γ)(a:β):Sum.elim f g (Sum.inr a)=g a:=rfl
theorem bind_cond {α β:Type}(c:Bool)(a b:α)(f:α→Option β):(some (cond c a b)).bind f=cond c (f a) (f b):=by cases c <;> rfl
theorem not_decide_eq {α:Type}[DecidableEq α](a:α):(!decide (a=a))=false:=by simp
def wi (x a b:Int):Bool:=decide (a≤x)&&decide (x≤b)
theorem wi_iff {x a b:Int}:wi x a b=true↔a≤x∧x≤b:=by simp[wi]
theorem wi_cond (x a b:Int):(cond (decide (a≤x)) (some (decide (x≤b))) (some false))=some (wi x a b):=by
 unfold wi; cases decide (a≤x) <;> rfl
end Go.Proofs.YtdacabdocbhkdaaGreat.D

set_option linter.unusedVariables false
set_option linter.unusedSimpArgs false
namespace Go.Proofs.YtdacabdocbhkdaaGreat.D
open Go Go.Proofs.YtdacabdocbhkdaaGreat.L
theorem goF_meas {σ ρ:Type}{step:σ→Option (σ⊕ρ)}(μ:σ→Nat)(I:σ→Prop)(R:ρ→Prop)(h:∀ s,I s→(∃ s',step s=some (.inl s')∧I s'∧μ s' < μ s)∨∃ r,step s=some (.inr r)∧R r):
  ∀ (m:Nat) (x:σ),I x→μ x < m→∃ r,goF step m x=some r∧R r
 | 0,x,_,hm=>by omega
 | m+1,x,hx,hm=>by
  rcases h x hx with⟨s',h1,h2,h3⟩ | ⟨r,h1,h2⟩
  ·obtain⟨r,g1,g2⟩:=goF_meas μ I R h m s' h2 (by omega)
   exact⟨r,by simp only[goF,h1]; exact g1,g2⟩
  ·exact⟨r,by simp only[goF,h1],h2⟩
theorem while_meas {σ ρ:Type}{step:σ→Option (σ⊕ρ)}(μ:σ→Nat)(I:σ→Prop)(R:ρ→Prop){x:σ}(h0:I x)(hn:μ x < 18446744073709551616)(h:∀ s,I s→(∃ s',step s=some (.inl s')∧I s'∧μ s' < μ s)∨∃ r,step s=some (.inr r)∧R r):
  ∃ r,whileF step x=some r∧R r:=goF_meas μ I R h _ x h0 hn
theorem while_inv {σ ρ:Type}{step:σ→Option (σ⊕ρ)}(n:Nat)(I:Nat→σ→Prop)(R:ρ→Prop){x:σ}(h0:I 0 x)(hn:n < 18446744073709551616)(h1:∀ k s,k < n→I k s→∃ s',step s=some (.inl s')∧I (k+1) s')(h2:∀ s,I n s→∃ r,step s=some (.inr r)∧R r):
  ∃ r,whileF step x=some r∧R r:=by
 have key:∀ (d k m:Nat) (s:σ),k+d=n→I k s→d < m→∃ r,goF step m s=some r∧R r:=by
  intro d
  induction d with
  | zero=>
   intro k m s hk hI hm
   obtain⟨r,g1,g2⟩:=h2 s (by rw[← hk]; exact hI)
   obtain⟨m,rfl⟩:∃ m',m=m'+1:=⟨m-1,by omega⟩
   exact⟨r,by simp only[goF,g1],g2⟩
  | succ d ih=>
   intro k m s hk hI hm
   obtain⟨s',g1,g2⟩:=h1 k s (by omega) hI
   obtain⟨m,rfl⟩:∃ m',m=m'+1:=⟨m-1,by omega⟩
   obtain⟨r,g3,g4⟩:=ih (k+1) m s' (by omega) g2 (by omega)
   exact⟨r,by simp only[goF,g1]; exact g3,g4⟩
 exact key n 0 _ x (by omega) h0 hn
def Cut (Q:Nat→Prop)(a b i:Nat):Prop:=(∀ p,a≤p→p < i→Q p)∧∀ p,i≤p→p < b→¬ Q p
theorem while_half {σ ρ:Type}{step:σ→Option (σ⊕ρ)}(Q:Nat→Prop)(S:Nat→Nat→σ)(O:Nat→ρ)(a b:Nat)
  (h:∀ i j,a≤i→i < j→j≤b→(Q ((i+j) / 2)∧step (S i j)=some (.inl (S ((i+j) / 2+1) j)))∨(¬ Q ((i+j) / 2)∧step (S i j)=some (.inl (S i ((i+j) / 2)))))
  (he:∀ i,a≤i→i≤b→step (S i i)=some (.inr (O i))) (hab:a≤b) (hb:b < 18446744073709551616) :
  ∃ k,whileF step (S a b)=some (O k)∧a≤k∧k≤b∧((∀ p q,a≤p→p≤q→q < b→Q q→Q p)→Cut Q a b k):=by
 have key:∀ (d i j m:Nat),j≤i+d→d < m→a≤i→i≤j→j≤b→((∀ p q,a≤p→p≤q→q < b→Q q→Q p)→(∀ p,a≤p→p < i→Q p)∧∀ p,j≤p→p < b→¬ Q p) →
   ∃ k,goF step m (S i j)=some (O k)∧a≤k∧k≤b∧((∀ p q,a≤p→p≤q→q < b→Q q→Q p)→Cut Q a b k):=by
  intro d
  induction d with
  | zero=>
   intro i j m hd hm h1 h2 h3 h4
   obtain rfl:i=j:=by omega
   obtain⟨m,rfl⟩:∃ m',m=m'+1:=⟨m-1,by omega⟩
   exact⟨i,by simp only[goF,he i h1 h3],h1,h3,h4⟩
  | succ d ih=>
   intro i j m hd hm h1 h2 h3 h4
   obtain⟨m,rfl⟩:∃ m',m=m'+1:=⟨m-1,by omega⟩
   rcases Nat.lt_or_ge i j with hlt | hge
   ·rcases h i j h1 hlt h3 with⟨g1,g2⟩ | ⟨g1,g2⟩
    ·obtain⟨k,k1,k2⟩:=ih ((i+j) / 2+1) j m (by omega) (by omega) (by omega) (by omega) h3 fun hm=>⟨fun p p1 p2=>by
      by_cases e:p < i
      ·exact(h4 hm).1 p p1 e
      ·exact hm p ((i+j) / 2) p1 (by omega) (by omega) g1,(h4 hm).2⟩
     exact⟨k,by simp only[goF,g2]; exact k1,k2⟩
    ·obtain⟨k,k1,k2⟩:=ih i ((i+j) / 2) m (by omega) (by omega) h1 (by omega) (by omega) fun hm=>⟨(h4 hm).1,fun p p1 p2 hq=>g1 (hm ((i+j) / 2) p (by omega) p1 p2 hq)⟩
     exact⟨k,by simp only[goF,g2]; exact k1,k2⟩
   ·obtain rfl:i=j:=by omega
    exact⟨i,by simp only[goF,he i h1 h3],h1,h3,h4⟩
 exact key b a b _ (by omega) hb (Nat.le_refl _) hab (Nat.le_refl _) fun _=>⟨fun p q1 q2=>by omega,fun p q1 q2=>by omega⟩
theorem while_find {σ ρ:Type}{step:σ→Option (σ⊕ρ)}(n:Nat)(s:Nat→σ)(p:Nat→Bool)(O1:Nat→ρ)(O2:ρ)
  (h1:∀ k,k < n→(∀ j,j < k→p j=false)→step (s k)=some (cond (p k) (.inr (O1 k)) (.inl (s (k+1))))) (h2:(∀ j,j < n→p j=false)→step (s n)=some (.inr O2)) (hn:n < 18446744073709551616) :
  (∃ k,k < n∧p k=true∧(∀ j,j < k→p j=false)∧whileF step (s 0)=some (O1 k))∨((∀ j,j < n→p j=false)∧whileF step (s 0)=some O2):=by
 cases h:allB n (fun i=>!p i)with
 | true=>
  have hp:∀ j,j < n→p j=false:=fun j hj=>by simpa using allB_true.1 h j hj
  exact .inr ⟨hp,while_run n s _ (fun i hi=>by rw[h1 i hi fun j hj=>hp j (by omega),hp i hi]; rfl) (h2 hp) hn⟩
 | false=>
  obtain⟨k,hk,hf,ht⟩:=allB_false h
  have hp:∀ j,j < k→p j=false:=fun j hj=>by simpa using ht j hj
  have hf':p k=true:=by simpa using hf
  exact .inl ⟨k,hk,hf',hp,while_run k s _ (fun i hi=>by rw[h1 i (by omega) fun j hj=>hp j (by omega),hp i hi]; rfl) (by rw[h1 k hk hp,hf']; rfl) (by omega)⟩
section
variable {α:Type} [Inhabited α]
def gt (l:List α)(i:Nat):α:=l.getD i default
theorem ix_gt (l:List α)(k:Nat):ix l (k:Int)=gt l k:=ix_nat l k
theorem ixn_gt (l:List α)(k:Nat):ixn l k=gt l k:=rfl
theorem gt_lt {l:List α}{i:Nat}(h:i < l.length):gt l i=l[i]:=by simp[gt,List.getD_eq_getElem?_getD,h]
theorem gt_ge {l:List α}{i:Nat}(h:l.length≤i):gt l i=default:=by simp[gt,List.getD_eq_getElem?_getD,h]
theorem gt_mem {l:List α}{i:Nat}(h:i < l.length):gt l i∈l:=by rw[gt_lt h]; exact List.getElem_mem h
theorem mem_gt {l:List α}{x:α}(h:x∈l):∃ i,i < l.length∧gt l i=x:=by
 obtain⟨i,hi,rfl⟩:=List.getElem_of_mem h
 exact⟨i,hi,gt_lt hi⟩
theorem gt_ext {l l':List α}(hl:l.length=l'.length)(h:∀ i,i < l.length→gt l i=gt l' i):l=l':=by
 refine List.ext_getElem hl fun i h1 h2=>?_
 have:=h i h1
 rwa [gt_lt h1,gt_lt h2]at this
theorem gt_set (l:List α)(i j:Nat)(x:α)(h:i < l.length):gt (l.set i x) j=if i=j then x else gt l j:=by
 simp only[gt,List.getD_eq_getElem?_getD,List.getElem?_set]
 split
 ·rename_i e; subst e; simp[h]
 ·rfl
theorem gt_take (l:List α)(n i:Nat)(h:i < n):gt (l.take n) i=gt l i:=by simp[gt,List.getD_eq_getElem?_getD,List.getElem?_take,h]
theorem gt_drop (l:List α)(n i:Nat):gt (l.drop n) i=gt l (n+i):=by simp[gt,List.getD_eq_getElem?_getD,List.getElem?_drop]
theorem gt_append (l m:List α)(i:Nat):gt (l++m) i=if i < l.length then gt l i else gt m (i-l.length):=by
 simp only[gt,List.getD_eq_getElem?_getD]
 split
 ·rename_i h; rw[List.getElem?_append_left h]
 ·rename_i h; rw[List.getElem?_append_right (by omega)]
theorem find_at {l:List α}{p:α→Bool}{i:Nat}(hi:i < l.length)(h1:p (gt l i)=true)(h2:∀ j,j < i→p (gt l j)=false):l.find? p=some (gt l i):=by
 rw[List.find?_eq_some_iff_getElem]
 refine⟨h1,i,hi,(gt_lt hi).symm,fun j hj=>?_⟩
 have:=h2 j hj
 rw[gt_lt (by omega)]at this
 simp[this]
theorem find_no {l:List α}{p:α→Bool}(h:∀ j,j < l.length→p (gt l j)=false):l.find? p=none:=by
 rw[List.find?_eq_none]
 intro x hx
 obtain⟨i,hi,rfl⟩:=mem_gt hx
 simp[h i hi]
theorem all_gt {l:List α}{p:α→Bool}:allB l.length (fun k=>p (gt l k))=true↔∀ x∈l,p x=true:=by
 rw[allB_true]
 exact⟨fun h x hx=>by obtain⟨i,hi,rfl⟩:=mem_gt hx; exact h i hi,fun h k hk=>h _ (gt_mem hk)⟩
def sw (l:List α)(i j:Nat):List α:=(l.set i (gt l j)).set j (gt l i)
theorem sw_len (l:List α)(i j:Nat):(sw l i j).length=l.length:=by simp[sw]
theorem gt_sw {l:List α}{i j:Nat}(k:Nat)(hi:i < l.length)(hj:j < l.length):gt (sw l i j) k=if k=j then gt l i else if k=i then gt l j else gt l k:=by
 unfold sw
 rw[gt_set _ _ _ _ (by simpa using hj),gt_set _ _ _ _ hi]
 by_cases h1:k=j
 ·rw[if_pos h1,if_pos h1.symm]
 ·rw[if_neg h1,if_neg (Ne.symm h1)]
  by_cases h2:k=i
  ·rw[if_pos h2,if_pos h2.symm]
  ·rw[if_neg h2,if_neg (Ne.symm h2)]
theorem sw_perm {l:List α}{i j:Nat}(hi:i < l.length)(hj:j < l.length):(sw l i j).Perm l:=by
 unfold sw
 rw[gt_lt hi,gt_lt hj]
 exact List.set_set_perm hi hj
structure Rg (l l':List α) (a b:Nat):Prop where
 perm:l'.Perm l
 lo:∀ k,k < a→gt l' k=gt l k
 hi:∀ k,b≤k→gt l' k=gt l k
theorem Rg.refl (l:List α)(a b:Nat):Rg l l a b:=⟨.refl _,fun _ _=>rfl,fun _ _=>rfl⟩
theorem Rg.len {l l':List α}{a b:Nat}(h:Rg l l' a b):l'.length=l.length:=h.perm.length_eq
theorem Rg.trans {l l1 l2:List α}{a b:Nat}(h:Rg l l1 a b)(k:Rg l1 l2 a b):Rg l l2 a b:=⟨k.perm.trans h.perm,fun i hi=>(k.lo i hi).trans (h.lo i hi),fun i hi=>(k.hi i hi).trans (h.hi i hi)⟩
theorem Rg.wide {l l':List α}{a b a' b':Nat}(h:Rg l l' a b)(h1:a'≤a)(h2:b≤b'):Rg l l' a' b':=⟨h.perm,fun i hi=>h.lo i (by omega),fun i hi=>h.hi i (by omega)⟩
theorem Rg.sw {l:List α}{i j a b:Nat}(hi:i < l.length)(hj:j < l.length)(h1:a≤i)(h2:i < b)(h3:a≤j)(h4:j < b):Rg l (D.sw l i j) a b:=
 ⟨sw_perm hi hj,fun k hk=>by rw[gt_sw k hi hj,if_neg (by omega),if_neg (by omega)],fun k hk=>by rw[gt_sw k hi hj,if_neg (by omega),if_neg (by omega)]⟩
omit [Inhabited α] in
theorem split3 (l:List α){a b:Nat}(hab:a≤b):l=l.take a++((l.drop a).take (b-a)++l.drop b):=by
 have h1:l.drop b=(l.drop a).drop (b-a):=by rw[List.drop_drop]; congr 1; omega
 rw[h1,List.take_append_drop,List.take_append_drop]
theorem Rg.seg {l l':List α}{a b:Nat}(h:Rg l l' a b)(hab:a≤b):((l'.drop a).take (b-a)).Perm ((l.drop a).take (b-a)):=by
 have e1:l'.take a=l.take a:=gt_ext (by simp[h.len]) fun i hi=>by
  have:i < a:=by simp at hi; omega
  rw[gt_take _ _ _ this,gt_take _ _ _ this,h.lo i this]
 have e2:l'.drop b=l.drop b:=gt_ext (by simp[h.len]) fun i hi=>by
  rw[gt_drop,gt_drop,h.hi _ (by omega)]
 have hp:=h.perm
 rw[split3 l hab,split3 l' hab,e1,e2,List.perm_append_left_iff,List.perm_append_right_iff]at hp
 exact hp
theorem Rg.mem {l l':List α}{a b k:Nat}(h:Rg l l' a b)(hb:b≤l.length)(h1:a≤k)(h2:k < b):∃ k',a≤k'∧k' < b∧gt l' k=gt l k':=by
 have hs:=h.seg (show a≤b by omega)
 have hm:gt l' k∈(l'.drop a).take (b-a):=by
  have e:gt ((l'.drop a).take (b-a)) (k-a)=gt l' k:=by rw[gt_take _ _ _ (by omega),gt_drop]; congr 1; omega
  rw[← e]; exact gt_mem (by have:=h.len; simp; omega)
 obtain⟨i,hi,he⟩:=mem_gt (hs.mem_iff.1 hm)
 have hi':i < b-a:=by simp at hi; omega
 rw[gt_take _ _ _ hi',gt_drop]at he
 exact⟨a+i,by omega,by omega,he.symm⟩
def Sd (K:α→Int)(l:List α)(a b:Nat):Prop:=∀ i j,a≤i→i < j→j < b→K (gt l i)≤K (gt l j)
theorem Sd.out {K:α→Int}{l l':List α}{a b c d:Nat}(h:Sd K l c d)(hr:Rg l l' a b)(ho:d≤a∨b≤c):Sd K l' c d:=fun i j h1 h2 h3=>by
 have e:∀ k,c≤k→k < d→gt l' k=gt l k:=fun k q1 q2=>by
  rcases ho with ho | ho
  ·exact hr.lo k (by omega)
  ·exact hr.hi k (by omega)
 rw[e i h1 (by omega),e j (by omega) h3]; exact h i j h1 h2 h3
theorem Sd.sub {K:α→Int}{l:List α}{a b a' b':Nat}(h:Sd K l a b)(h1:a≤a')(h2:b'≤b):Sd K l a' b':=fun i j q1 q2 q3=>h i j (by omega) q2 (by omega)
theorem Sd.one {K:α→Int}{l:List α}{a b:Nat}(h:b≤a+1):Sd K l a b:=fun i j q1 q2 q3=>by omega
theorem Sd.le {K:α→Int}{l:List α}{a b i j:Nat}(h:Sd K l a b)(h1:a≤i)(h2:i≤j)(h3:j < b):K (gt l i)≤K (gt l j):=by
 rcases Nat.lt_or_ge i j with hlt | hge
 ·exact h i j h1 hlt h3
 ·obtain rfl:i=j:=by omega
  exact Int.le_refl _
end
theorem half (i j:Nat)(h:i+j < 9223372036854775808):shrI .u64 ((i:Int)+(j:Int)) 1=(((i+j) / 2:Nat):Int):=by
 unfold shrI
 have e:(2:Int)^(min (1:Int).toNat (IntKind.bits .u64))=2:=by decide
 rw[e,show(i:Int)+(j:Int)=((i+j:Nat):Int)by omega]
 rw[Int.fdiv_eq_ediv_of_nonneg _ (by omega)]
 omega
theorem fitsN {n:Int}(h:0≤n)(h':n < 9223372036854775808):fits .i64 n=true:=fits_of (by omega) (by omega)
theorem fitsU {n:Int}(h:0≤n)(h':n < 9223372036854775808):fits .u64 n=true:=by
 rw[fits,decide_eq_true_eq]
 have e2:(2:Int)^64=18446744073709551616:=by decide
 simp only[IntKind.wrap,IntKind.bits,IntKind.signed,Bool.false_and,e2,Bool.false_eq_true,if_false]
 omega
end Go.Proofs.YtdacabdocbhkdaaGreat.D

set_option linter.unusedVariables false
set_option linter.unusedSimpArgs false
set_option linter.unusedSectionVars false
namespace Go.Proofs.YtdacabdocbhkdaaGreat.D
open Go Go.Proofs.YtdacabdocbhkdaaGreat.L
theorem goF_rel {σ ρ:Type}{step:σ→Option (σ⊕ρ)}(J:σ→ρ→Nat→Prop)(h:∀ s r n,J s r n→step s=some (.inr r)∨∃ s' n',step s=some (.inl s')∧J s' r n'∧n' < n):
  ∀ (m:Nat) (s:σ) (r:ρ) (n:Nat),J s r n→n < m→goF step m s=some r
 | 0,s,r,n,_,hm=>by omega
 | m+1,s,r,n,hJ,hm=>by
  rcases h s r n hJ with h1 | ⟨s',n',h1,h2,h3⟩
  ·simp only[goF,h1]
  ·simp only[goF,h1]; exact goF_rel J h m s' r n' h2 (by omega)
theorem while_rel {σ ρ:Type}{step:σ→Option (σ⊕ρ)}(J:σ→ρ→Nat→Prop){s:σ}{r:ρ}{n:Nat}(hJ:J s r n)(hn:n < 18446744073709551616)
  (h:∀ s r n,J s r n→step s=some (.inr r)∨∃ s' n',step s=some (.inl s')∧J s' r n'∧n' < n):whileF step s=some r:=goF_rel J h _ s r n hJ hn
section
variable {β T:Type} [Inhabited β] [Inhabited T] {v:β→T}
def MA (v:β→T)(d:Array β):List T:=d.toList.map v
theorem MA_len (d:Array β):(MA v d).length=d.size:=by simp[MA]
theorem MA_ix {d:Array β}{k:Nat}(h:k < d.size):ix (MA v d) (k:Int)=v d[k]!:=by
 simp[ix,MA,List.getD_eq_getElem?_getD,h]
theorem MA_inR {d:Array β}{k:Nat}(h:k < d.size):inR (k:Int) (MA v d).length=true:=inR_nat (by rwa [MA_len])
theorem MA_inRs {d:Array β}{k i:Nat}{x:β}(h:k < d.size):inR (k:Int) (MA v (d.setIfInBounds i x)).length=true:=MA_inR (by simpa using h)
theorem MA_set (d:Array β)(i:Nat)(x:β):List.set (MA v d) i (v x)=MA v (d.setIfInBounds i x):=by
 simp[MA,List.map_set]
theorem MA_swp (d:Array β)(i j:Nat):MA v ((d.setIfInBounds i d[j]!).setIfInBounds j d[i]!)=MA v (Sort.swp d i j):=rfl
theorem sib_size (d:Array β)(i:Nat)(x:β):(d.setIfInBounds i x).size=d.size:=by simp
theorem swp_size (d:Array β)(i j:Nat):(Sort.swp d i j).size=d.size:=by simp[Sort.swp]
end
theorem pn {k j:Nat}(h:j≤k):(k:Int)-(j:Int)=((k-j:Nat):Int):=by omega
theorem p1 {k:Nat}(h:1≤k):(k:Int)-1=((k-1:Nat):Int):=by omega
theorem a1 (k:Nat):(k:Int)+1=((k+1:Nat):Int):=by omega
theorem an (k j:Nat):(k:Int)+(j:Int)=((k+j:Nat):Int):=by omega
theorem m2 (k:Nat):2*(k:Int)=((2*k:Nat):Int):=by omega
theorem ltN (a b:Nat):decide ((a:Int) < (b:Int))=decide (a < b):=by simp
theorem leN (a b:Nat):decide ((a:Int)≤(b:Int))=decide (a≤b):=by simp
theorem dT {p:Prop}[Decidable p](h:p):decide p=true:=decide_eq_true h
theorem dF {p:Prop}[Decidable p](h:¬ p):decide p=false:=decide_eq_false h
theorem fitK {k:Nat}(h:k < 9223372036854775808):fits .i64 (k:Int)=true:=fitsN (by omega) (by omega)
theorem fitM {k j:Nat}(h:k < 9223372036854775808)(h':j < 9223372036854775808):fits .i64 ((k:Int)-(j:Int))=true:=fits_of (by omega) (by omega)
theorem fitM1 {k:Nat}(h:k < 9223372036854775808):fits .i64 ((k:Int)-1)=true:=fits_of (by omega) (by omega)
theorem fitA1 {k:Nat}(h:k < 9223372036854775807):fits .i64 ((k:Int)+1)=true:=fits_of (by omega) (by omega)
theorem while_relE {σ ρ:Type}{step:σ→Option (σ⊕ρ)}(J:σ→Nat→Prop)(R:ρ→Prop){s:σ}{n:Nat}(hJ:J s n)(hn:n < 18446744073709551616)
  (h:∀ s n,J s n→(∃ r,step s=some (.inr r)∧R r)∨∃ s' n',step s=some (.inl s')∧J s' n'∧n' < n):∃ r,whileF step s=some r∧R r:=by
 have key:∀ (m n:Nat) (s:σ),J s n→n < m→∃ r,goF step m s=some r∧R r:=by
  intro m
  induction m with
  | zero=>intro n s _ hm; omega
  | succ m ih=>
   intro n s hJ hm
   rcases h s n hJ with⟨r,h1,h2⟩ | ⟨s',n',h1,h2,h3⟩
   ·exact⟨r,by simp only[goF,h1],h2⟩
   ·obtain⟨r,g1,g2⟩:=ih n' s' h2 (by omega)
    exact⟨r,by simp only[goF,h1]; exact g1,g2⟩
 exact key _ n s hJ hn
theorem wrapU {n:Nat}(h:n < 18446744073709551616):IntKind.wrap .u64 (n:Int)=(n:Int):=by
 have e2:(2:Int)^64=18446744073709551616:=by decide
 simp only[IntKind.wrap,IntKind.bits,IntKind.signed,Bool.false_and,e2,Bool.false_eq_true,if_false]
 omega
theorem ofI (n:Nat):BitVec.ofInt 64 (n:Int)=BitVec.ofNat 64 n:=BitVec.ofInt_natCast 64 n
theorem bandN {a b:Nat}(h:a < 18446744073709551616)(k:b < 18446744073709551616):band .u64 (a:Int) (b:Int)=((a &&& b:Nat):Int):=by
 have h1:a &&& b≤b:=Nat.and_le_right
 show IntKind.wrap .u64 (((BitVec.ofInt 64 (a:Int) &&& BitVec.ofInt 64 (b:Int)).toNat:Nat):Int)=_
 rw[ofI,ofI,BitVec.toNat_and,BitVec.toNat_ofNat,BitVec.toNat_ofNat,Nat.mod_eq_of_lt h,Nat.mod_eq_of_lt k,wrapU (by omega)]
theorem bxorU (a b:UInt64):bxor .u64 (a.toNat:Int) (b.toNat:Int)=((a ^^^ b).toNat:Int):=by
 have h1:=a.toNat_lt
 have h2:=b.toNat_lt
 have h3:=(a ^^^ b).toNat_lt
 have e:(BitVec.ofNat 64 a.toNat ^^^ BitVec.ofNat 64 b.toNat).toNat=(a ^^^ b).toNat:=by
  rw[BitVec.toNat_xor,BitVec.toNat_ofNat,BitVec.toNat_ofNat,Nat.mod_eq_of_lt h1,Nat.mod_eq_of_lt h2,UInt64.toNat_xor]
 show IntKind.wrap .u64 (((BitVec.ofInt 64 (a.toNat:Int) ^^^ BitVec.ofInt 64 (b.toNat:Int)).toNat:Nat):Int)=_
 rw[ofI,ofI,e,wrapU h3]
theorem shlU (a:UInt64)(k:Nat)(hk:k < 64):shlI .u64 (a.toNat:Int) (k:Int)=((a <<< UInt64.ofNat k).toNat:Int):=by
 have e2:(2:Int)^64=18446744073709551616:=by decide
 have hm:min (k:Int).toNat (IntKind.bits .u64)=k:=by show min k 64=k; omega
 have ek:(UInt64.ofNat k).toNat=k:=by rw[UInt64.toNat_ofNat']; omega
 unfold shlI
 rw[hm,show((a.toNat:Int)*2^k)=((a.toNat*2^k:Nat):Int)by simp]
 simp only[IntKind.wrap,IntKind.bits,IntKind.signed,Bool.false_and,e2,Bool.false_eq_true,if_false]
 rw[UInt64.toNat_shiftLeft,ek,Nat.mod_eq_of_lt hk,Nat.shiftLeft_eq]
 omega
theorem shrU (a:UInt64)(k:Nat)(hk:k < 64):shrI .u64 (a.toNat:Int) (k:Int)=((a >>> UInt64.ofNat k).toNat:Int):=by
 have hm:min (k:Int).toNat (IntKind.bits .u64)=k:=by show min k 64=k; omega
 have ek:(UInt64.ofNat k).toNat=k:=by rw[UInt64.toNat_ofNat']; omega
 unfold shrI
 rw[hm,Int.fdiv_eq_ediv_of_nonneg _ (Int.pow_nonneg (by omega)),UInt64.toNat_shiftRight,ek,Nat.mod_eq_of_lt hk,Nat.shiftRight_eq_div_pow]
 simp
theorem tdN (a:Nat){b:Nat}:Int.tdiv (a:Int) (b:Int)=((a / b:Nat):Int):=by
 rw[Int.tdiv_eq_ediv_of_nonneg (by omega)]; simp
end Go.Proofs.YtdacabdocbhkdaaGreat.D
