import Derived.Test.YtdkaijofmigmbaaGreatB1z
set_option linter.unusedVariables false
set_option linter.unusedSectionVars false
set_option linter.unusedSimpArgs false
namespace Go.Proofs.YtdkaijofmigmbaaGreat.D
open Go Go.Proofs.YtdkaijofmigmbaaGreat.L
variable [YP]
def IR (s':Store)(T':Nat)(t:Ty):Option (Nat×Nat×Nat)→List t.den→Prop
 | none,l=>l=[]
 | some (b,c,n),l=>n=l.length∧n≤c∧∃ ys,s' b=some (.row T' t.w c ys)∧kP t l ys
structure RowsR (s':Store) (T T':Nat) (t:Ty) (l:List (List t.den)) (b c:Nat) (f:Nat→Option (Nat×Nat×Nat)):Prop where
 cap:l.length≤c
 ex:∃ xs,s' b=some (.row T 1 c xs)∧xs.length=l.length∧∀ i,i < l.length→xs.getD i []=[ilv (f i)]
 ir:∀ i,i < l.length→IR s' T' t (f i) (l.getD i [])
 ne:∀ i p,i < l.length→f i=some p→p.1≠b
 dj:∀ i j p q,i < l.length→j < l.length→f i=some p→f j=some q→p.1=q.1→i=j
structure PoolR (s':Store) (t:Ty) (es:List (Int×t.den)) (g:List (Int×Nat)):Prop where
 keys:es.map (·.1)=g.map (·.1)
 nd:(g.map (·.1)).Nodup
 ex:∀ k x,aZ g k=some x→∃ as,s' x=some (.box as)∧CR t ((aZ es k).getD t.zero) as
 dj:∀ k1 k2 x,aZ g k1=some x→aZ g k2=some x→k1=k2
structure RowsH (s':Store) (T T':Nat) (t:Ty) (l:List (List t.den)) (i0 b c:Nat) (f:Nat→Option (Nat×Nat×Nat)):Prop where
 cap:l.length≤c
 ex:∃ xs,s' b=some (.row T 1 c xs)∧xs.length=l.length∧(∀ i,i < l.length→i≠i0→xs.getD i []=[ilv (f i)])∧∃ a,xs.getD i0 []=[a]
 ir:∀ i,i < l.length→IR s' T' t (f i) (l.getD i [])
 ne:∀ i p,i < l.length→f i=some p→p.1≠b
 dj:∀ i j p q,i < l.length→j < l.length→f i=some p→f j=some q→p.1=q.1→i=j
 lt:i0 < l.length
 at0:f i0=none
def fl (g:List (Int×Nat)):List (List Int×AV):=g.map fun q=>([q.1],.ptr q.2 0)
def ObR (π:Pi)(s':Store)(b:Nat):DObj→Prop
 | .box ds=>∃ b' c n as,π b=some (.real b' c n)∧s' b'=some (.box as)∧RelVs π ds as
 | .row T t l=>(π b=some .virt∧l=[])∨∃ b' c xs,π b=some (.real b' c l.length)∧l.length≤c∧s' b'=some (.row T t.w c xs)∧kP t l xs
 | .imap kn ag t es pd=>∃ b' c n es',π b=some (.real b' c n)∧na ag t es es'∧(match pd with
  | none=>s' b'=some (.imap kn es' none)
  | some (tk,key,v0)=>∃ y v0',π tk=some (.tok y)∧MR ag t v0 v0'∧s' b'=some (.imap kn (mput es' key v0') (some (y,aT es' key))))
 | .rows T T' t l=>(π b=some .virt∧l=[])∨∃ b' c f,π b=some (.rls b' c l.length f)∧RowsR s' T T' t l b' c f
 | .pool t es=>∃ g,π b=some (.pol g)∧PoolR s' t es g
 | .pmap p=>∃ b' c n g,π b=some (.real b' c n)∧π p=some (.pol g)∧s' b'=some (.imap 0 (fl g) none)
 | .gone p=>∃ b' g,π b=some (.mlk b')∧π p=some (.pol g)
 | .raw k=>∃ b' c n,π b=some (.real b' c n)∧s' b'=some (.raw (YP.ob k))
 | .rowh T T' t l i=>∃ b' c f,π b=some (.rls b' c l.length f)∧RowsH s' T T' t l i b' c f
 | .hdl p=>∃ b' c n f,π b=some (.hnd b' c n)∧π p=some (.rls b' c n f)
structure RelS (π:Pi) (Fr:Store) (S:DSt) (s':Store):Prop where
 obj:∀ b o,S.get b=some o→ObR π s' b o
 inj':∀ b1 b2 o1 o2 l1 l2 x,S.get b1=some o1→S.get b2=some o2→π b1=some l1→π b2=some l2→l1.has x→l2.has x→b1=b2
 frm:∀ b' x,Fr b'=some x→s' b'=some x
 out':∀ b o l x,S.get b=some o→π b=some l→l.has x→Fr x=none
 nx:∀ b,S.nx≤b→π b=none
theorem RelS.inj {π:Pi}{Fr:Store}{S:DSt}{s':Store}(hS:RelS π Fr S s')(b1 b2:Nat)(o1 o2:DObj)(b' c1 n1 c2 n2:Nat)(h1:S.get b1=some o1)(h2:S.get b2=some o2)(p1:π b1=some (.real b' c1 n1))(p2:π b2=some (.real b' c2 n2)):b1=b2:=
 hS.inj' _ _ _ _ _ _ b' h1 h2 p1 p2 rfl rfl
theorem RelS.out {π:Pi}{Fr:Store}{S:DSt}{s':Store}(hS:RelS π Fr S s')(b:Nat)(o:DObj)(b' c n:Nat)(h:S.get b=some o)(p:π b=some (.real b' c n)):Fr b'=none:=
 hS.out' _ _ _ b' h p rfl
def RelE (π:Pi)(e:DEnv)(e':Env):Prop:=∀ t d,fnd e t=some d→RelV π d (e' t)
structure HR (π:Pi) (S:DSt) (RD:List Nat) (R:Nat→Prop):Prop where
 live:∀ b,RD.any (Nat.beq b)=true→∃ o,S.get b=some o∧∃ l,π b=some l
 to:∀ b b' c n,RD.any (Nat.beq b)=true→π b=some (.real b' c n)→R b'
 of:∀ b',R b'→∃ b l,RD.any (Nat.beq b)=true∧π b=some l∧l.has b'
theorem frOk_R {π:Pi}{S:DSt}{RD:List Nat}{R:Nat→Prop}(h:HR π S RD R){fr:Bool}{b b' c n:Nat}(hf:oc fr RD b=true)(hp:π b=some (.real b' c n)):fr=true→R b':=by
 intro hfr; subst hfr; exact h.to b b' c n hf hp
theorem cI {π:Pi}{Fr:Store}{S:DSt}{s':Store}(hS:RelS π Fr S s'){RD:List Nat}{R:Nat→Prop}(h:HR π S RD R){b b' c n:Nat}{o:DObj}(hb:S.get b=some o)(hn:aC RD b=true)(hp:π b=some (.real b' c n)):¬ R b':=fun hR=>by
 obtain⟨b2,l2,h2,hp2,hh⟩:=h.of b' hR;obtain⟨o2,ho2,_⟩:=h.live b2 h2;have:=hS.inj' b b2 o o2 _ _ b' hb ho2 hp hp2 rfl hh;subst this
 simp[aC,h2]at hn
theorem ji {π:Pi}{Fr:Store}{S:DSt}{s':Store}(hS:RelS π Fr S s'){RD:List Nat}{R:Nat→Prop}(h:HR π S RD R){b x:Nat}{l:Loc}{o:DObj}(hb:S.get b=some o)(hn:aC RD b=true)(hp:π b=some l)(hx:l.has x):¬ R x:=fun hR=>by
 obtain⟨b2,l2,h2,hp2,hh⟩:=h.of x hR;obtain⟨o2,ho2,_⟩:=h.live b2 h2;have:=hS.inj' b b2 o o2 _ _ x hb ho2 hp hp2 hx hh;subst this
 simp[aC,h2]at hn
section
variable {π:Pi} {Fr:Store} {S:DSt} {s':Store} {RD:List Nat} {R:Nat→Prop} {ρ:Opd→DV} {ρ':Opd→AV}
theorem aD {d:DV}{k:IntKind}{n:Int}{a:AV}(h:dM d=some (k,n))(r:RelV π d a):a = .int k n:=by
 unfold dM at h;split at h
 ·cases h; simp only[RelV,CR]at r; simpa using r
 ·cases h
theorem cN {d:DV}{b:Bool}{a:AV}(h:mC d=some b)(r:RelV π d a):a = .bool b:=by
 unfold mC at h;split at h
 ·cases h; simp only[RelV,CR]at r; simpa using r
 ·cases h
theorem gA {d:DV}{b:ByteArray}{a:AV}(h:qB d=some b)(r:RelV π d a):a = .str b:=by
 unfold qB at h;split at h
 ·cases h; simp only[RelV,CR]at r; simpa using r
 ·cases h
theorem aG (k:IntKind)(n:Int):RelV π (cC k n) (.int k n):=by simp only[cC,RelV,CR]
theorem aE (b:Bool):RelV π (ca b) (.bool b):=by simp only[ca,RelV,CR]
theorem pn (b:ByteArray):RelV π (ES b) (.str b):=by simp only[ES,RelV,CR]
theorem lg {k k':IntKind}(h:kM k k'=true):k=k':=by simpa [kM]using h
theorem fits_okk {k:IntKind}{n:Int}(h:au k n=true):okk k n:=by simpa [au,okk]using h
theorem lX (a:AV):RelV π (iG a) a:=by
  unfold iG;split
  all_goals first
    | (simp only[cC,ca,ES,RelV,CR]; done)
    | (rename_i f
       cases hne:Nat.beq f YB with
       | true=>simp only[cond_true,RelV]
       | false=>simp only[cond_false,RelV]; exact⟨[],(ew hne).symm,RelVs_nil⟩)
theorem fR:∀ (l:List AV),RelVs π (l.map iG) l
 | []=>RelVs_nil
 | a::l=>RelVs_cons (lX a) (fR l)
theorem qF (a:AV):RelV π (qC a) a:=by
 unfold qC;split
 ·rename_i cs; simp only[RelV]; exact⟨cs,rfl,fR cs⟩
 ·exact lX a
theorem dd {e:DEnv}{e':Env}(h:RelE π e e')(x:Opd):RelV π (bX e x) (opd e' x):=by
 cases x with
 | t n=>
  simp only[bX,opd,DEnv.get];cases hf:fnd e n with
  | none=>simp only[RelV]
  | some d=>exact h n d hf
 | c a=>exact qF a
theorem ah {a b:List Bool}(h:(a++b).all id=true):a.all id=true∧b.all id=true:=by
 simpa [List.all_append,Bool.and_eq_true]using h
theorem rL {as:List AV}{o:Nat}{a:AV}{r:List AV}(h:as.drop o=a::r):at_ as o=a∧o+1≤as.length:=by
 have hlt:o < as.length:=by
  rcases Nat.lt_or_ge o as.length with h' | h'
  ·exact h'
  ·rw[List.drop_eq_nil_of_le h']at h; cases h
 rw[List.drop_eq_getElem_cons hlt]at h;cases h;exact⟨by simp[at_,List.getD_eq_getElem?_getD,hlt],hlt⟩
theorem qG {ex:Bool}{op:BinOp}{a b d:DV}{ob:List Bool}{a' b':AV}(h:DK ex op a b=some (d,ob))(ho:ob.all id=true)(ha:RelV π a a')(hb:RelV π b b'):
    ∃ v p,RelV π d v∧p∧∀ K:AV→Prop→Prop,K v p→uD ex op a' b' K:=by
  unfold DK at h;split at h
  · rename_i k x k' y h1 h2
    obtain rfl:=aD h1 ha;obtain rfl:=aD h2 hb;have ar:∀ n,jL ex k n=(d,ob)→∃ v p,RelV π d v∧p∧∀ K:AV→Prop→Prop,K v p→oM ex k n K:=fun n hn=>by
      cases ex with
      | true=>
        simp only[jL,Prod.mk.injEq]at hn;obtain⟨rfl,rfl⟩:=hn;exact⟨_,_,aG _ _,fits_okk (by simpa using ho),fun K hk=>hk⟩
      | false=>
        simp only[jL,Prod.mk.injEq]at hn;obtain⟨rfl,rfl⟩:=hn;exact⟨_,_,aG _ _,trivial,fun K hk=>hk⟩
    cases op <;> simp only[zB]at h <;> first
      | (cases h; done)
      | (simp only[Option.some.injEq,Prod.mk.injEq]at h
         obtain⟨rfl,rfl⟩:=h;exact⟨_,_,aG _ _,by simpa using ho,fun K hk=>hk⟩)
      | (cases hk:kM k k' with
         | false=>rw[hk]at h; cases h
         | true=>
           rw[hk]at h;obtain rfl:=lg hk;simp only[cond_true,Option.some.injEq,Prod.mk.injEq]at h
           first
             | (obtain⟨v,p,g1,g2,g3⟩:=ar _ h; exact⟨v,p,g1,g2,fun K hk=>⟨rfl,g3 K hk⟩⟩)
             | (obtain⟨rfl,rfl⟩:=h
                refine⟨_,_,aG _ _,?_,fun K hk=>⟨rfl,hk⟩⟩
                first | trivial | (simp only[List.all_cons,List.all_nil,id,Bool.and_true,Bool.and_eq_true,decide_eq_true_eq]at ho; first | exact⟨ho.1,fits_okk ho.2⟩ | exact ho))
             | (obtain⟨rfl,rfl⟩:=h
                exact⟨_,_,aE _,trivial,fun K hk=>⟨rfl,hk⟩⟩)
             | cases h)
      | skip
  · split at h
    · rename_i x y h1 h2
      obtain rfl:=gA h1 ha;obtain rfl:=gA h2 hb;cases op <;> simp only[zC]at h <;> first
        | (cases h; done)
        | (simp only[Option.some.injEq,Prod.mk.injEq]at h
           obtain⟨rfl,rfl⟩:=h
           first
             | exact⟨_,_,aE _,trivial,fun K hk=>hk⟩
             | exact⟨_,_,pn _,by simpa using ho,fun K hk=>hk⟩)
    · cases h
theorem nc:∀ {as bs:List DV} {acc b:Bool} {as' bs':List AV},ET as bs acc=some b→RelVs π as as'→RelVs π bs bs'→∀ K:Bool→Prop,K b→dX as' bs' acc K
 | [],[],acc,b,as',bs',h,ha,hb,K,hk=>by
  simp only[RelVs]at ha hb; subst ha; subst hb; cases h; exact hk
 | a::l,c::l',acc,b,as',bs',h,ha,hb,K,hk=>by
  simp only[RelVs]at ha hb;obtain⟨a1,r1,rfl,g1,ha⟩:=ha;obtain⟨a2,r2,rfl,g2,hb⟩:=hb;simp only[ET]at h;split at h
  ·rename_i x y h1 h2;obtain rfl:=aD h1 g1;obtain rfl:=aD h2 g2;exact⟨rfl,rfl,nc h ha hb K hk⟩
  ·cases h
 | [],_::_,acc,b,as',bs',h,ha,hb,K,hk=>by simp[ET]at h
 | _::_,[],acc,b,as',bs',h,ha,hb,K,hk=>by simp[ET]at h
theorem ip (hS:RelS π Fr S s')(hH:HR π S RD R){fr:Bool}{d:DV}{cs:List DV}{a:AV}(h:lb S RD fr d=some cs)(r:RelV π d a):
  (∃ as,a = .elm as∧RelVs π cs as)∨(∃ b' o as,a = .ptr b' o∧s' b'=some (.box as)∧RelVs π cs (as.drop o)∧o≤as.length∧(fr=true→R b')) ∨
  (∃ b' k i j T c xs,a = .rptr b' k i j∧s' b'=some (.row T k c xs)∧i < xs.length∧j≤k∧(xs.getD i []).length=k∧RelVs π cs ((xs.getD i []).drop j)∧(fr=true→R b')):=by
 unfold lb at h;split at h
 ·cases h; simp only[RelV]at r; obtain⟨as,rfl,r⟩:=r; exact .inl ⟨as,rfl,r⟩
 ·rename_i b o;split at h
  ·rename_i ds hb;cases hc:(oc fr RD b&&dI o ds.length)with
   | false=>rw[hc]at h; cases h
   | true=>
    rw[hc]at h; cases h;simp only[Bool.and_eq_true,dI,Nat.ble_eq]at hc;simp only[RelV]at r;obtain⟨b',c,n,hp,rfl⟩:=r;obtain⟨b2,c2,n2,as,hp2,hs,hr⟩:=hS.obj _ _ hb;rw[hp]at hp2; cases hp2;exact .inr (.inl ⟨b',o,as,rfl,hs,cg o hr,by rw[aB hr]; exact hc.2,frOk_R hH hc.1 hp⟩)
  ·cases h
 ·rename_i b k i j;split at h
  ·rename_i T t l hb;cases hc:(oc fr RD b&&Nat.beq t.w k&&dI j k)with
   | false=>rw[hc]at h; cases h
   | true=>
    rw[hc]at h; cases h;simp only[Bool.and_eq_true,dI,Nat.ble_eq,aj]at hc;obtain⟨⟨h1,rfl⟩,h3⟩:=hc;simp only[RelV]at r;obtain⟨b',c,n,hp,hi,rfl⟩:=r;rcases hS.obj _ _ hb with⟨g1,_⟩ | ⟨b2,c2,xs,hp2,hcap,hs,hx⟩
    ·rw[hp]at g1; cases g1
    ·rw[hp]at hp2; cases hp2;have hi':i < xs.length:=by rw[hx.1]; exact hi
     exact .inr (.inr ⟨b',t.w,i,j,T,c,xs,rfl,hs,hi',h3,dt (hx.2 i hi),cg j (aR (hx.2 i hi)),frOk_R hH h1 hp⟩)
  ·cases h
 ·rename_i b i;split at h
  ·rename_i T T' t l hb;cases fr with
   | true=>cases h
   | false=>
    cases h;simp only[RelV]at r;obtain⟨b',c,n,f,hp,hi,rfl⟩:=r;rcases hS.obj _ _ hb with⟨g1,_⟩ | ⟨b2,c2,f2,hp2,hR⟩
    ·rw[hp]at g1; cases g1
    ·rw[hp]at hp2; cases hp2;obtain⟨xs,hs,hl,hx⟩:=hR.ex;refine .inr (.inr ⟨b',1,i,0,T,c,xs,rfl,hs,by rw[hl]; exact hi,by omega,by rw[hx i hi]; rfl,?_,fun h=>by cases h⟩);rw[hx i hi];exact aA (by simp only[RelV]; exact⟨b',c,_,f,hp,hi,rfl⟩)
  ·cases h
 ·rename_i b i;split at h
  ·rename_i p hb;split at h
   ·rename_i T T' t l hpo;cases fr with
    | true=>cases h
    | false=>
     cases h;simp only[RelV]at r;obtain⟨b',c,n,hpb,hi,rfl⟩:=r;obtain⟨b2,c2,n2,f,q1,q2⟩:=hS.obj _ _ hb;rw[hpb]at q1; cases q1;rcases hS.obj _ _ hpo with⟨g1,_⟩ | ⟨b2,c2,f2,hp2,hR⟩
     ·rw[q2]at g1; cases g1
     ·rw[q2]at hp2; cases hp2;obtain⟨xs,hs,hl,hx⟩:=hR.ex;refine .inr (.inr ⟨b',1,i,0,T,c,xs,rfl,hs,by rw[hl]; exact hi,by omega,by rw[hx i hi]; rfl,?_,fun h=>by cases h⟩);rw[hx i hi];exact aA (by simp only[RelV]; exact⟨b',c,_,f,q2,hi,rfl⟩)
   ·cases h
  ·cases h
 ·rename_i b k i j o;split at h
  ·rename_i T T' t l hb;cases fr with
   | true=>cases h
   | false=>
    cases hc:(Nat.beq t.w k&&dI o k)with
    | false=>simp only[Bool.not_false,Bool.true_and,hc]at h; cases h
    | true=>
     simp only[Bool.not_false,Bool.true_and,hc]at h; cases h;simp only[Bool.and_eq_true,dI,Nat.ble_eq,aj]at hc;obtain⟨rfl,h3⟩:=hc;simp only[RelV]at r;obtain⟨b',c,n,f,b2,c2,n2,hp,hi,hf,hj,rfl⟩:=r;rcases hS.obj _ _ hb with⟨g1,_⟩ | ⟨b3,c3,f3,hp3,hR⟩
     ·rw[hp]at g1; cases g1
     ·rw[hp]at hp3; cases hp3;have hI:=hR.ir i hi;rw[hf]at hI;obtain⟨rfl,hc2,ys,hs,hy⟩:=hI;refine .inr (.inr ⟨b2,t.w,j,o,T',c2,ys,rfl,hs,by rw[hy.1]; exact hj,h3,dt (hy.2 j hj),cg o (aR (hy.2 j hj)),fun h=>by cases h⟩)
  ·cases h
 ·rename_i b key o;split at h
  ·rename_i t es hb;cases fr with
   | true=>cases h
   | false=>
    cases hc:dI o t.w with
    | false=>simp only[Bool.not_false,Bool.true_and,hc]at h; cases h
    | true=>
     simp only[Bool.not_false,Bool.true_and,hc]at h; cases h;simp only[dI,Nat.ble_eq]at hc;simp only[RelV]at r;obtain⟨g,x,hp,hg,rfl⟩:=r;obtain⟨g2,hp2,hP⟩:=hS.obj _ _ hb;rw[hp]at hp2; cases hp2;obtain⟨as,hs,hr⟩:=hP.ex _ _ hg;exact .inr (.inl ⟨x,o,as,rfl,hs,cg o (aR hr),by rw[dt hr]; exact hc,fun h=>by cases h⟩)
  ·cases h
 ·cases h
theorem cQ (hρ:∀ x,RelV π (ρ x) (ρ' x)):∀ {xs:List Opd},(gy ρ xs).all id=true→RelVs π (lT ρ xs) (vals ρ' xs)∧ko ρ' xs
 | [],_=>⟨RelVs_nil,trivial⟩
 | x::xs,h=>by
  simp only[gy]at h;obtain⟨h1,h2⟩:=ah h;obtain⟨g1,g2⟩:=cQ hρ h2;exact⟨RelVs_cons (bc (hρ x) h1) g1,bj (hρ x) h1,g2⟩
theorem lY (hρ:∀ x,RelV π (ρ x) (ρ' x)):∀ {ps:List (Nat×Nat×Opd)} {z cs:List DV} {ob:List Bool} {z':List AV},og ρ z ps=some (cs,ob)→ob.all id=true→RelVs π z z' →
  RelVs π cs (mL z' (iW ρ' ps))∧CN ρ' ps
 | [],z,cs,ob,z',h,ho,hz=>by cases h; exact⟨hz,trivial⟩
 | (o,n,x)::l,z,cs,ob,z',h,ho,hz=>by
  simp only[og]at h;cases hc:(Nat.beq (aY (ρ x).val).length n&&(aY (ρ x).val).all DV.one)with
  | false=>rw[hc]at h; cases h
  | true=>
   rw[hc]at h;simp only[cond_true]at h;split at h
   ·rename_i z1 ob1 h1;cases h;simp only[Bool.and_eq_true,aj]at hc;obtain⟨o1,o2⟩:=ah ho;obtain⟨g1,g2⟩:=bu (bc (hρ x) o1) hc.2;obtain⟨k1,k2⟩:=lY hρ h1 o2 (cH o hz g1);exact⟨k1,bj (hρ x) o1,by rw[aB g1]; exact hc.1,g2,k2⟩
   ·cases h
theorem nf:∀ {ds:List DV} {k:List Int} {as:List AV},rD ds=some k→RelVs π ds as→fF as=some k
 | [],k,as,h,r=>by simp only[RelVs]at r; subst r; cases h; rfl
 | d::ds,k,as,h,r=>by
  simp only[RelVs]at r;obtain⟨a,as',rfl,g,r⟩:=r;simp only[rD]at h;split at h
  ·rename_i n hn;split at h
   ·rename_i r' hr;cases h;obtain rfl:=aD hn g;simp only[fF,nf hr r]
   ·cases h
  ·cases h
theorem gB {kn:Nat}{d:DV}{k:List Int}{a:AV}(h:pe kn d=some k)(r:RelV π d a)(K:List Int→Prop)(hk:K k):L.keyOf kn a K:=by
 cases kn with
 | zero=>
  simp only[pe]at h;split at h
  ·rename_i n hn; cases h; obtain rfl:=aD hn r; exact hk
  ·cases h
 | succ m=>
  simp only[pe]at h;split at h
  ·rename_i cs;split at h
   ·rename_i l hl;cases hc:Nat.beq l.length (m+1)with
    | false=>rw[hc]at h; cases h
    | true=>
     rw[hc]at h; cases h;simp only[RelV]at r;obtain⟨as,rfl,r⟩:=r;simp only[L.keyOf,nf hl r];exact⟨aj.1 hc,hk⟩
   ·cases h
  ·cases h
theorem dz (hρ:∀ x,RelV π (ρ x) (ρ' x)){d:Int}{x:Option Opd}{n:Int}{ob:List Bool}(h:uk ρ d x=some (n,ob))(ho:ob.all id=true):∃ p:Prop,p∧∀ K:Int→Prop→Prop,K n p→lo_ ρ' d x K:=by
 cases x with
 | none=>cases h; exact⟨True,trivial,fun K hk=>hk⟩
 | some x=>
  simp only[uk]at h;split at h
  ·rename_i k m hm;cases h;have:=aD hm (bc (hρ x) ho);exact⟨_,bj (hρ x) ho,fun K hk=>by simp only[lo_,this]; exact hk⟩
  ·cases h
end
end Go.Proofs.YtdkaijofmigmbaaGreat.D

set_option linter.unusedVariables false
set_option linter.unusedSectionVars false
set_option linter.unusedSimpArgs false
namespace Go.Proofs.YtdkaijofmigmbaaGreat.D
open Go Go.Proofs.YtdkaijofmigmbaaGreat.L
variable [YP]
section
variable {π:Pi} {Fr:Store} {S:DSt} {s':Store} {RD:List Nat} {R:Nat→Prop} {ρ:Opd→DV} {ρ':Opd→AV}
theorem mD {t:Ty}{l:List t.den}{lo m i:Nat}(h:i < min m (l.length-lo)):at0 t ((l.drop lo).take m) i=at0 t l (lo+i):=by
 have h1:i < m:=by omega
 simp[at0,List.getD_eq_getElem?_getD,List.getElem?_take,h1,List.getElem?_drop]
theorem jj (t:Ty):kP t [] []:=⟨rfl,fun i hi=>by simp at hi⟩
theorem dR {t:Ty}{l m:List t.den}{xs ys:List (List AV)}(h:kP t l xs)(k:kP t m ys):kP t (l++m) (xs++ys):=by
 refine⟨by simp[h.1,k.1],fun i hi=>?_⟩;rcases Nat.lt_or_ge i l.length with hl | hl
 ·have h':i < xs.length:=by rw[h.1]; exact hl
  have:=h.2 i hl
  simpa [at0,List.getD_eq_getElem?_getD,List.getElem?_append,hl,h']using this
 ·have hi':i-l.length < m.length:=by simp at hi; omega
  have:=k.2 _ hi';have e1:¬ i < l.length:=by omega
  have e2:¬ i < xs.length:=by rw[h.1]; omega
  rw[at0]at this ⊢
  simpa [List.getD_eq_getElem?_getD,List.getElem?_append,e1,e2,h.1]using this
theorem iK {t:Ty}:∀ {ds:List DV} {l:List t.den} {as:List AV},vh t ds=some l→RelVs π ds as→kP t l (as.map cellsOf)∧eM AV.one t.w as∧as.length=l.length
 | [],l,as,h,r=>by
  simp only[RelVs]at r; subst r; cases h; exact⟨jj t,trivial,rfl⟩
 | d::ds,l,as,h,r=>by
  simp only[RelVs]at r;obtain⟨a,as',rfl,g,r⟩:=r;simp only[vh]at h;cases hc:(aY d).all DV.one with
  | false=>rw[hc]at h; cases h
  | true=>
   rw[hc]at h;simp only[cond_true]at h;split at h
   ·rename_i x r' hx hr;cases h;obtain⟨k1,k2,k3⟩:=iK hr r;obtain⟨g1,g2⟩:=bu g hc;have hcr:=bk hx g1;refine⟨?_,⟨dt hcr,g2,k2⟩,by simp[k3]⟩;exact dR (l:=[x]) (xs:=[cellsOf a]) ⟨rfl,fun i hi=>by obtain rfl:i=0:=(by simpa using hi); exact hcr⟩ k1
   ·cases h
theorem ng:∀ {t:Ty} {l:List t.den} {as:List AV},kP t l (as.map cellsOf)→eM AV.one t.w as→eM AV.frz t.w as
 | t,l,[],_,_=>trivial
 | t,l,a::as,h,k=>by
  cases l with
  | nil=>have:=h.1; simp at this
  | cons x l=>
   have h0:=h.2 0 (by simp);have h1:kP t l (as.map cellsOf):=⟨by have:=h.1; simpa using this,fun i hi=>by have:=h.2 (i+1) (by simpa using hi); simpa [at0]using this⟩
   refine⟨k.1,?_,ng h1 k.2.2⟩;rw[List.all_eq_true];exact fun c hc=>bF h0 c (by simpa using hc)
theorem iL {mx:Bool}{k:IntKind}:∀ {l:List DV} {a n:Int} {as:List AV},xg mx k a l=some n→RelVs π l as→∀ {K:Int→Prop},K n→sY mx k a as K
 | [],a,n,as,h,r,K,hK=>by simp only[RelVs]at r; subst r; cases h; exact hK
 | d::l,a,n,as,h,r,K,hK=>by
  simp only[RelVs]at r;obtain⟨b,bs,rfl,r1,r2⟩:=r;simp only[xg]at h;split at h
  ·rename_i k' c hc;cases hk:kM k k' with
   | false=>rw[hk]at h; cases h
   | true=>
    rw[hk]at h;obtain rfl:=lg hk;obtain rfl:=aD hc r1;refine⟨rfl,?_⟩;simp only[cond_true]at h;cases mx
    ·exact iL (mx:=false) h r2 hK
    ·exact iL (mx:=true) h r2 hK
  ·cases h
theorem lZ (hS:RelS π Fr S s'){b m b' c n:Nat}(h:hlen S b=some m)(hp:π b=some (.hnd b' c n)):m=n:=by
 unfold hlen at h;split at h
 ·rename_i p hb;obtain⟨b1,c1,n1,f,q1,q2⟩:=hS.obj _ _ hb;rw[hp]at q1; cases q1;split at h
  ·rename_i hpo;cases h;rcases hS.obj _ _ hpo with⟨g1,_⟩ | ⟨b2,c2,f2,hp2,hR⟩
   ·rw[q2]at g1; cases g1
   ·rw[hp2]at q2; cases q2; rfl
  ·rename_i hpo;cases h;obtain⟨b2,c2,f2,hp2,hR⟩:=hS.obj _ _ hpo;rw[hp2]at q2; cases q2; rfl
  ·cases h
 ·cases h
theorem tx (hS:RelS π Fr S s')(hH:HR π S RD R)(hρ:∀ x,RelV π (ρ x) (ρ' x))(hu:(ρ' (.c .undef)).df){o:AOp}{ann:Option (Bool×Ty)}{d:DV}{ob:List Bool}(h:Kn RD S ρ o ann=some (d,ob))(ho:ob.all id=true):
  ∃ a p,RelV π d a∧p∧∀ K:AV→Prop→Prop,K a p→nop [] R o ρ' s' K:=by
 have V:∀ x,(ρ x).df.all id=true→RelV π (ρ x).val (ρ' x).val:=fun x hx=>bc (hρ x) hx;have F:∀ x,(ρ x).df.all id=true→(ρ' x).df:=fun x hx=>bj (hρ x) hx;unfold Kn at h;split at h
 ·
  cases h;exact⟨(ρ' (.c .undef)).val,(ρ' (.c .undef)).df,by simp only[RelV],hu,fun K hk=>hk⟩
 ·
  rename_i x _;cases h;exact⟨_,_,V x ho,F x ho,fun K hk=>hk⟩
 ·
  rename_i ex op x y;split at h
  ·rename_i d' ob' hb;cases h;obtain⟨o1,o2⟩:=ah ho;obtain⟨o2,o3⟩:=ah o2;obtain⟨v,p,g1,g2,g3⟩:=qG hb o3 (V x o1) (V y o2);exact⟨v,_,g1,(And.intro (F x o1) (And.intro (F y o2) (g2))),fun K hk=>g3 _ hk⟩
  ·cases h
 ·
  rename_i ne n x y;split at h
  ·rename_i cs ds h1 h2;cases hc:Nat.beq cs.length n with
   | false=>rw[hc]at h; cases h
   | true=>
    rw[hc]at h;simp only[cond_true]at h;split at h
    ·rename_i b hb;cases h;obtain⟨o1,o2⟩:=ah ho;have v1:=V x o1; rw[h1]at v1;have v2:=V y o2; rw[h2]at v2;simp only[RelV]at v1 v2;obtain⟨as,e1,v1⟩:=v1;obtain⟨bs,e2,v2⟩:=v2;refine⟨.bool (if ne then !b else b),_,?_,(And.intro (F x o1) (F y o2)),fun K hk=>?_⟩
     ·cases ne <;> exact aE _
     ·simp only[nop,e1,e2];exact⟨by rw[aB v1]; exact aj.1 hc,nc hb v1 v2 _ hk⟩
    ·cases h
  ·cases h
 ·
  rename_i x;split at h
  ·rename_i b hb;cases h;have e:=cN hb (V x ho);exact⟨_,_,aE _,F x ho,fun K hk=>by simp only[nop,e]; exact hk⟩
  ·cases h
 ·
  rename_i x;split at h
  ·rename_i k n hn;cases h;obtain⟨o1,o2⟩:=ah ho;have e:=aD hn (V x o1);exact⟨_,_,aG _ _,(And.intro (F x o1) (show okk k (0-n)from fits_okk (by simpa only[List.all_cons,List.all_nil,id,Bool.and_true]using o2))),fun K hk=>by simp only[nop,e]; exact hk⟩
  ·cases h
 ·
  rename_i c a b;split at h
  ·rename_i g hg;have key:∀ obc oba obb:List Bool,(obc++(oba.map (!g||·)++obb.map (g||·))).all id=true→obc.all id=true∧(g=true→oba.all id=true)∧(g=false→obb.all id=true):=fun obc oba obb hh=>by
    obtain⟨o1,o2⟩:=ah hh;obtain⟨o2,o3⟩:=ah o2;refine⟨o1,fun hg=>?_,fun hg=>?_⟩
    ·subst hg; simpa [Function.comp_def]using o2
    ·subst hg; simpa [Function.comp_def]using o3
   split at h
   ·rename_i x y hx hy;cases h;obtain⟨o1,o2,o3⟩:=key _ _ _ ho;have e:=cN hg (V c o1);refine⟨.bool (cond g x y),_,aE _,(And.intro (F c o1) (And.intro (fun hg=>F a (o2 hg)) (fun hg=>F b (o3 hg)))),fun K hk=>?_⟩;simp only[nop,e];cases g with
    | true=>have:=cN hx (V a (o2 rfl)); simp only[cond_true]at hk ⊢; rw[this]; exact hk
    | false=>have:=cN hy (V b (o3 rfl)); simp only[cond_false]at hk ⊢; rw[this]; exact hk
   ·split at h
    ·rename_i k x k' y hx hy;cases hc:kM k k' with
     | false=>rw[hc]at h; cases h
     | true=>
      rw[hc]at h; cases h;obtain rfl:=lg hc;obtain⟨o1,o2,o3⟩:=key _ _ _ ho;have e:=cN hg (V c o1);refine⟨.int k (cond g x y),_,aG _ _,(And.intro (F c o1) (And.intro (fun hg=>F a (o2 hg)) (fun hg=>F b (o3 hg)))),fun K hk=>?_⟩;simp only[nop,e];cases g with
      | true=>have:=aD hx (V a (o2 rfl)); simp only[cond_true]at hk ⊢; rw[this]; exact hk
      | false=>have:=aD hy (V b (o3 rfl)); simp only[cond_false]at hk ⊢; rw[this]; exact hk
    ·cases h
  ·cases h
 ·
  rename_i x;split at h <;> first | (cases h; done) | skip
  ·rename_i b o hx;cases h;have v:=V x ho; rw[hx]at v;have v':=v;simp only[RelV]at v; obtain⟨_,_,_,_,e⟩:=v;exact⟨_,_,v',F x ho,fun K hk=>by simp only[nop]; rw[e]at hk ⊢; exact hk⟩
  ·rename_i b k i j hx;cases h;have v:=V x ho; rw[hx]at v;have v':=v;simp only[RelV]at v; obtain⟨_,_,_,_,_,e⟩:=v;exact⟨_,_,v',F x ho,fun K hk=>by simp only[nop]; rw[e]at hk ⊢; exact hk⟩
  ·rename_i b i hx;cases h;have v:=V x ho; rw[hx]at v;have v':=v;simp only[RelV]at v; obtain⟨_,_,_,_,_,_,e⟩:=v;exact⟨_,_,v',F x ho,fun K hk=>by simp only[nop]; rw[e]at hk ⊢; exact hk⟩
  ·rename_i b i hx;cases h;have v:=V x ho; rw[hx]at v;have v':=v;simp only[RelV]at v; obtain⟨_,_,_,_,_,e⟩:=v;exact⟨_,_,v',F x ho,fun K hk=>by simp only[nop]; rw[e]at hk ⊢; exact hk⟩
  ·rename_i b k i j o hx;cases h;have v:=V x ho; rw[hx]at v;have v':=v;simp only[RelV]at v; obtain⟨_,_,_,_,_,_,_,_,_,_,_,e⟩:=v;exact⟨_,_,v',F x ho,fun K hk=>by simp only[nop]; rw[e]at hk ⊢; exact hk⟩
  ·rename_i b key o hx;cases h;have v:=V x ho; rw[hx]at v;have v':=v;simp only[RelV]at v; obtain⟨_,_,_,_,e⟩:=v;exact⟨_,_,v',F x ho,fun K hk=>by simp only[nop]; rw[e]at hk ⊢; exact hk⟩
  ·rename_i cs hx;cases h;have v:=V x ho; rw[hx]at v;have v':=v;simp only[RelV]at v; obtain⟨_,e,_⟩:=v;exact⟨_,_,v',F x ho,fun K hk=>by simp only[nop]; rw[e]at hk ⊢; exact hk⟩
  ·rename_i t y hx;cases h;obtain⟨o1,o2⟩:=ah ho;have v:=V x o1; rw[hx]at v;simp only[RelV,CR]at v;rcases v with⟨_,rfl⟩ | ⟨z,c,rfl,e,g⟩
   ·simp at o2
   ·simp only[List.cons.injEq,and_true]at e;exact⟨.elm c,_,by simp only[RelV]; exact⟨c,rfl,aR g⟩,F x o1,fun K hk=>by simp only[nop]; rw[e]; exact hk⟩
 ·
  rename_i x off;split at h <;> first | (cases h; done) | skip
  ·rename_i b o hx;cases h;have v:=V x ho; rw[hx]at v;simp only[RelV]at v; obtain⟨b',c,n,hp,e⟩:=v;exact⟨.ptr b' (o+off),_,by simp only[RelV]; exact⟨b',c,n,hp,rfl⟩,F x ho,fun K hk=>by simp only[nop,e]; exact hk⟩
  ·rename_i b k i j hx;cases h;have v:=V x ho; rw[hx]at v;simp only[RelV]at v; obtain⟨b',c,n,hp,hi,e⟩:=v;exact⟨.rptr b' k i (j+off),_,by simp only[RelV]; exact⟨b',c,n,hp,hi,rfl⟩,F x ho,fun K hk=>by simp only[nop,e]; exact hk⟩
  ·rename_i b k i j o hx;cases h;have v:=V x ho; rw[hx]at v;simp only[RelV]at v; obtain⟨b',c,n,f,b2,c2,n2,hp,hi,hf,hj,e⟩:=v;exact⟨.rptr b2 k j (o+off),_,by simp only[RelV]; exact⟨b',c,n,f,b2,c2,n2,hp,hi,hf,hj,rfl⟩,F x ho,fun K hk=>by simp only[nop,e]; exact hk⟩
  ·rename_i b key o hx;cases h;have v:=V x ho; rw[hx]at v;simp only[RelV]at v; obtain⟨g,y,hp,hg,e⟩:=v;exact⟨.ptr y (o+off),_,by simp only[RelV]; exact⟨g,y,hp,hg,rfl⟩,F x ho,fun K hk=>by simp only[nop,e]; exact hk⟩
  ·rename_i cs hx;cases h;have v:=V x ho; rw[hx]at v;simp only[RelV]at v; obtain⟨as,e,v⟩:=v;exact⟨.elm (as.drop off),_,by simp only[RelV]; exact⟨_,rfl,cg off v⟩,F x ho,fun K hk=>by simp only[nop,e]; exact hk⟩
 ·
  rename_i x fr;split at h
  ·rename_i d' r' hl;cases h;rcases ip hS hH hl (V x ho)with⟨as,e,r⟩ | ⟨b',o,as,e,hs,r,hle,hfr⟩ | ⟨b',k,i,j,T,c,xs,e,hs,hi,hj,hlen,r,hfr⟩
   ·simp only[RelVs]at r; obtain⟨a,as',rfl,g,_⟩:=r;exact⟨a,_,g,(And.intro (F x ho) (show 1≤(a::as').length by simp)),fun K hk=>by simp only[nop,e]; exact hk⟩
   ·simp only[RelVs]at r; obtain⟨a,as',ha,g,_⟩:=r;obtain⟨e1,e2⟩:=rL ha;exact⟨a,_,g,(And.intro (F x ho) (And.intro (e2) (hfr))),fun K hk=>by simp only[nop,e,hs,e1]; exact hk⟩
   ·simp only[RelVs]at r; obtain⟨a,as',ha,g,_⟩:=r;obtain⟨e1,e2⟩:=rL ha;exact⟨a,_,g,(And.intro (F x ho) (And.intro (hi) (And.intro (show j+1≤k by omega) (hfr)))),fun K hk=>by simp only[nop,e,hs,e1]; exact⟨trivial,hk⟩⟩
  ·cases h
 ·
  rename_i x n fr;split at h
  ·rename_i cs hl;cases hc:dI n cs.length with
   | false=>rw[hc]at h; cases h
   | true=>
    rw[hc]at h; cases h;simp only[dI,Nat.ble_eq]at hc;rcases ip hS hH hl (V x ho)with⟨as,e,r⟩ | ⟨b',o,as,e,hs,r,hle,hfr⟩ | ⟨b',k,i,j,T,c,xs,e,hs,hi,hj,hlen,r,hfr⟩
    ·have:=aB r;exact⟨.agg (as.take n),_,by simp only[RelV]; exact⟨_,rfl,dv n r⟩,(And.intro (F x ho) (show n≤as.length by omega)),fun K hk=>by simp only[nop,e]; exact hk⟩
    ·have:=aB r;simp only[List.length_drop]at this;exact⟨.agg ((as.drop o).take n),_,by simp only[RelV]; exact⟨_,rfl,dv n r⟩,(And.intro (F x ho) (And.intro (show o+n≤as.length by omega) (hfr))),fun K hk=>by simp only[nop,e,hs]; exact hk⟩
    ·have:=aB r;simp only[List.length_drop]at this;exact⟨.agg (((xs.getD i []).drop j).take n),_,by simp only[RelV]; exact⟨_,rfl,dv n r⟩,(And.intro (F x ho) (And.intro (hi) (And.intro (show j+n≤k by omega) (hfr)))),fun K hk=>by simp only[nop,e,hs]; exact⟨trivial,hk⟩⟩
  ·cases h
 ·
  rename_i x off n ag;split at h
  ·rename_i cs hx;cases hc:(dI (off+n) cs.length&&dI 1 n)with
   | false=>rw[hc]at h; cases h
   | true=>
    rw[hc]at h;simp only[cond_true,dI,Bool.and_eq_true,Nat.ble_eq]at h hc;cases ag with
    | true=>
     cases h;have v:=V x ho; rw[hx]at v;simp only[RelV]at v; obtain⟨as,e,v⟩:=v;have:=aB v;exact⟨.agg ((as.drop off).take n),_,by simp only[RelV]; exact⟨_,rfl,dv n (cg off v)⟩,(And.intro (F x ho) (show off+n≤as.length by omega)),fun K hk=>by simp only[nop,e,if_true]; exact hk⟩
    | false=>
     simp only at h;split at h
     ·rename_i d' r' hd;cases h;have v:=V x ho; rw[hx]at v;simp only[RelV]at v; obtain⟨as,e,v⟩:=v;have:=aB v;obtain⟨g1,g2⟩:=lW off v hd;exact⟨at_ as off,_,g2,(And.intro (F x ho) (show off+n≤as.length by omega)),fun K hk=>by simp only[nop,e,Bool.false_eq_true,if_false]; exact hk⟩
     ·cases h
  ·cases h
 ·
  rename_i x i n;split at h
  ·rename_i ki z hz;split at h
   ·rename_i t l hx;cases hc:Nat.beq t.w n with
    | false=>rw[hc]at h; cases h
    | true=>
     rw[hc]at h; cases h;obtain rfl:=aj.1 hc;obtain⟨o1,o2⟩:=ah ho;obtain⟨o2,o3⟩:=ah o2;have ei:=aD hz (V i o2);simp only[bv,List.all_cons,List.all_nil,id,Bool.and_true,Bool.and_eq_true,decide_eq_true_eq]at o3;have v:=V x o1; rw[hx]at v;simp only[RelV,CR]at v;rcases v with⟨_,rfl⟩ | ⟨get,e,v⟩
     ·simp at o3; omega
     ·simp only[List.cons.injEq,and_true]at e;have hz':z.toNat < l.length:=by omega
      exact⟨.elm (get z.toNat),_,by simp only[RelV]; exact⟨_,rfl,aR (v _ hz')⟩,(And.intro (F x o1) (And.intro (F i o2) (And.intro (o3.1) (o3.2)))),fun K hk=>by simp only[nop,e,ei]; exact⟨trivial,hk⟩⟩
   ·rename_i b hx;split at h
    ·rename_i T t l hb;cases hc:Nat.beq t.w n with
     | false=>rw[hc]at h; cases h
     | true=>
      rw[hc]at h; cases h;obtain rfl:=aj.1 hc;obtain⟨o1,o2⟩:=ah ho;obtain⟨o2,o3⟩:=ah o2;have ei:=aD hz (V i o2);simp only[bv,List.all_cons,List.all_nil,id,Bool.and_true,Bool.and_eq_true,decide_eq_true_eq]at o3;have v:=V x o1; rw[hx]at v;simp only[RelV]at v;rcases hS.obj _ _ hb with⟨g1,rfl⟩ | ⟨b2,c2,xs,hp2,hcap,hs,hr⟩
      ·simp at o3; omega
      ·rcases v with⟨b',c,m,hp,e⟩ | ⟨hp,_⟩
       ·rw[hp2]at hp; cases hp;exact⟨.rptr b2 t.w z.toNat 0,_,by simp only[RelV]; exact⟨_,_,_,hp2,by omega,rfl⟩,(And.intro (F x o1) (And.intro (F i o2) (And.intro (o3.1) (o3.2)))),fun K hk=>by simp only[nop,e,ei]; exact hk⟩
       ·rw[hp2]at hp; cases hp
    ·cases h
   ·rename_i b k p m hx;cases hc:Nat.beq k n with
    | false=>rw[hc]at h; cases h
    | true=>
     rw[hc]at h; cases h;obtain rfl:=aj.1 hc;obtain⟨o1,o2⟩:=ah ho;obtain⟨o2,o3⟩:=ah o2;have ei:=aD hz (V i o2);simp only[bv,List.all_cons,List.all_nil,id,Bool.and_true,Bool.and_eq_true,decide_eq_true_eq]at o3;have v:=V x o1; rw[hx]at v;simp only[RelV]at v;obtain⟨b',c,N,hp,hle,e⟩:=v;exact⟨.rptr b' k (p+z.toNat) 0,_,by simp only[RelV]; exact⟨_,_,_,hp,by omega,rfl⟩,(And.intro (F x o1) (And.intro (F i o2) (And.intro (o3.1) (o3.2)))),fun K hk=>by simp only[nop,e,ei]; exact⟨trivial,hk⟩⟩
   ·rename_i b hx;split at h
    ·rename_i T T' t l hb;cases hc:Nat.beq 1 n with
     | false=>rw[hc]at h; cases h
     | true=>
      rw[hc]at h; cases h;obtain rfl:=aj.1 hc;obtain⟨o1,o2⟩:=ah ho;obtain⟨o2,o3⟩:=ah o2;have ei:=aD hz (V i o2);simp only[bv,List.all_cons,List.all_nil,id,Bool.and_true,Bool.and_eq_true,decide_eq_true_eq]at o3;have v:=V x o1; rw[hx]at v;simp only[RelV]at v;rcases hS.obj _ _ hb with⟨g1,rfl⟩ | ⟨b2,c2,f2,hp2,hR⟩
      ·simp at o3; omega
      ·rcases v with⟨b',c,m,f,hp,e⟩ | ⟨hp,_⟩
       ·rw[hp2]at hp; cases hp;exact⟨.rptr b2 1 z.toNat 0,_,by simp only[RelV]; exact⟨_,_,_,_,hp2,by omega,rfl⟩,(And.intro (F x o1) (And.intro (F i o2) (And.intro (o3.1) (o3.2)))),fun K hk=>by simp only[nop,e,ei]; exact hk⟩
       ·rw[hp2]at hp; cases hp
    ·cases h
   ·rename_i b hx;split at h
    ·rename_i m hm;cases hc:Nat.beq 1 n with
     | false=>rw[hc]at h; cases h
     | true=>
      rw[hc]at h; cases h;obtain rfl:=aj.1 hc;obtain⟨o1,o2⟩:=ah ho;obtain⟨o2,o3⟩:=ah o2;have ei:=aD hz (V i o2);simp only[bv,List.all_cons,List.all_nil,id,Bool.and_true,Bool.and_eq_true,decide_eq_true_eq]at o3;have v:=V x o1; rw[hx]at v;simp only[RelV]at v;obtain⟨b',c,m',hpb,e⟩:=v;obtain rfl:=lZ hS hm hpb;exact⟨.rptr b' 1 z.toNat 0,_,by simp only[RelV]; exact⟨_,_,_,hpb,by omega,rfl⟩,(And.intro (F x o1) (And.intro (F i o2) (And.intro (o3.1) (o3.2)))),fun K hk=>by simp only[nop,e,ei]; exact hk⟩
    ·cases h
   ·rename_i b j hx;split at h
    ·rename_i T T' t l hb;cases hc:Nat.beq t.w n with
     | false=>rw[hc]at h; cases h
     | true=>
      rw[hc]at h; cases h;obtain rfl:=aj.1 hc;obtain⟨o1,o2⟩:=ah ho;obtain⟨o2,o3⟩:=ah o2;have ei:=aD hz (V i o2);simp only[bv,List.all_cons,List.all_nil,id,Bool.and_true,Bool.and_eq_true,decide_eq_true_eq]at o3;have v:=V x o1; rw[hx]at v;simp only[RelV]at v;obtain⟨b',c,m,f,hp,hj,e⟩:=v;rcases hS.obj _ _ hb with⟨g1,_⟩ | ⟨b2,c2,f2,hp2,hR⟩
      ·rw[g1]at hp; cases hp
      ·rw[hp2]at hp; cases hp;have hI:=hR.ir j hj;cases hf:f j with
       | none=>rw[hf]at hI; rw[show l.getD j []=[]from hI]at o3; simp at o3; omega
       | some q=>
        obtain⟨b3,c3,n3⟩:=q;rw[hf]at hI e;obtain⟨rfl,hc3,ys,hs,hy⟩:=hI;exact⟨.rptr b3 t.w z.toNat 0,_,by simp only[RelV]; exact⟨_,_,_,_,_,_,_,hp2,hj,hf,by omega,rfl⟩,(And.intro (F x o1) (And.intro (F i o2) (And.intro (o3.1) (o3.2)))),fun K hk=>by simp only[nop,e,ei,ilv]; exact hk⟩
    ·cases h
   ·cases h
  ·cases h
 ·
  rename_i x i;split at h
  ·rename_i t k z ht hz;cases h;obtain⟨o1,o2⟩:=ah ho;obtain⟨o2,o3⟩:=ah o2;have ei:=aD hz (V i o2);have ex:=gA ht (V x o1);simp only[bv,List.all_cons,List.all_nil,id,Bool.and_true,Bool.and_eq_true,decide_eq_true_eq]at o3;exact⟨_,_,aG _ _,(And.intro (F x o1) (And.intro (F i o2) (And.intro (o3.1) (o3.2)))),fun K hk=>by simp only[nop,ei,ex]; exact hk⟩
  ·cases h
 ·
  rename_i x;split at h <;> first | (cases h; done) | skip
  ·rename_i t l hx;cases h;have v:=V x ho; rw[hx]at v;simp only[RelV,CR]at v;rcases v with⟨e,rfl⟩ | ⟨get,e,v⟩
   ·simp only[List.cons.injEq,and_true]at e;exact⟨.int .i64 0,_,aG _ _,F x ho,fun K hk=>by simp only[nop,e]; exact hk⟩
   ·simp only[List.cons.injEq,and_true]at e;exact⟨_,_,aG _ _,F x ho,fun K hk=>by simp only[nop,e]; exact hk⟩
  ·rename_i b hx;split at h
   ·rename_i T t l hb;cases h;have v:=V x ho; rw[hx]at v;simp only[RelV]at v;rcases hS.obj _ _ hb with⟨g1,rfl⟩ | ⟨b2,c2,xs,hp2,hcap,hs,hr⟩
    ·rcases v with⟨b',c,m,hp,e⟩ | ⟨hp,e⟩
     ·rw[g1]at hp; cases hp
     ·exact⟨.int .i64 0,_,aG _ _,F x ho,fun K hk=>by simp only[nop,e]; exact hk⟩
    ·rcases v with⟨b',c,m,hp,e⟩ | ⟨hp,_⟩
     ·rw[hp2]at hp; cases hp;exact⟨_,_,aG _ _,F x ho,fun K hk=>by simp only[nop,e]; exact hk⟩
     ·rw[hp2]at hp; cases hp
   ·cases h
  ·rename_i b k p m hx;cases h;have v:=V x ho; rw[hx]at v;simp only[RelV]at v;obtain⟨b',c,N,hp,hle,e⟩:=v;exact⟨_,_,aG _ _,F x ho,fun K hk=>by simp only[nop,e]; exact hk⟩
  ·rename_i hx;cases h;have v:=V x ho; rw[hx]at v;simp only[RelV]at v;exact⟨.int .i64 0,_,aG _ _,F x ho,fun K hk=>by simp only[nop,v]; exact hk⟩
  ·rename_i b hx;split at h
   ·rename_i T T' t l hb;cases h;have v:=V x ho; rw[hx]at v;simp only[RelV]at v;rcases hS.obj _ _ hb with⟨g1,rfl⟩ | ⟨b2,c2,f2,hp2,hR⟩
    ·rcases v with⟨b',c,m,f,hp,e⟩ | ⟨hp,e⟩
     ·rw[g1]at hp; cases hp
     ·exact⟨.int .i64 0,_,aG _ _,F x ho,fun K hk=>by simp only[nop,e]; exact hk⟩
    ·rcases v with⟨b',c,m,f,hp,e⟩ | ⟨hp,_⟩
     ·rw[hp2]at hp; cases hp;exact⟨_,_,aG _ _,F x ho,fun K hk=>by simp only[nop,e]; exact hk⟩
     ·rw[hp2]at hp; cases hp
   ·cases h
  ·rename_i b hx;split at h
   ·rename_i m hm;cases h;have v:=V x ho; rw[hx]at v;simp only[RelV]at v;obtain⟨b',c,m',hpb,e⟩:=v;obtain rfl:=lZ hS hm hpb;exact⟨_,_,aG _ _,F x ho,fun K hk=>by simp only[nop,e]; exact hk⟩
   ·cases h
  ·rename_i b j hx;split at h
   ·rename_i T T' t l hb;cases h;have v:=V x ho; rw[hx]at v;simp only[RelV]at v;obtain⟨b',c,m,f,hp,hj,e⟩:=v;rcases hS.obj _ _ hb with⟨g1,_⟩ | ⟨b2,c2,f2,hp2,hR⟩
    ·rw[g1]at hp; cases hp
    ·rw[hp2]at hp; cases hp;have hI:=hR.ir j hj;cases hf:f j with
     | none=>
      rw[hf]at hI e;rw[show l.getD j []=[]from hI];exact⟨.int .i64 0,_,aG _ _,F x ho,fun K hk=>by simp only[nop,e,ilv]; exact hk⟩
     | some q=>
      obtain⟨b3,c3,n3⟩:=q;rw[hf]at hI e;obtain⟨rfl,hc3,ys,hs,hy⟩:=hI;exact⟨_,_,aG _ _,F x ho,fun K hk=>by simp only[nop,e,ilv]; exact hk⟩
   ·cases h
 ·
  rename_i x;split at h
  ·rename_i t ht;cases h;have ex:=gA ht (V x ho);exact⟨_,_,aG _ _,F x ho,fun K hk=>by simp only[nop,ex]; exact hk⟩
  ·cases h
 ·
  rename_i mx x y;split at h
  ·rename_i k a k' b hx hy;cases hc:kM k k' with
   | false=>rw[hc]at h; cases h
   | true=>
    rw[hc]at h; cases h;obtain rfl:=lg hc;obtain⟨o1,o2⟩:=ah ho;have e1:=aD hx (V x o1);have e2:=aD hy (V y o2);refine⟨.int k (if mx then max a b else min a b),_,?_,(And.intro (F x o1) (F y o2)),fun K hk=>by simp only[nop,e1,e2]; exact⟨trivial,hk⟩⟩;cases mx <;> exact aG _ _
  ·cases h
 ·
  rename_i x i;split at h
  ·rename_i vs hx;split at h
   ·rename_i d' r' hd;cases h;have v:=V x ho; rw[hx]at v;simp only[RelV]at v; obtain⟨as,e,v⟩:=v;obtain⟨g1,g2⟩:=lW i v hd;exact⟨at_ as i,_,g2,(And.intro (F x ho) (g1)),fun K hk=>by simp only[nop,e]; exact hk⟩
   ·cases h
  ·cases h
 ·
  rename_i z ps;split at h
  ·rename_i cs ob' hp;cases h;obtain⟨g1,g2⟩:=lY hρ hp ho (fR z);exact⟨.agg _,_,by simp only[RelV]; exact⟨_,rfl,g1⟩,g2,fun K hk=>hk⟩
  ·cases h
 ·
  rename_i f caps;cases hne:Nat.beq f YB with
  | true=>rw[hne]at h; cases h
  | false=>
  rw[hne]at h;cases h;obtain⟨g1,g2⟩:=cQ hρ ho;exact⟨.fn f _,_,by simp only[RelV]; exact⟨_,(ew hne).symm,g1⟩,g2,fun K hk=>hk⟩
 ·
  rename_i k x;split at h
  ·rename_i k' n hn;cases h;obtain⟨o1,o2⟩:=ah ho;have e:=aD hn (V x o1);exact⟨_,_,aG _ _,(And.intro (F x o1) (fits_okk (by simpa using o2))),fun K hk=>by simp only[nop,e]; exact hk⟩
  ·cases h
 ·
  rename_i x lo hi m;split at h
  ·rename_i t l hx;cases hc:Nat.beq t.w m with
   | false=>rw[hc]at h; cases h
   | true=>
    rw[hc]at h;obtain rfl:=aj.1 hc;simp only[cond_true]at h;split at h
    ·rename_i a p b q ha hb;cases h;obtain⟨o1,o2⟩:=ah ho;obtain⟨o2,o3⟩:=ah o2;obtain⟨o3,o4⟩:=ah o3;simp only[List.all_cons,List.all_nil,id,Bool.and_true,Bool.and_eq_true,decide_eq_true_eq]at o4;obtain⟨p1,hp1,k1⟩:=dz hρ ha o2;obtain⟨p2,hp2,k2⟩:=dz hρ hb o3;have v:=V x o1; rw[hx]at v;simp only[RelV,CR]at v;rcases v with⟨e,rfl⟩ | ⟨get,e,v⟩
     ·simp only[List.cons.injEq,and_true]at e;refine⟨mA t.w 0 (fun _=>[]) a.toNat (b-a).toNat,_,?_,(And.intro (F x o1) (And.intro hp1 (And.intro hp2 (And.intro o4.1 (And.intro o4.2.1 (show b≤(0:Nat)from o4.2.2)))))),fun K hk=>?_⟩
      ·simp only[kL,RelV,CR];right;exact⟨fun _=>[],by simp[mA],fun i hi=>by simp at hi⟩
      ·simp only[nop,e];exact k1 _ (k2 _ hk)
     ·simp only[List.cons.injEq,and_true]at e;refine⟨mA t.w l.length get a.toNat (b-a).toNat,_,?_,(And.intro (F x o1) (And.intro (hp1) (And.intro (hp2) (And.intro (o4.1) (And.intro (o4.2.1) (o4.2.2)))))),fun K hk=>?_⟩
      ·simp only[kL,RelV,CR];right;refine⟨fun i=>if i < (b-a).toNat then get (a.toNat+i)else get l.length,?_,fun i hi=>?_⟩
       ·unfold mA; simp[List.length_take,List.length_drop]
       ·have hi':i < min (b-a).toNat (l.length-a.toNat):=by simpa [List.length_take,List.length_drop]using hi
        rw[mD hi'];have h1:i < (b-a).toNat:=by omega
        simp only[h1,if_true];exact v _ (by omega)
      ·simp only[nop,e];exact⟨trivial,k1 _ (k2 _ hk)⟩
    ·cases h
  ·rename_i hx;split at h
   ·rename_i gg t;cases hc:Nat.beq t.w m with
    | false=>rw[hc]at h; cases h
    | true=>
     rw[hc]at h;obtain rfl:=aj.1 hc;simp only[cond_true]at h;split at h
     ·rename_i a p b q ha hb;cases h;obtain⟨o1,o2⟩:=ah ho;obtain⟨o2,o3⟩:=ah o2;obtain⟨o3,o4⟩:=ah o3;simp only[List.all_cons,List.all_nil,id,Bool.and_true,Bool.and_eq_true,decide_eq_true_eq]at o4;obtain⟨p1,hp1,k1⟩:=dz hρ ha o2;obtain⟨p2,hp2,k2⟩:=dz hρ hb o3;have v:=V x o1; rw[hx]at v;simp only[RelV]at v;refine⟨mA t.w 0 (fun _=>[]) a.toNat (b-a).toNat,_,?_,(And.intro (F x o1) (And.intro hp1 (And.intro hp2 (And.intro o4.1 (And.intro o4.2.1 (show b≤(0:Nat)from o4.2.2)))))),fun K hk=>?_⟩
      ·simp only[kL,RelV,CR];right;exact⟨fun _=>[],by simp[mA],fun i hi=>by simp at hi⟩
      ·simp only[nop,v];exact k1 _ (k2 _ hk)
     ·cases h
   ·cases h
  ·cases h
 ·
  rename_i x lo hi;split at h
  ·rename_i t ht;split at h
   ·rename_i a p b q ha hb;cases h;obtain⟨o1,o2⟩:=ah ho;obtain⟨o2,o3⟩:=ah o2;obtain⟨o3,o4⟩:=ah o3;simp only[List.all_cons,List.all_nil,id,Bool.and_true,Bool.and_eq_true,decide_eq_true_eq]at o4;obtain⟨p1,hp1,k1⟩:=dz hρ ha o2;obtain⟨p2,hp2,k2⟩:=dz hρ hb o3;have e:=gA ht (V x o1);exact⟨_,_,pn _,(And.intro (F x o1) (And.intro (hp1) (And.intro (hp2) (And.intro (o4.1) (And.intro (o4.2.1) (o4.2.2)))))),fun K hk=>by simp only[nop,e]; exact k1 _ (k2 _ hk)⟩
   ·cases h
  ·cases h
 ·
  rename_i kn ok z m key fr;split at h
  ·rename_i b hm;split at h
   ·rename_i kn' ag t es hb;split at h
    ·rename_i k hk;cases hc:(Nat.beq kn' kn&&EU ag t z&&oc fr RD b)with
     | false=>rw[hc]at h; cases h
     | true=>
      rw[hc]at h;simp only[cond_true,Option.some.injEq,Prod.mk.injEq]at h;obtain⟨rfl,rfl⟩:=h;simp only[Bool.and_eq_true,aj]at hc;obtain⟨⟨rfl,hz⟩,hfr⟩:=hc;obtain⟨o1,o2⟩:=ah ho;have v:=V m o1; rw[hm]at v;simp only[RelV]at v; obtain⟨b',c,n,hp,e⟩:=v;obtain⟨b2,c2,n2,es',hp2,he,hs⟩:=hS.obj _ _ hb;rw[hp]at hp2; cases hp2;have hs:s' b'=some (.imap kn' es' none):=hs;have hg:MR ag t ((ef es k).getD t.zero) ((bK es' k).getD z)∧(bK es' k).isSome=(ef es k).isSome:=by
       rcases ot k he with⟨g1,g2⟩ | ⟨x,a,g1,g2,g3⟩
       ·rw[g1,g2]; exact⟨vw hz,rfl⟩
       ·rw[g1,g2]; exact⟨g3,rfl⟩
      refine⟨if ok then .tup [(bK es' k).getD z,.bool (bK es' k).isSome]else(bK es' k).getD z,_,?_,(And.intro (F m o1) (And.intro (F key o2) (frOk_R hH hfr hp))),fun K hK=>?_⟩
      ·cases ok with
       | true=>simp only[if_true,RelV]; exact⟨_,rfl,RelVs_cons (om hg.1) (aA (by rw[hg.2]; exact aE _))⟩
       | false=>exact om hg.1
      ·simp only[nop,e,hs];exact⟨trivial,gB hk (V key o2) _ hK⟩
    ·cases h
   ·cases h
  ·cases h
 ·
  rename_i k xs;split at h
  ·cases h;exact⟨.emp,ko ρ' []∧eM AV.frz k (vals ρ' []),by simp only[RelV],⟨trivial,trivial⟩,fun K hk=>hk⟩
  ·rename_i x l;split at h
   ·rename_i ag t;split at h
    ·rename_i r hr;cases hc:Nat.beq t.w k with
     | false=>rw[hc]at h; cases h
     | true=>
      rw[hc]at h; cases h;obtain rfl:=aj.1 hc;obtain⟨g1,g2⟩:=cQ hρ ho;obtain⟨k1,k2,k3⟩:=iK hr g1;have hlen:(x::l).length=r.length:=by rw[← k3]; simp[vals]
      refine⟨.lst t.w (x::l).length (fun i=>cellsOf (at_ (vals ρ' (x::l)) i)),ko ρ' (x::l)∧eM AV.frz t.w (vals ρ' (x::l)),?_,⟨g2,ng k1 k2⟩,fun K hk=>?_⟩
      ·simp only[kL,RelV,CR];right;refine⟨_,by rw[hlen],fun i hi=>?_⟩;have:=k1.2 i hi;have hi':i < (vals ρ' (x::l)).length:=by rw[k3]; exact hi
       have e:(List.map cellsOf (vals ρ' (x::l))).getD i []=cellsOf (at_ (vals ρ' (x::l)) i):=by
        simp[at_,List.getD_eq_getElem?_getD,List.getElem?_map,hi']
       rw[e]at this; exact this
      ·simp only[nop];rw[if_neg (by simp)];exact hk
    ·cases h
   ·cases h
 ·
  rename_i m fr;split at h
  ·rename_i b hm;split at h
   ·rename_i kn' ag t es hb;cases hc:oc fr RD b with
    | false=>rw[hc]at h; cases h
    | true=>
     rw[hc]at h; cases h;have v:=V m ho; rw[hm]at v;simp only[RelV]at v; obtain⟨b',c,n,hp,e⟩:=v;obtain⟨b2,c2,n2,es',hp2,he,hs⟩:=hS.obj _ _ hb;rw[hp]at hp2; cases hp2;have hs:s' b'=some (.imap kn' es' none):=hs;refine⟨.int .i64 es'.length,_,?_,(And.intro (F m ho) (frOk_R hH hc hp)),fun K hK=>by simp only[nop,e,hs]; exact hK⟩;rw[oq he]; exact aG _ _
   ·cases h
  ·cases h
 ·
  cases h
  simp at ho
 ·
  rename_i by_ x;split at h
  ·rename_i ki m hm;cases h;obtain⟨o1,o2⟩:=ah ho;simp only[List.all_cons,List.all_nil,id,Bool.and_true,Bool.and_eq_true,decide_eq_true_eq]at o2;have e:=aD hm (V x o1);exact⟨.undef,(ρ' x).df∧sZ by_ (ρ' x).val,(by simp only[RelV]),⟨F x o1,by rw[e]; exact o2⟩,fun K hk=>by simp only[nop]; exact hk⟩
  ·cases h
 ·
  rename_i ne x y;split at h
  ·rename_i u v hu hv;cases h;obtain⟨o1,o2⟩:=ah ho;have e1:=cN hu (V x o1);have e2:=cN hv (V y o2);exact⟨_,_,aE _,(And.intro (F x o1) (F y o2)),fun K hk=>by simp only[nop,e1,e2]; exact hk⟩
  ·cases h
 ·
  rename_i mx xs;split at h
  ·rename_i d0 l hl;split at h
   ·rename_i k a hk;split at h
    ·rename_i n hn;cases h;obtain⟨g1,g2⟩:=cQ hρ ho;rw[hl]at g1;simp only[RelVs]at g1;obtain⟨a0,as,e,r1,r2⟩:=g1;obtain rfl:=aD hk r1;refine⟨.int k n,_,aG _ _,g2,fun K hK=>?_⟩;simp only[nop,e];exact iL hn r2 hK
    ·cases h
   ·cases h
  ·cases h
 ·
  rename_i ne x;split at h <;> first | (cases h; done) | skip
  ·rename_i hx;cases h;have v:=V x ho; rw[hx]at v;simp only[RelV]at v;refine⟨.bool (!ne),_,by cases ne <;> exact aE _,F x ho,fun K hk=>by simp only[nop,v]; exact hk⟩
  ·rename_i b p hx;cases h;have v:=V x ho; rw[hx]at v;simp only[RelV]at v;obtain⟨_,_,_,_,e⟩:=v;exact⟨.bool ne,_,aE _,F x ho,fun K hk=>by simp only[nop,e]; exact hk⟩
  ·rename_i b k i j hx;cases h;have v:=V x ho; rw[hx]at v;simp only[RelV]at v;obtain⟨_,_,_,_,_,e⟩:=v;exact⟨.bool ne,_,aE _,F x ho,fun K hk=>by simp only[nop,e]; exact hk⟩
  ·rename_i b key o hx;cases h;have v:=V x ho; rw[hx]at v;simp only[RelV]at v;obtain⟨_,_,_,_,e⟩:=v;exact⟨.bool ne,_,aE _,F x ho,fun K hk=>by simp only[nop,e]; exact hk⟩
  ·rename_i cs hx;cases h;have v:=V x ho; rw[hx]at v;simp only[RelV]at v;obtain⟨_,e,_⟩:=v;exact⟨.bool ne,_,aE _,F x ho,fun K hk=>by simp only[nop,e]; exact hk⟩
  ·rename_i t y hx;cases h;have v:=V x ho; rw[hx]at v;simp only[RelV,CR]at v;rcases v with⟨e,rfl⟩ | ⟨z,c,rfl,e,g⟩
   ·simp only[List.cons.injEq,and_true]at e;refine⟨.bool (!ne),_,by cases ne <;> exact aE _,F x ho,fun K hk=>by simp only[nop,e]; exact hk⟩
   ·simp only[List.cons.injEq,and_true]at e;refine⟨.bool ne,_,by cases ne <;> exact aE _,F x ho,fun K hk=>by simp only[nop,e]; exact hk⟩
 ·
  rename_i x i k n;split at h
  ·rename_i ki z b k' hz hx;split at h
   ·rename_i T t l hb;cases hc:Nat.beq k' k with
    | false=>rw[hc]at h; cases h
    | true=>
     rw[hc]at h; cases h;obtain rfl:=aj.1 hc;obtain⟨o1,o2⟩:=ah ho;obtain⟨o2,o3⟩:=ah o2;have ei:=aD hz (V i o2);simp only[bv,List.all_cons,List.all_nil,id,Bool.and_true,Bool.and_eq_true,decide_eq_true_eq]at o3;have v:=V x o1; rw[hx]at v;simp only[RelV]at v;obtain⟨b',c,N,hp,hi,e⟩:=v;rcases hS.obj _ _ hb with⟨g1,_⟩ | ⟨b2,c2,xs,hp2,hcap,hs,hr⟩
     ·rw[hp]at g1; cases g1
     ·rw[hp]at hp2; cases hp2;exact⟨.rptr b' k' z.toNat 0,_,by simp only[RelV]; exact⟨_,_,_,hp,by omega,rfl⟩,(And.intro (F x o1) (And.intro (F i o2) (And.intro (o3.2.1) (o3.2.2)))),fun K hk=>by simp only[nop,e,ei]; exact⟨trivial,hk⟩⟩
   ·cases h
  ·cases h
 ·
  rename_i x k n;split at h
  ·rename_i b k' hx;split at h
   ·rename_i T t l hb;cases hc:Nat.beq k' k with
    | false=>rw[hc]at h; cases h
    | true=>
     rw[hc]at h; cases h;obtain rfl:=aj.1 hc;obtain⟨o1,o2⟩:=ah ho;simp only[dI,List.all_cons,List.all_nil,id,Bool.and_true,Nat.ble_eq]at o2;have v:=V x o1; rw[hx]at v;simp only[RelV]at v;obtain⟨b',c,N,hp,hi,e⟩:=v;rcases hS.obj _ _ hb with⟨g1,_⟩ | ⟨b2,c2,xs,hp2,hcap,hs,hr⟩
     ·rw[hp]at g1; cases g1
     ·rw[hp]at hp2; cases hp2;exact⟨.slo b' k' 0 n,_,by simp only[RelV]; exact⟨_,_,_,hp,by omega,rfl⟩,F x o1,fun K hk=>by simp only[nop,e]; exact⟨trivial,hk⟩⟩
   ·cases h
  ·cases h
 ·
  rename_i x;split at h
  ·rename_i hx;cases h;have v:=V x ho; rw[hx]at v;simp only[RelV]at v;exact⟨.int .i64 0,_,aG _ _,F x ho,fun K hk=>by simp only[nop,v]; exact hk⟩
  ·cases h
 ·
  rename_i x hi;split at h
  ·rename_i kk z hx hz;cases h;obtain⟨o1,o2⟩:=ah ho;obtain⟨o2,o3⟩:=ah o2;simp only[List.all_cons,List.all_nil,id,Bool.and_true,decide_eq_true_eq]at o3;have ei:=aD hz (V hi o2);have v:=V x o1; rw[hx]at v;simp only[RelV]at v;exact⟨.emp,_,by simp only[RelV],(And.intro (F x o1) (And.intro (F hi o2) o3)),fun K hk=>by simp only[nop,v,ei]; exact hk⟩
  ·cases h
 ·
  rename_i x lo hi k;split at h
  ·rename_i b hx;split at h
   ·rename_i T t l hb;split at h
    ·rename_i a p c q ha hc;cases h;obtain⟨o1,o2⟩:=ah ho;obtain⟨o2,o3⟩:=ah o2;obtain⟨o3,o4⟩:=ah o3;simp only[List.all_cons,List.all_nil,id,Bool.and_true,Bool.and_eq_true,decide_eq_true_eq]at o4;obtain⟨p1,hp1,k1⟩:=dz hρ ha o2;obtain⟨p2,hp2,k2⟩:=dz hρ hc o3;have v:=V x o1; rw[hx]at v;simp only[RelV]at v;rcases hS.obj _ _ hb with⟨g1,rfl⟩ | ⟨b2,c2,xs,hpb,hcap,hs,hr⟩
     ·simp at o4
     ·rcases v with⟨b',c',m,hp,e⟩ | ⟨hp,_⟩
      ·rw[hpb]at hp; cases hp;refine⟨.slo b2 k a.toNat (c-a).toNat,_,by simp only[RelV]; exact⟨_,_,_,hpb,by omega,rfl⟩,(And.intro (F x o1) (And.intro hp1 (And.intro hp2 (And.intro o4.1 (And.intro o4.2.1 o4.2.2.1))))),fun K hk=>?_⟩;simp only[nop,e];exact k1 _ (k2 _ hk)
      ·rw[hpb]at hp; cases hp
    ·cases h
   ·cases h
  ·rename_i b k' p0 m hx;cases hck:Nat.beq k' k with
   | false=>rw[hck]at h; cases h
   | true=>
    rw[hck]at h;obtain rfl:=aj.1 hck;simp only[cond_true]at h;split at h
    ·rename_i a p c q ha hc;cases h;obtain⟨o1,o2⟩:=ah ho;obtain⟨o2,o3⟩:=ah o2;obtain⟨o3,o4⟩:=ah o3;simp only[List.all_cons,List.all_nil,id,Bool.and_true,Bool.and_eq_true,decide_eq_true_eq]at o4;obtain⟨p1,hp1,k1⟩:=dz hρ ha o2;obtain⟨p2,hp2,k2⟩:=dz hρ hc o3;have v:=V x o1; rw[hx]at v;simp only[RelV]at v;obtain⟨b',c',N,hp,hle,e⟩:=v;refine⟨.slo b' k' (p0+a.toNat) (c-a).toNat,_,by simp only[RelV]; exact⟨_,_,_,hp,by omega,rfl⟩,(And.intro (F x o1) (And.intro hp1 (And.intro hp2 (And.intro o4.1 (And.intro o4.2.1 o4.2.2))))),fun K hk=>?_⟩;simp only[nop,e];exact⟨trivial,k1 _ (k2 _ hk)⟩
    ·cases h
  ·cases h
 ·cases h
end
end Go.Proofs.YtdkaijofmigmbaaGreat.D

set_option linter.unusedVariables false
set_option linter.unusedSectionVars false
set_option linter.unusedSimpArgs false
namespace Go.Proofs.YtdkaijofmigmbaaGreat.D
open Go Go.Proofs.YtdkaijofmigmbaaGreat.L
variable [YP]
def addP (π:Pi)(b:Nat)(l:Loc):Pi:=fun c=>if c=b then some l else π c
theorem aW {π:Pi}{b:Nat}(h:π b=none)(l:Loc):Ext π (addP π b l):=fun c x hx=>by
 unfold addP; split
 ·rename_i e; subst e; rw[h]at hx; cases hx
 ·exact hx
theorem addP_same (π:Pi)(b:Nat)(l:Loc):addP π b l b=some l:=by simp[addP]
theorem addP_ne (π:Pi){b c:Nat}(l:Loc)(h:c≠b):addP π b l c=π c:=by simp[addP,h]
section
variable {π π1:Pi} {Fr:Store} {S:DSt} {s' s1:Store} {RD:List Nat} {R:Nat→Prop} {ρ:Opd→DV} {ρ':Opd→AV}
theorem RowsR.mono {T T':Nat}{t:Ty}{l:List (List t.den)}{b c:Nat}{f:Nat→Option (Nat×Nat×Nat)}(h:RowsR s' T T' t l b c f)(hs:∀ x,Loc.has (.rls b c l.length f) x→s1 x=s' x):RowsR s1 T T' t l b c f:=by
 refine⟨h.cap,?_,fun i hi=>?_,h.ne,h.dj⟩
 ·obtain⟨xs,g1,g2⟩:=h.ex;exact⟨xs,(hs b (.inl rfl)).trans g1,g2⟩
 ·have:=h.ir i hi;cases hf:f i with
  | none=>rw[hf]at this; exact this
  | some p=>
   obtain⟨b2,c2,n2⟩:=p;rw[hf]at this;obtain⟨g1,g2,ys,g3,g4⟩:=this;exact⟨g1,g2,ys,(hs b2 (.inr ⟨i,_,hi,hf,rfl⟩)).trans g3,g4⟩
theorem PoolR.mono {t:Ty}{es:List (Int×t.den)}{g:List (Int×Nat)}(h:PoolR s' t es g)(hs:∀ x,Loc.has (.pol g) x→s1 x=s' x):PoolR s1 t es g:=by
 refine⟨h.keys,h.nd,fun k x hk=>?_,h.dj⟩;obtain⟨as,g1,g2⟩:=h.ex k x hk;exact⟨as,(hs x ⟨k,hk⟩).trans g1,g2⟩
theorem RowsH.mono {T T':Nat}{t:Ty}{l:List (List t.den)}{i0 b c:Nat}{f:Nat→Option (Nat×Nat×Nat)}(h:RowsH s' T T' t l i0 b c f)(hs:∀ x,Loc.has (.rls b c l.length f) x→s1 x=s' x):RowsH s1 T T' t l i0 b c f:=by
 refine⟨h.cap,?_,fun i hi=>?_,h.ne,h.dj,h.lt,h.at0⟩
 ·obtain⟨xs,g1,g2⟩:=h.ex;exact⟨xs,(hs b (.inl rfl)).trans g1,g2⟩
 ·have:=h.ir i hi;cases hf:f i with
  | none=>rw[hf]at this; exact this
  | some p=>
   obtain⟨b2,c2,n2⟩:=p;rw[hf]at this;obtain⟨g1,g2,ys,g3,g4⟩:=this;exact⟨g1,g2,ys,(hs b2 (.inr ⟨i,_,hi,hf,rfl⟩)).trans g3,g4⟩
theorem ObR.mono {b:Nat}{o:DObj}(h:ObR π s' b o)(hx:Ext π π1)(hs:∀ l x,π b=some l→l.has x→s1 x=s' x):ObR π1 s1 b o:=by
 cases o with
 | box ds=>
  obtain⟨b',c,n,as,h1,h2,h3⟩:=h;exact⟨b',c,n,as,hx _ _ h1,(hs _ _ h1 rfl).trans h2,h3.ext hx⟩
 | row T t l=>
  rcases h with⟨h1,h2⟩ | ⟨b',c,xs,h1,h2,h3⟩
  ·exact .inl ⟨hx _ _ h1,h2⟩
  ·exact .inr ⟨b',c,xs,hx _ _ h1,h2,(hs _ _ h1 rfl).trans h3.1,h3.2⟩
 | imap kn ag t es pd=>
  obtain⟨b',c,n,es',h1,h2,h3⟩:=h;refine⟨b',c,n,es',hx _ _ h1,h2,?_⟩;cases pd with
  | none=>exact(hs _ _ h1 rfl).trans h3
  | some p=>
   obtain⟨tk,key,v0⟩:=p;obtain⟨y,v0',g1,g2,g3⟩:=h3;exact⟨y,v0',hx _ _ g1,g2,(hs _ _ h1 rfl).trans g3⟩
 | rows T T' t l=>
  rcases h with⟨h1,h2⟩ | ⟨b',c,f,h1,h2⟩
  ·exact .inl ⟨hx _ _ h1,h2⟩
  ·exact .inr ⟨b',c,f,hx _ _ h1,h2.mono fun x hh=>hs _ _ h1 hh⟩
 | pool t es=>
  obtain⟨g,h1,h2⟩:=h;exact⟨g,hx _ _ h1,h2.mono fun x hh=>hs _ _ h1 hh⟩
 | pmap p=>
  obtain⟨b',c,n,g,h1,h2,h3⟩:=h;exact⟨b',c,n,g,hx _ _ h1,hx _ _ h2,(hs _ _ h1 rfl).trans h3⟩
 | gone p=>obtain⟨b',g,h1,h2⟩:=h; exact⟨b',g,hx _ _ h1,hx _ _ h2⟩
 | raw k=>obtain⟨b',c,n,h1,h2⟩:=h; exact⟨b',c,n,hx _ _ h1,(hs _ _ h1 rfl).trans h2⟩
 | rowh T T' t l i=>obtain⟨b',c,f,h1,h2⟩:=h; exact⟨b',c,f,hx _ _ h1,h2.mono fun x hh=>hs _ _ h1 hh⟩
 | hdl p=>obtain⟨b',c,n,f,h1,h2⟩:=h; exact⟨b',c,n,f,hx _ _ h1,hx _ _ h2⟩
theorem ObR.loc {b:Nat}{o:DObj}(h:ObR π s' b o):∃ l,π b=some l:=by
 cases o with
 | box ds=>obtain⟨b',c,n,as,h1,_⟩:=h; exact⟨_,h1⟩
 | row T t l=>
  rcases h with⟨h1,h2⟩ | ⟨b',c,xs,h1,h2,h3⟩
  ·exact⟨_,h1⟩
  ·exact⟨_,h1⟩
 | imap kn ag t es pd=>obtain⟨b',c,n,es',h1,_⟩:=h; exact⟨_,h1⟩
 | rows T T' t l=>
  rcases h with⟨h1,h2⟩ | ⟨b',c,f,h1,h2⟩
  ·exact⟨_,h1⟩
  ·exact⟨_,h1⟩
 | pool t es=>obtain⟨g,h1,_⟩:=h; exact⟨_,h1⟩
 | pmap p=>obtain⟨b',c,n,g,h1,_⟩:=h; exact⟨_,h1⟩
 | gone p=>obtain⟨b',g,h1,_⟩:=h; exact⟨_,h1⟩
 | raw k=>obtain⟨b',c,n,h1,_⟩:=h; exact⟨_,h1⟩
 | rowh T T' t l i=>obtain⟨b',c,f,h1,_⟩:=h; exact⟨_,h1⟩
 | hdl p=>obtain⟨b',c,n,f,h1,_⟩:=h; exact⟨_,h1⟩
theorem ObR.some'' {b:Nat}{o:DObj}(h:ObR π s' b o){l:Loc}{x:Nat}(hp:π b=some l)(hx:l.has x):s' x≠none:=by
 cases o with
 | box ds=>obtain⟨b2,c,n,as,h1,h2,_⟩:=h; rw[hp]at h1; cases h1; cases hx; rw[h2]; simp
 | row T t l=>
  rcases h with⟨h1,h2⟩ | ⟨b',c,xs,h1,h2,h3⟩
  ·rw[hp]at h1; cases h1; exact hx.elim
  ·rw[hp]at h1; cases h1; cases hx; rw[h3.1]; simp
 | imap kn ag t es pd=>
  obtain⟨b',c,n,es',h1,_,h3⟩:=h;rw[hp]at h1; cases h1; cases hx;cases pd with
  | none=>rw[show s' _=_ from h3]; simp
  | some p=>obtain⟨tk,key,v0⟩:=p; obtain⟨y,v0',g1,g2,g3⟩:=h3; rw[g3]; simp
 | rows T T' t l=>
  rcases h with⟨h1,h2⟩ | ⟨b',c,f,h1,h2⟩
  ·rw[hp]at h1; cases h1; exact hx.elim
  ·rw[hp]at h1; cases h1;rcases hx with rfl | ⟨i,p,hi,hf,rfl⟩
   ·obtain⟨xs,g1,_⟩:=h2.ex; rw[g1]; simp
   ·have:=h2.ir i hi;rw[hf]at this;obtain⟨_,_,ys,g3,_⟩:=this;rw[g3]; simp
 | pool t es=>
  obtain⟨g,h1,h2⟩:=h;rw[hp]at h1; cases h1;obtain⟨k,hk⟩:=hx;obtain⟨as,g1,_⟩:=h2.ex k _ hk;rw[g1]; simp
 | pmap p=>obtain⟨b',c,n,g,h1,_,h3⟩:=h; rw[hp]at h1; cases h1; cases hx; rw[h3]; simp
 | gone p=>obtain⟨b',g,h1,_⟩:=h; rw[hp]at h1; cases h1; exact hx.elim
 | raw k=>obtain⟨b',c,n,h1,h2⟩:=h; rw[hp]at h1; cases h1; cases hx; rw[h2]; simp
 | rowh T T' t l i0=>
  obtain⟨b',c,f,h1,h2⟩:=h;rw[hp]at h1; cases h1;rcases hx with rfl | ⟨i,p,hi,hf,rfl⟩
  ·obtain⟨xs,g1,_⟩:=h2.ex; rw[g1]; simp
  ·have:=h2.ir i hi;rw[hf]at this;obtain⟨_,_,ys,g3,_⟩:=this;rw[g3]; simp
 | hdl p=>obtain⟨b',c,n,f,h1,_⟩:=h; rw[hp]at h1; cases h1; exact hx.elim
theorem RelS.lt (hS:RelS π Fr S s'){b:Nat}{l:Loc}(h:π b=some l):b≠S.nx:=fun e=>by
 rw[hS.nx b (by omega)]at h; cases h
theorem bY (hS:RelS π Fr S s')(L:Loc){o:DObj}(hs:∀ b o l x,S.get b=some o→π b=some l→l.has x→s1 x=s' x∧¬ L.has x)(hF:∀ x y,Fr x=some y→s1 x=some y)(hL:∀ x,L.has x→Fr x=none)
  (hO:ObR (addP π S.nx L) s1 S.nx o):RelS (addP π S.nx L) Fr (S.new o) s1:=by
 have hx:Ext π (addP π S.nx L):=aW (hS.nx _ (Nat.le_refl _)) _;refine⟨fun b2 o2 h=>?_,fun b1 b2 o1 o2 l1 l2 x h1 h2 p1 p2 q1 q2=>?_,hF,fun b2 o2 l2 x h p q=>?_,fun b2 h=>?_⟩
 ·rw[DSt.get_new]at h;split at h
  ·rename_i e; subst e; cases h; exact hO
  ·exact(hS.obj _ _ h).mono hx fun l x hp hh=>(hs _ _ _ _ h hp hh).1
 ·rw[DSt.get_new]at h1 h2;split at h1 <;> split at h2
  ·rename_i e1 e2; rw[e1,e2]
  ·rename_i e1 e2;rw[e1,addP_same]at p1; cases p1;rw[addP_ne _ _ e2]at p2;exact absurd q1 (hs _ _ _ _ h2 p2 q2).2
  ·rename_i e1 e2;rw[e2,addP_same]at p2; cases p2;rw[addP_ne _ _ e1]at p1;exact absurd q2 (hs _ _ _ _ h1 p1 q1).2
  ·rename_i e1 e2;rw[addP_ne _ _ e1]at p1;rw[addP_ne _ _ e2]at p2;exact hS.inj' _ _ _ _ _ _ _ h1 h2 p1 p2 q1 q2
 ·rw[DSt.get_new]at h;split at h
  ·rename_i e;rw[e,addP_same]at p; cases p;exact hL _ q
  ·rename_i e;rw[addP_ne _ _ e]at p;exact hS.out' _ _ _ _ h p q
 ·have h':S.nx+1≤b2:=h;rw[addP_ne _ _ (by omega)]; exact hS.nx _ (by omega)
theorem RelS.free (hS:RelS π Fr S s'){b':Nat}(hb:s' b'=none):Fr b'=none:=by
 cases hf:Fr b' with
 | none=>rfl
 | some y=>rw[hS.frm _ _ hf]at hb; cases hb
theorem bZ (hS:RelS π Fr S s'){b' c n:Nat}(hb:s' b'=none)(x:AObj){o:DObj}(hO:ObR (addP π S.nx (.real b' c n)) (upd s' b' x) S.nx o):
  RelS (addP π S.nx (.real b' c n)) Fr (S.new o) (upd s' b' x):=
 bY hS _ (fun b o l y h hp hh=>by
  have ne:y≠b':=fun e=>by subst e; exact(hS.obj _ _ h).some'' hp hh hb
  exact⟨ay _ _ ne,fun e=>ne e⟩) (fun y z h=>by
  have ne:y≠b':=fun e=>by subst e; rw[hS.frm _ _ h]at hb; cases hb
  rw[ay _ _ ne]; exact hS.frm _ _ h) (fun y e=>by cases e; exact hS.free hb) hO
theorem jS (hS:RelS π Fr S s')(T:Nat)(t:Ty):RelS (addP π S.nx .virt) Fr (S.new (.row T t [])) s':=
 bY hS _ (fun _ _ _ _ _ _ _=>⟨rfl,fun h=>h⟩) hS.frm (fun _ h=>h.elim) (.inl ⟨addP_same _ _ _,rfl⟩)
theorem fo (hS:RelS π Fr S s'){b b':Nat}{l:Loc}{o0:DObj}(h0:S.get b=some o0)(hp:π b=some l)(hh:l.has b')(x:AObj){o:DObj}(hO:ObR π (upd s' b' x) b o):RelS π Fr (S.set b o) (upd s' b' x):=by
 have live:∀ b2 o2,(S.set b o).get b2=some o2→∃ o3,S.get b2=some o3:=fun b2 o2 h=>by
  rw[DSt.get_set]at h;split at h
  ·rename_i e; subst e; exact⟨_,h0⟩
  ·exact⟨_,h⟩
 refine⟨fun b2 o2 h=>?_,fun b1 b2 o1 o2 l1 l2 y h1 h2 p1 p2 q1 q2=>?_,fun b3 y h=>?_,fun b2 o2 l2 y h p q=>?_,fun b2 h=>hS.nx _ h⟩
 ·rw[DSt.get_set]at h;split at h
  ·rename_i e; subst e; cases h; exact hO
  ·rename_i e;refine(hS.obj _ _ h).mono (Ext.refl _) fun l3 y hp3 hh3=>ay _ _ fun e3=>e ?_;subst e3;exact hS.inj' _ _ _ _ _ _ _ h h0 hp3 hp hh3 hh
 ·obtain⟨o3,h3⟩:=live _ _ h1;obtain⟨o4,h4⟩:=live _ _ h2;exact hS.inj' _ _ _ _ _ _ _ h3 h4 p1 p2 q1 q2
 ·have e:b3≠b':=fun e=>by rw[e,hS.out' _ _ _ _ h0 hp hh]at h; cases h
  rw[ay _ _ e]; exact hS.frm _ _ h
 ·obtain⟨o3,h3⟩:=live _ _ h;exact hS.out' _ _ _ _ h3 p q
theorem cA (hS:RelS π Fr S s'){b b' c n:Nat}{o0:DObj}(h0:S.get b=some o0)(hp:π b=some (.real b' c n))(x:AObj){o:DObj}(hO:ObR π (upd s' b' x) b o):RelS π Fr (S.set b o) (upd s' b' x):=
 fo hS h0 hp rfl x hO
theorem bi (hS:RelS π Fr S s')(b:Nat):RelS π Fr (S.del b) s':=by
 have live:∀ b2 o2,(S.del b).get b2=some o2→S.get b2=some o2:=fun b2 o2 h=>by
  rw[DSt.get_del]at h;split at h
  ·cases h
  ·exact h
 exact⟨fun b2 o2 h=>hS.obj _ _ (live _ _ h),fun b1 b2 o1 o2 l1 l2 x h1 h2 p1 p2 q1 q2=>hS.inj' _ _ _ _ _ _ _ (live _ _ h1) (live _ _ h2) p1 p2 q1 q2,hS.frm,fun b2 o2 l x h p q=>hS.out' _ _ _ _ (live _ _ h) p q,hS.nx⟩
theorem nh (hS:RelS π Fr S s'){b b':Nat}{l:Loc}{o0:DObj}(h0:S.get b=some o0)(hp:π b=some l)(hh:l.has b'):RelS π Fr (S.del b) (del s' b'):=by
 have hd:=bi hS b;refine⟨fun b2 o2 h=>?_,hd.inj',fun b3 y h=>?_,hd.out',hd.nx⟩
 ·refine(hd.obj _ _ h).mono (Ext.refl _) fun l3 y hp3 hh3=>?_;have e:y≠b':=fun e=>by
   subst e;rw[DSt.get_del]at h;split at h
   ·cases h
   ·rename_i e; exact e (hS.inj' _ _ _ _ _ _ _ h h0 hp3 hp hh3 hh)
  unfold del; rw[if_neg e]
 ·have e:b3≠b':=fun e=>by rw[e,hS.out' _ _ _ _ h0 hp hh]at h; cases h
  unfold del; rw[if_neg e]; exact hS.frm _ _ h
theorem jT (hS:RelS π Fr S s'){b b' c n:Nat}{o0:DObj}(h0:S.get b=some o0)(hp:π b=some (.real b' c n)):RelS π Fr (S.del b) (del s' b'):=nh hS h0 hp rfl
theorem RelS.tick' (hS:RelS π Fr S s')(y:Int):RelS (addP π S.nx (.tok y)) Fr S.tick s':=by
 have hx:Ext π (addP π S.nx (.tok y)):=aW (hS.nx _ (Nat.le_refl _)) _;refine⟨fun b2 o2 h=>(hS.obj _ _ h).mono hx fun _ _ _ _=>rfl,fun b1 b2 o1 o2 l1 l2 x h1 h2 p1 p2 q1 q2=>?_,hS.frm,fun b2 o2 l x h p q=>?_,fun b2 h=>?_⟩
 ·have e1:b1≠S.nx:=fun e=>by rw[e,addP_same]at p1; cases p1; exact q1
  have e2:b2≠S.nx:=fun e=>by rw[e,addP_same]at p2; cases p2; exact q2
  rw[addP_ne _ _ e1]at p1;rw[addP_ne _ _ e2]at p2;exact hS.inj' _ _ _ _ _ _ _ h1 h2 p1 p2 q1 q2
 ·have e1:b2≠S.nx:=fun e=>by rw[e,addP_same]at p; cases p; exact q
  rw[addP_ne _ _ e1]at p;exact hS.out' _ _ _ _ h p q
 ·have h':S.nx+1≤b2:=h;rw[addP_ne _ _ (by omega)]; exact hS.nx _ (by omega)
theorem jk {α:Type}(l:List α)(i j:Nat)(x d:α)(hi:i < l.length):(l.set i x).getD j d=if i=j then x else l.getD j d:=by
 by_cases e:i=j
 ·subst e; simp[List.getD_eq_getElem?_getD,hi]
 ·simp[List.getD_eq_getElem?_getD,List.getElem?_set,e]
theorem RowsR.set {T T':Nat}{t:Ty}{l:List (List t.den)}{b c:Nat}{f:Nat→Option (Nat×Nat×Nat)}(h:RowsR s' T T' t l b c f){i b2 c2 n2:Nat}(hi:i < l.length)(hf:f i=some (b2,c2,n2)){li:List t.den}{ys:List (List AV)}(hy:kP t li ys)(hl:n2=li.length):
  RowsR (upd s' b2 (.row T' t.w c2 ys)) T T' t (l.set i li) b c f:=by
 refine⟨by rw[List.length_set]; exact h.cap,?_,fun j hj=>?_,fun j p hj hp=>h.ne j p (by rwa [List.length_set]at hj) hp,fun j k p q hj hk hp hq=>h.dj j k p q (by rwa [List.length_set]at hj) (by rwa [List.length_set]at hk) hp hq⟩
 ·obtain⟨xs,g1,g2,g3⟩:=h.ex;exact⟨xs,by rw[ay _ _ (Ne.symm (h.ne i _ hi hf))]; exact g1,by rw[List.length_set]; exact g2,fun j hj=>g3 j (by rwa [List.length_set]at hj)⟩
 ·rw[List.length_set]at hj;rw[jk _ _ _ _ _ hi];have hI:=h.ir i hi;rw[hf]at hI;by_cases e:i=j
  ·subst e;rw[if_pos rfl,hf];exact⟨hl,hI.2.1,ys,upd_same _ _ _,hy⟩
  ·rw[if_neg e];have hJ:=h.ir j hj;cases hfj:f j with
   | none=>rw[hfj]at hJ; exact hJ
   | some q=>
    obtain⟨b3,c3,n3⟩:=q;rw[hfj]at hJ;obtain⟨g1,g2,zs,g3,g4⟩:=hJ;refine⟨g1,g2,zs,?_,g4⟩;rw[ay _ _ fun e2=>e (h.dj i j _ _ hi hj hf hfj e2.symm)];exact g3
theorem aQ {α:Type}(k k':Int)(x:α)(l:List (Int×α)):aZ ((k',x)::l) k=if k'=k then some x else aZ l k:=by
 by_cases e:k'=k <;> simp[aZ,e]
theorem po {α:Type}:∀ (l:List (Int×α)) (k k':Int) (x:α),aZ (jf l k x) k'=if k=k' then some x else aZ l k'
 | [],k,k',x=>by simp only[jf,aQ]
 | (k0,y)::l,k,k',x=>by
  simp only[jf];by_cases e:k0=k
  ·subst e;rw[if_pos rfl,aQ,aQ];by_cases e2:k0=k' <;> simp[e2]
  ·rw[if_neg e,aQ,po l k k' x,aQ];by_cases e2:k0=k'
   ·subst e2; rw[if_pos rfl,if_pos rfl,if_neg (Ne.symm e)]
   ·rw[if_neg e2,if_neg e2]
theorem ni {α:Type}:∀ (l:List (Int×α)) (k:Int) (x:α),(aZ l k).isSome=true→(jf l k x).map (·.1)=l.map (·.1)
 | [],k,x,h=>by simp[aZ]at h
 | (k0,y)::l,k,x,h=>by
  simp only[jf];by_cases e:k0=k
  ·subst e; rw[if_pos rfl]; rfl
  ·rw[if_neg e];rw[aQ,if_neg e]at h;simp only[List.map_cons,ni l k x h]
theorem dV {α β:Type}:∀ {l:List (Int×α)} {m:List (Int×β)} (k:Int),l.map (·.1)=m.map (·.1)→(aZ l k).isSome=(aZ m k).isSome
 | [],[],k,_=>rfl
 | (a,x)::l,(b,y)::m,k,h=>by
  simp only[List.map_cons,List.cons.injEq]at h;obtain⟨rfl,h⟩:=h;rw[aQ,aQ];by_cases e:a=k
  ·simp[e]
  ·rw[if_neg e,if_neg e]; exact dV k h
 | [],_::_,_,h=>by simp at h
 | _::_,[],_,h=>by simp at h
theorem fp {α:Type}:∀ (l m:List (Int×α)) (k:Int),aZ (l++m) k=if(aZ l k).isSome then aZ l k else aZ m k
 | [],m,k=>by simp[aZ]
 | (a,x)::l,m,k=>by
  rw[List.cons_append,aQ,aQ];by_cases e:a=k
  ·simp[e]
  ·rw[if_neg e,if_neg e]; exact fp l m k
theorem nj {α:Type}:∀ {l:List (Int×α)} {k:Int},aZ l k=none→k∉l.map (·.1)
 | [],k,_=>by simp
 | (a,x)::l,k,h=>by
  rw[aQ]at h;by_cases e:a=k
  ·rw[if_pos e]at h; cases h
  ·rw[if_neg e]at h;have:=nj h;rw[List.map_cons,List.mem_cons];rintro(h | h)
   ·exact e h.symm
   ·exact this h
theorem l6 {α:Type}:∀ {l:List (Int×α)} {k:Int} {x:α},(l.map (·.1)).Nodup→(k,x)∈l→aZ l k=some x
 | (a,y)::l,k,x,hn,h=>by
  rw[List.map_cons,List.nodup_cons]at hn;rw[aQ];rcases List.mem_cons.1 h with e | h
  ·cases e; rw[if_pos rfl]
  ·rw[if_neg fun e=>hn.1 (by rw[show a=k from e]; exact List.mem_map.2 ⟨_,h,rfl⟩)];exact l6 hn.2 h
theorem PoolR.set {t:Ty}{es:List (Int×t.den)}{g:List (Int×Nat)}(h:PoolR s' t es g){key:Int}{x:Nat}(hg:aZ g key=some x){v:t.den}{as:List AV}(hc:CR t v as):PoolR (upd s' x (.box as)) t (jf es key v) g:=by
 have hk:(aZ es key).isSome=true:=by rw[dV key h.keys,hg]; rfl
 refine⟨(ni _ _ _ hk).trans h.keys,h.nd,fun k y hy=>?_,h.dj⟩;rw[po];by_cases e:key=k
 ·subst e;rw[hg]at hy; cases hy;rw[if_pos rfl];exact⟨as,upd_same _ _ _,hc⟩
 ·rw[if_neg e];obtain⟨bs,g1,g2⟩:=h.ex k y hy;refine⟨bs,?_,g2⟩;rw[ay _ _ fun e2=>e (h.dj key k x hg (by rw[← e2]; exact hy))];exact g1
theorem HR.mono (h:HR π S RD R){S1:DSt}(hx:Ext π π1)(hl:∀ b,RD.any (Nat.beq b)=true→∃ o,S1.get b=some o):HR π1 S1 RD R:=by
 refine⟨fun b hb=>?_,fun b b' c n hb hp=>?_,fun b' hR=>?_⟩
 ·obtain⟨_,_,l,hp⟩:=h.live b hb;obtain⟨o,ho⟩:=hl b hb;exact⟨o,ho,l,hx _ _ hp⟩
 ·obtain⟨_,_,l,hl⟩:=h.live b hb;have:=hx _ _ hl;rw[hp]at this; cases this;exact h.to b b' c n hb hl
 ·obtain⟨b,l,h1,h2,h3⟩:=h.of b' hR;exact⟨b,l,h1,hx _ _ h2,h3⟩
theorem HR.new (h:HR π S RD R)(hx:Ext π π1)(o:DObj):HR π1 (S.new o) RD R:=h.mono hx fun b hb=>by
 obtain⟨o2,ho2,_⟩:=h.live b hb;rw[DSt.get_new];split
 ·exact⟨_,rfl⟩
 ·exact⟨_,ho2⟩
theorem HR.set (h:HR π S RD R)(b0:Nat)(o:DObj):HR π (S.set b0 o) RD R:=h.mono (Ext.refl _) fun b hb=>by
 obtain⟨o2,ho2,_⟩:=h.live b hb;rw[DSt.get_set];split
 ·exact⟨_,rfl⟩
 ·exact⟨_,ho2⟩
theorem HR.del (h:HR π S RD R){b0:Nat}(hn:aC RD b0=true):HR π (S.del b0) RD R:=h.mono (Ext.refl _) fun b hb=>by
 obtain⟨o2,ho2,_⟩:=h.live b hb;rw[DSt.get_del,if_neg fun e=>by subst e; simp[aC,hb]at hn];exact⟨_,ho2⟩
theorem lh {t:Ty}{l:List t.den}{xs:List (List AV)}(h:kP t l xs){i:Nat}(hi:i < l.length){x:t.den}{c:List AV}(hc:CR t x c):kP t (l.set i x) (xs.set i c):=by
 refine⟨by simp[h.1],fun j hj=>?_⟩;have hj':j < l.length:=by simpa using hj
 have hj2:j < xs.length:=by rw[h.1]; exact hj'
 by_cases e:i=j
 ·subst e
  simpa [at0,List.getD_eq_getElem?_getD,List.getElem?_set,hj',hj2]using hc
 ·have:=h.2 j hj'
  simpa [at0,List.getD_eq_getElem?_getD,List.getElem?_set,e]using this
theorem xq {t:Ty}{l:List t.den}{get:Nat→List AV}(h:∀ i,i < l.length→CR t (at0 t l i) (get i)):kP t l ((List.range l.length).map get):=by
 refine⟨by simp,fun i hi=>?_⟩
 simpa [List.getD_eq_getElem?_getD,hi]using h i hi
theorem jl {t:Ty}{z:List AV}(h:CR t t.zero z)(n:Nat):kP t (dF n t.zero) (List.replicate n z):=by
 refine⟨by simp[dF],fun i hi=>?_⟩;have hi':i < n:=by simpa [dF]using hi
 simpa [dF,at0,List.getD_eq_getElem?_getD,List.getElem?_replicate,hi']using h
theorem rM {t:Ty}{l:List t.den}{xs:List (List AV)}(h:kP t l xs){p m:Nat}(hle:p+m≤l.length):kP t ((l.drop p).take m) ((xs.drop p).take m):=by
 refine⟨by simp[h.1],fun i hi=>?_⟩;simp only[List.length_take,List.length_drop]at hi;have:=h.2 (p+i) (by omega);have e1:at0 t ((l.drop p).take m) i=at0 t l (p+i):=by
  simp only[at0,List.getD_eq_getElem?_getD,List.getElem?_take,List.getElem?_drop]; rw[if_pos (by omega)]
 have e2:((xs.drop p).take m).getD i []=xs.getD (p+i) []:=by
  simp only[List.getD_eq_getElem?_getD,List.getElem?_take,List.getElem?_drop]; rw[if_pos (by omega)]
 rw[e1,e2]; exact this
theorem de (hS:RelS π Fr S s'){t:Ty}{d:DV}{ys:List t.den}{a:AV}(h:lU S t d=some ys)(r:RelV π d a):∃ xs,kP t ys xs∧∀ K:List (List AV)→Prop,K xs→elems t.w s' a K:=by
 unfold lU oa at h;split at h
 ·rename_i t' y;split at h
  ·rename_i he; subst he; cases h;simp only[RelV,CR]at r;rcases r with⟨e,rfl⟩ | ⟨get,e,v⟩
   ·simp only[List.cons.injEq,and_true]at e; subst e;exact⟨[],jj t,fun K hk=>hk⟩
   ·simp only[List.cons.injEq,and_true]at e; subst e;exact⟨_,xq v,fun K hk=>⟨rfl,hk⟩⟩
  ·cases h
 ·cases h;simp only[RelV]at r; subst r;exact⟨[],jj t,fun K hk=>hk⟩
 ·rename_i b;simp only at h;split at h
  ·rename_i T t' l hb;split at h
   ·rename_i he; subst he; cases h;simp only[RelV]at r;rcases hS.obj _ _ hb with⟨g1,rfl⟩ | ⟨b2,c2,xs,hp2,hcap,hs,hr⟩
    ·rcases r with⟨b',c,m,hp,rfl⟩ | ⟨hp,rfl⟩
     ·rw[g1]at hp; cases hp
     ·exact⟨[],jj _,fun K hk=>hk⟩
    ·rcases r with⟨b',c,m,hp,rfl⟩ | ⟨hp,_⟩
     ·rw[hp2]at hp; cases hp;refine⟨xs,hr,fun K hk=>?_⟩;simp only[elems,hs];exact⟨trivial,trivial,hr.1.symm,hk⟩
     ·rw[hp2]at hp; cases hp
   ·cases h
  ·cases h
 ·rename_i b k p m;simp only at h;split at h
  ·rename_i T t' l hb;split at h
   ·rename_i he; subst he;cases hc:Nat.beq k t'.w with
    | false=>rw[hc]at h; cases h
    | true=>
     rw[hc]at h; cases h;obtain rfl:=aj.1 hc;simp only[RelV]at r;obtain⟨b',c,N,hp,hle,rfl⟩:=r;rcases hS.obj _ _ hb with⟨g1,rfl⟩ | ⟨b2,c2,xs,hp2,hcap,hs,hr⟩
     ·rw[g1]at hp; cases hp
     ·rw[hp2]at hp; cases hp;refine⟨(xs.drop p).take m,rM hr hle,fun K hk=>?_⟩;simp only[elems,hs];exact⟨trivial,trivial,by rw[hr.1]; exact hle,hk⟩
   ·cases h
  ·cases h
 ·rename_i b i;simp only at h;split at h
  ·rename_i T T' t' l hb;split at h
   ·rename_i he; subst he; cases h;simp only[RelV]at r;obtain⟨b',c,n,f,hp,hi,rfl⟩:=r;rcases hS.obj _ _ hb with⟨g1,_⟩ | ⟨b2,c2,f2,hp2,hR⟩
    ·rw[g1]at hp; cases hp
    ·rw[hp2]at hp; cases hp;have hI:=hR.ir i hi;cases hf:f i with
     | none=>
      rw[hf]at hI;rw[show l.getD i []=[]from hI];exact⟨[],jj _,fun K hk=>hk⟩
     | some q=>
      obtain⟨b3,c3,n3⟩:=q;rw[hf]at hI;obtain⟨hn,hc3,ys,hs,hy⟩:=hI;refine⟨ys,hy,fun K hk=>?_⟩;simp only[elems,ilv,hs];exact⟨trivial,trivial,by rw[hn]; exact hy.1.symm,hk⟩
   ·cases h
  ·cases h
 ·cases h
theorem iq {t:Ty}:∀ {n:Nat} {cs:List DV} {l:List t.den} {as:List AV},jg t n cs=some l→RelVs π cs as→l.length=n∧as.length=n*t.w∧∀ i,i < n→CR t (at0 t l i) ((as.drop (i*t.w)).take t.w)
 | 0,[],l,as,h,r=>by
  simp only[RelVs]at r; subst r;cases h;exact⟨rfl,by simp,fun i hi=>by omega⟩
 | 0,_::_,l,as,h,r=>by simp[jg]at h
 | n+1,cs,l,as,h,r=>by
  simp only[jg]at h;split at h
  ·rename_i x rest hx;split at h
   ·rename_i l' hl;cases h;obtain⟨c,as',rfl,g,r'⟩:=jR hx r;obtain⟨h1,h2,h3⟩:=iq hl r';have hc:=dt g;refine⟨by simp[h1],by rw[List.length_append,hc,h2,Nat.add_mul]; omega,fun i hi=>?_⟩;cases i with
    | zero=>
     have:(c++as').take t.w=c:=by rw[← hc]; simp
     simpa [at0,this]using g
    | succ i=>
     have e:(c++as').drop ((i+1)*t.w)=as'.drop (i*t.w):=by
      rw[List.drop_append,hc,List.drop_eq_nil_of_le (by rw[hc,Nat.add_mul]; omega),List.nil_append];congr 1;rw[Nat.add_mul]; omega
     rw[e];have:=h3 i (by omega)
     simpa [at0]using this
   ·cases h
  ·cases h
theorem fq {t:Ty}{l:List t.den}{xs:List (List AV)}(h:kP t l xs)(n:Nat):kP t (l.take n) (xs.take n):=by
 refine⟨by simp[h.1],fun i hi=>?_⟩;simp only[List.length_take]at hi;have:=h.2 i (by omega);have e1:at0 t (l.take n) i=at0 t l i:=by
  simp only[at0,List.getD_eq_getElem?_getD,List.getElem?_take]; rw[if_pos (by omega)]
 have e2:(xs.take n).getD i []=xs.getD i []:=by
  simp only[List.getD_eq_getElem?_getD,List.getElem?_take]; rw[if_pos (by omega)]
 rw[e1,e2]; exact this
theorem l7 {t:Ty}{l:List t.den}{xs:List (List AV)}(h:kP t l xs)(n:Nat):kP t (l.drop n) (xs.drop n):=by
 refine⟨by simp[h.1],fun i hi=>?_⟩;simp only[List.length_drop]at hi;have:=h.2 (n+i) (by omega);have e1:at0 t (l.drop n) i=at0 t l (n+i):=by simp[at0,List.getD_eq_getElem?_getD,List.getElem?_drop]
 have e2:(xs.drop n).getD i []=xs.getD (n+i) []:=by simp[List.getD_eq_getElem?_getD,List.getElem?_drop]
 rw[e1,e2]; exact this
structure RC (s':Store) (T':Nat) (t:Ty) (l:List (List t.den)) (xs:List (List AV)) (f:Nat→Option (Nat×Nat×Nat)):Prop where
 len:xs.length=l.length
 at_:∀ i,i < l.length→xs.getD i []=[ilv (f i)]
 ir:∀ i,i < l.length→IR s' T' t (f i) (l.getD i [])
 dj:∀ i j p q,i < l.length→j < l.length→f i=some p→f j=some q→p.1=q.1→i=j
theorem xt {T':Nat}{t:Ty}{p:Nat×Nat×Nat}{l:List t.den}(h:IR s' T' t (some p) l):s' p.1≠none:=by
 obtain⟨b2,c2,n2⟩:=p;obtain⟨_,_,ys,h,_⟩:=h;rw[h]; simp
theorem IR.mono {T':Nat}{t:Ty}{o:Option (Nat×Nat×Nat)}{l:List t.den}(h:IR s' T' t o l)(hs:∀ p,o=some p→s1 p.1=s' p.1):IR s1 T' t o l:=by
 cases o with
 | none=>exact h
 | some p=>
  obtain⟨b2,c2,n2⟩:=p;obtain⟨g1,g2,ys,g3,g4⟩:=h;exact⟨g1,g2,ys,(hs _ rfl).trans g3,g4⟩
theorem RC.mono {T':Nat}{t:Ty}{l:List (List t.den)}{xs:List (List AV)}{f:Nat→Option (Nat×Nat×Nat)}(h:RC s' T' t l xs f)(hs:∀ i p,i < l.length→f i=some p→s1 p.1=s' p.1):RC s1 T' t l xs f:=
 ⟨h.len,h.at_,fun i hi=>(h.ir i hi).mono fun p hp=>hs i p hi hp,h.dj⟩
theorem RC.app {T':Nat}{t:Ty}{l m:List (List t.den)}{xs ys:List (List AV)}{f g:Nat→Option (Nat×Nat×Nat)}(h:RC s' T' t l xs f)(k:RC s' T' t m ys g)(hd:∀ i j p q,i < l.length→j < m.length→f i=some p→g j=some q→p.1≠q.1):
  RC s' T' t (l++m) (xs++ys) (fun i=>if i < l.length then f i else g (i-l.length)):=by
 refine⟨by rw[List.length_append,List.length_append,h.len,k.len],fun i hi=>?_,fun i hi=>?_,fun i j p q hi hj hp hq e=>?_⟩
 ·rw[List.length_append]at hi;by_cases hl:i < l.length
  ·have:=h.at_ i hl;have hl':i < xs.length:=by rw[h.len]; exact hl
   simp only[if_pos hl];rw[← this]
   simp[List.getD_eq_getElem?_getD,List.getElem?_append,hl']
  ·have:=k.at_ (i-l.length) (by omega);have hl':¬ i < xs.length:=by rw[h.len]; exact hl
   simp only[if_neg hl];rw[← this]
   simp[List.getD_eq_getElem?_getD,List.getElem?_append,hl,h.len]
 ·rw[List.length_append]at hi;by_cases hl:i < l.length
  ·have:=h.ir i hl;simp only[if_pos hl];have e:(l++m).getD i []=l.getD i []:=by simp[List.getD_eq_getElem?_getD,List.getElem?_append,hl]
   rw[e]; exact this
  ·have:=k.ir (i-l.length) (by omega);simp only[if_neg hl];have e:(l++m).getD i []=m.getD (i-l.length) []:=by simp[List.getD_eq_getElem?_getD,List.getElem?_append,hl]
   rw[e]; exact this
 ·rw[List.length_append]at hi hj;by_cases h1:i < l.length <;> by_cases h2:j < l.length
  ·simp only[if_pos h1]at hp; simp only[if_pos h2]at hq; exact h.dj i j p q h1 h2 hp hq e
  ·simp only[if_pos h1]at hp; simp only[if_neg h2]at hq; exact absurd e (hd i _ p q h1 (by omega) hp hq)
  ·simp only[if_neg h1]at hp; simp only[if_pos h2]at hq; exact absurd e.symm (hd j _ q p h2 (by omega) hq hp)
  ·simp only[if_neg h1]at hp; simp only[if_neg h2]at hq;have:=k.dj _ _ p q (by omega) (by omega) hp hq e;omega
theorem dS {s0:Store}{S0:DSt}(hS:RelS π Fr S0 s0){bn c T T':Nat}{t:Ty}{l:List (List t.den)}{xs:List (List AV)}{f:Nat→Option (Nat×Nat×Nat)}(hb:s0 bn=none)(hR:RC s0 T' t l xs f)(hc:l.length≤c)
  (hi:∀ i p,i < l.length→f i=some p→Fr p.1=none∧∀ b o lc,S0.get b=some o→π b=some lc→¬ lc.has p.1) :
  RelS (addP π S0.nx (.rls bn c l.length f)) Fr (S0.new (.rows T T' t l)) (upd s0 bn (.row T 1 c xs)):=by
 have nin:∀ i p,i < l.length→f i=some p→p.1≠bn:=fun i p h1 h2 e=>by
  have:=hR.ir i h1;rw[h2]at this;exact xt this (by rw[e]; exact hb)
 refine bY hS _ (fun b o lc x h hp hh=>?_) (fun x y h=>?_) (fun x h=>?_) (.inr ⟨bn,c,f,addP_same _ _ _,hc,⟨xs,upd_same _ _ _,hR.len,hR.at_⟩,fun i h1=>(hR.ir i h1).mono fun p hp=>ay _ _ (nin i p h1 hp),nin,hR.dj⟩)
 ·have ne:x≠bn:=fun e=>by subst e; exact(hS.obj _ _ h).some'' hp hh hb
  refine⟨ay _ _ ne,?_⟩;rintro(e | ⟨i,p,h1,h2,rfl⟩)
  ·exact ne e
  ·exact(hi i p h1 h2).2 b o lc h hp hh
 ·have ne:x≠bn:=fun e=>by subst e; rw[hS.frm _ _ h]at hb; cases hb
  rw[ay _ _ ne]; exact hS.frm _ _ h
 ·rcases h with rfl | ⟨i,p,h1,h2,rfl⟩
  ·exact hS.free hb
  ·exact(hi i p h1 h2).1
theorem qH (hS:RelS π Fr S s')(T T':Nat)(t:Ty):RelS (addP π S.nx .virt) Fr (S.new (.rows T T' t [])) s':=
 bY hS _ (fun _ _ _ _ _ _ _=>⟨rfl,fun h=>h⟩) hS.frm (fun _ h=>h.elim) (.inl ⟨addP_same _ _ _,rfl⟩)
theorem vz (hS:RelS π Fr S s'){r T':Nat}{t:Ty}{l:List t.den}(hb:S.get r=some (.row T' t l)){a:AV}(hv:RelV π (.slc r) a):
  ∃ f0,a=ilv f0∧IR s' T' t f0 l∧∀ p,f0=some p→∃ lc,π r=some lc∧lc.has p.1:=by
 simp only[RelV]at hv;rcases hS.obj _ _ hb with⟨g1,rfl⟩ | ⟨b2,c2,xs,hp2,hcap,hs,hr⟩
 ·rcases hv with⟨b',c,m,hp,rfl⟩ | ⟨hp,rfl⟩
  ·rw[g1]at hp; cases hp
  ·exact⟨none,rfl,rfl,fun p h=>by cases h⟩
 ·rcases hv with⟨b',c,m,hp,rfl⟩ | ⟨hp,_⟩
  ·rw[hp2]at hp; cases hp;exact⟨some (b2,c2,l.length),rfl,⟨rfl,hcap,xs,hs,hr⟩,fun p h=>by cases h; exact⟨_,hp2,rfl⟩⟩
  ·rw[hp2]at hp; cases hp
theorem ov (hS:RelS π Fr S s'){b T T':Nat}{t:Ty}{l:List (List t.den)}(hb:S.get b=some (.rows T T' t l)){a:AV}(hv:RelV π (.slr b) a):
  ∃ xs f,RC s' T' t l xs f∧(∀ K:List (List AV)→Prop,K xs→elems 1 s' a K)∧(∀ i p,i < l.length→f i=some p→∃ lc,π b=some lc∧lc.has p.1) ∧
   ((a = .emp∧l=[])∨∃ b' c,a = .slc b' l.length c∧π b=some (.rls b' c l.length f)∧s' b'=some (.row T 1 c xs)∧∀ i p,i < l.length→f i=some p→p.1≠b'):=by
 simp only[RelV]at hv;rcases hS.obj _ _ hb with⟨g1,rfl⟩ | ⟨b2,c2,f,hp2,hR⟩
 ·rcases hv with⟨b',c,m,f,hp,rfl⟩ | ⟨hp,rfl⟩
  ·rw[g1]at hp; cases hp
  ·exact⟨[],fun _=>none,⟨rfl,fun i hi=>by simp at hi,fun i hi=>by simp at hi,fun i j p q hi=>by simp at hi⟩,fun K hk=>hk,fun i p hi=>by simp at hi,.inl ⟨rfl,rfl⟩⟩
 ·rcases hv with⟨b',c,m,f',hp,rfl⟩ | ⟨hp,_⟩
  ·rw[hp2]at hp; cases hp;obtain⟨xs,h1,h2,h3⟩:=hR.ex;refine⟨xs,f,⟨h2,h3,hR.ir,hR.dj⟩,fun K hk=>?_,fun i p hi hf=>⟨_,hp2,.inr ⟨i,p,hi,hf,rfl⟩⟩,.inr ⟨b2,c2,rfl,hp2,h1,hR.ne⟩⟩;simp only[elems,h1];exact⟨trivial,trivial,h2.symm,hk⟩
  ·rw[hp2]at hp; cases hp
theorem nk (hS:RelS π Fr S s'){b:Nat}{o0 o:DObj}(h0:S.get b=some o0)(hO:ObR π s' b o):RelS π Fr (S.set b o) s':=by
 have live:∀ b2 o2,(S.set b o).get b2=some o2→∃ o3,S.get b2=some o3:=fun b2 o2 h=>by
  rw[DSt.get_set]at h;split at h
  ·rename_i e; subst e; exact⟨_,h0⟩
  ·exact⟨_,h⟩
 refine⟨fun b2 o2 h=>?_,fun b1 b2 o1 o2 l1 l2 y h1 h2 p1 p2 q1 q2=>?_,hS.frm,fun b2 o2 l2 y h p q=>?_,fun b2 h=>hS.nx _ h⟩
 ·rw[DSt.get_set]at h;split at h
  ·rename_i e; subst e; cases h; exact hO
  ·exact hS.obj _ _ h
 ·obtain⟨o3,h3⟩:=live _ _ h1;obtain⟨o4,h4⟩:=live _ _ h2;exact hS.inj' _ _ _ _ _ _ _ h3 h4 p1 p2 q1 q2
 ·obtain⟨o3,h3⟩:=live _ _ h;exact hS.out' _ _ _ _ h3 p q
theorem vA {T':Nat}{t:Ty}:IR s' T' t none []:=rfl
theorem qI (hS:RelS π Fr S s')(hH:HR π S RD R){p i:Nat}{S1:DSt}(h:vj RD S p i=some S1){a:AV}(hv:RelV π (.irow p i) a):
  ∃ π1,Ext π π1∧RelS π1 Fr S1 s'∧HR π1 S1 RD R∧RelV π1 (.slc (S.nx+1)) a∧S1.nx=S.nx+2:=by
 unfold vj at h;split at h
 ·rename_i T0 T' t l b hp hh;split at h
  ·rename_i q hb;cases hc:(Nat.beq q p&&aC RD p)with
   | false=>rw[hc]at h; cases h
   | true=>
    rw[hc]at h; cases h;simp only[Bool.and_eq_true,aj]at hc;obtain⟨rfl,hnp⟩:=hc;simp only[RelV]at hv;obtain⟨b',c,n,f,hpi,hi,rfl⟩:=hv;rcases hS.obj _ _ hp with⟨g1,_⟩ | ⟨b2,c2,f2,hp2,hR⟩
    ·rw[g1]at hpi; cases hpi
    ·rw[hp2]at hpi; cases hpi;obtain⟨bb,cb,nb,fb,hb1,hb2⟩:=hS.obj _ _ hb;rw[hp2]at hb2; cases hb2;have hbq:b≠q:=fun e=>by subst e; rw[hb1]at hp2; cases hp2
     let f1:Nat→Option (Nat×Nat×Nat):=fun j=>if j=i then none else f j
     have f1le:∀ j p,f1 j=some p→j≠i∧f j=some p:=fun j p h=>by
      by_cases e:j=i
      ·simp[f1,e]at h
      ·exact⟨e,by simpa [f1,e]using h⟩
     have hlen:(l.set i []).length=l.length:=List.length_set;have own:∀ x,Loc.has (.rls b' c l.length f1) x→Loc.has (.rls b' c l.length f) x:=fun x hx=>by
      rcases hx with rfl | ⟨j,p,h1,h2,rfl⟩
      ·exact .inl rfl
      ·exact .inr ⟨j,p,h1,(f1le j p h2).2,rfl⟩
     have e1:Ext π (addP π S.nx (.rls b' c l.length f1)):=aW (hS.nx _ (Nat.le_refl _)) _;have h1:RelS (addP π S.nx (.rls b' c l.length f1)) Fr ((S.del q).new (.rowh T0 T' t (l.set i []) i)) s':=by
      refine bY (bi hS q) _ (fun b3 o3 l3 x h3 hp3 hh3=>⟨rfl,fun hx=>?_⟩) hS.frm (fun x hx=>hS.out' _ _ _ _ hp hp2 (own x hx)) ?_
      ·rw[DSt.get_del]at h3;split at h3
       ·cases h3
       ·rename_i hne; exact hne (hS.inj' _ _ _ _ _ _ _ h3 hp hp3 hp2 hh3 (own x hx))
      ·refine⟨b',c,f1,by rw[hlen]; exact addP_same _ _ _,by rw[hlen]; exact hR.cap,?_,fun j hj=>?_,fun j p hj hf=>hR.ne j p (by rwa [hlen]at hj) (f1le j p hf).2,fun j k p r hj hk h1 h2=>hR.dj j k p r (by rwa [hlen]at hj) (by rwa [hlen]at hk) (f1le j p h1).2 (f1le k r h2).2,by rw[hlen]; exact hi,by simp[f1]⟩
       ·obtain⟨xs,g1,g2,g3⟩:=hR.ex;refine⟨xs,g1,by rw[hlen]; exact g2,fun j hj hne=>?_,_,g3 i hi⟩;rw[hlen]at hj;rw[g3 j hj]; simp[f1,hne]
       ·rw[hlen]at hj;rw[jk _ _ _ _ _ hi];by_cases e:i=j
        ·subst e; simp[f1]; exact vA
        ·rw[if_neg e]; have:=hR.ir j hj; simpa [f1,Ne.symm e]using this
     have hI:=hR.ir i hi;have dis:∀ p,f i=some p→∀ b3 o3 l3,((S.del q).new (.rowh T0 T' t (l.set i []) i)).get b3=some o3→addP π S.nx (.rls b' c l.length f1) b3=some l3→¬ l3.has p.1:=fun p hf b3 o3 l3 h3 hl3 hx=>by
      have hown:Loc.has (.rls b' c l.length f) p.1:=.inr ⟨i,p,hi,hf,rfl⟩;rw[DSt.get_new]at h3;split at h3
      ·rename_i e;rw[e]at hl3;rw[show(S.del q).nx=S.nx from rfl,addP_same]at hl3; cases hl3;rcases hx with e2 | ⟨j,r,hj,hr,e2⟩
       ·exact hR.ne i p hi hf e2
       ·exact(f1le j r hr).1 (hR.dj j i r p hj hi (f1le j r hr).2 hf e2.symm)
      ·rename_i e;have e:b3≠S.nx:=e;rw[addP_ne _ _ e]at hl3;rw[DSt.get_del]at h3;split at h3
       ·cases h3
       ·rename_i hne; exact hne (hS.inj' _ _ _ _ _ _ _ h3 hp hl3 hp2 hx hown)
     have fin:∀ L,RelS (addP (addP π S.nx (.rls b' c l.length f1)) (S.nx+1) L) Fr (((S.del q).new (.rowh T0 T' t (l.set i []) i)).new (.row T' t (l.getD i []))) s' →
       RelV (addP (addP π S.nx (.rls b' c l.length f1)) (S.nx+1) L) (.slc (S.nx+1)) (ilv (f i))→∃ π1,Ext π π1∧RelS π1 Fr (Jr S b q T0 T' t l i) s'∧HR π1 (Jr S b q T0 T' t l i) RD R∧RelV π1 (.slc (S.nx+1)) (ilv (f i))∧(Jr S b q T0 T' t l i).nx=S.nx+2:=fun L h2 hv2=>by
      have e2:Ext (addP π S.nx (.rls b' c l.length f1)) (addP (addP π S.nx (.rls b' c l.length f1)) (S.nx+1) L):=aW (h1.nx _ (Nat.le_refl _)) _;have hbx:b≠S.nx:=hS.lt hb1;have hbx1:b≠S.nx+1:=fun e=>by rw[hS.nx b (by omega)]at hb1; cases hb1
      have gb:(((S.del q).new (.rowh T0 T' t (l.set i []) i)).new (.row T' t (l.getD i []))).get b=some (.hdl q):=by
       rw[DSt.get_new,if_neg (show b≠((S.del q).new (.rowh T0 T' t (l.set i []) i)).nx from hbx1),DSt.get_new,if_neg (show b≠(S.del q).nx from hbx),DSt.get_del,if_neg hbq]; exact hb
      refine⟨_,e1.trans e2,nk h2 gb ⟨b',c,_,f1,e2 _ _ (e1 _ _ hb1),e2 _ _ (addP_same _ _ _)⟩,((((hH.del hnp).new e1 _).new e2 _).set _ _),hv2,rfl⟩
     cases hf:f i with
     | none=>
      rw[hf]at hI;have hl:l.getD i []=[]:=hI;rw[hf]at fin;refine fin .virt ?_ ?_
      ·rw[hl]; exact jS h1 T' t
      ·simp only[RelV]; exact .inr ⟨addP_same _ _ _,rfl⟩
     | some r=>
      obtain⟨b3,c3,n3⟩:=r;rw[hf]at hI;obtain⟨rfl,hc3,ys,hs3,hy⟩:=hI;rw[hf]at fin;refine fin (.real b3 c3 (l.getD i []).length) ?_ ?_
      ·refine bY h1 _ (fun b4 o4 l4 x h4 hp4 hh4=>⟨rfl,fun hx=>?_⟩) h1.frm (fun x hx=>?_) (.inr ⟨b3,c3,ys,addP_same _ _ _,hc3,hs3,hy⟩)
       ·cases hx; exact dis _ hf _ _ _ h4 hp4 hh4
       ·cases hx; exact hS.out' _ _ _ _ hp hp2 (.inr ⟨i,_,hi,hf,rfl⟩)
      ·simp only[RelV,ilv]; exact .inl ⟨b3,c3,_,addP_same _ _ _,rfl⟩
  ·cases h
 ·cases h
theorem tz (hS:RelS π Fr S s')(hH:HR π S RD R){b i:Nat}{v:DV}{S1:DSt}{ob:List Bool}(h:DL RD S b i v=some (S1,ob))(ho:ob.all id=true){p a:AV}(hp:RelV π (.hrow b i) p)(hv:RelV π v a):
  ∃ b' T c xs,p = .rptr b' 1 i 0∧s' b'=some (.row T 1 c xs)∧¬ R b'∧i < xs.length∧cellsOf a=[a]∧∃ x0,xs.getD i []=[x0]∧∃ π1,Ext π π1∧RelS π1 Fr S1 (upd s' b' (.row T 1 c (xs.set i [a])))∧HR π1 S1 RD R:=by
 unfold DL at h;split at h
 ·rename_i q cc hb;split at h
  ·rename_i T T' t l j T1 t1 l1 hq hcc;split at h
   ·rename_i ht;subst ht;cases hc:(Nat.beq T1 T'&&(aC RD q&&aC RD cc))with
    | false=>rw[hc]at h; cases h
    | true=>
     rw[hc]at h; cases h;simp only[Bool.and_eq_true,aj]at hc;obtain⟨rfl,hnq,hnc⟩:=hc;have hij:i=j:=by simpa [M8]using ho
     subst hij;simp only[RelV]at hp;obtain⟨b',c,n,hpb,hi,rfl⟩:=hp;obtain⟨bb,cb,nb,f,hb1,hb2⟩:=hS.obj _ _ hb;rw[hpb]at hb1; cases hb1;obtain⟨b2,c2,f2,hq2,hR⟩:=hS.obj _ _ hq;rw[hb2]at hq2; cases hq2;obtain⟨xs,hs,hl,hx,x0,hx0⟩:=hR.ex;obtain⟨f0,rfl,hI,hown⟩:=vz hS hcc hv;have hqc:q≠cc:=fun e=>by subst e; rw[hq]at hcc; cases hcc
     have hbq:b≠q:=fun e=>by subst e; rw[hq]at hb; cases hb
     have hbc:b≠cc:=fun e=>by subst e; rw[hcc]at hb; cases hb
     have o0:∀ p,f0=some p→∀ b3 o3 l3,S.get b3=some o3→b3≠cc→π b3=some l3→¬ l3.has p.1:=fun p hf b3 o3 l3 h3 hne hl3 hx=>by
      obtain⟨lc,g1,g2⟩:=hown p hf;exact hne (hS.inj' _ _ _ _ _ _ _ h3 hcc hl3 g1 hx g2)
     have hn0:∀ p,f0=some p→p.1≠b':=fun p hf e=>o0 p hf _ _ _ hq hqc hb2 (.inl e)
     let f1:Nat→Option (Nat×Nat×Nat):=fun j=>if j=i then f0 else f j
     have hlen:(l.set i l1).length=l.length:=List.length_set;have e1:Ext π (addP π S.nx (.rls b' c l.length f1)):=aW (hS.nx _ (Nat.le_refl _)) _;have own:∀ x,Loc.has (.rls b' c l.length f1) x→Loc.has (.rls b' c l.length f) x∨∃ p,f0=some p∧x=p.1:=fun x hx=>by
      rcases hx with rfl | ⟨j,p,h1,h2,rfl⟩
      ·exact .inl (.inl rfl)
      ·by_cases e:j=i
       ·subst e; exact .inr ⟨p,by simpa [f1]using h2,rfl⟩
       ·exact .inl (.inr ⟨j,p,h1,by simpa [f1,e]using h2,rfl⟩)
     have gone:∀ b3 o3,((S.del q).del cc).get b3=some o3→S.get b3=some o3∧b3≠q∧b3≠cc:=fun b3 o3 h3=>by
      rw[DSt.get_del]at h3;split at h3
      ·cases h3
      ·rename_i n1;rw[DSt.get_del]at h3;split at h3
       ·cases h3
       ·rename_i n2; exact⟨h3,n2,n1⟩
     have h1:RelS (addP π S.nx (.rls b' c l.length f1)) Fr (((S.del q).del cc).new (.rows T T1 t1 (l.set i l1))) (upd s' b' (.row T 1 c (xs.set i [ilv f0]))):=by
      refine bY (bi (bi hS q) cc) _ (fun b3 o3 l3 x h3 hp3 hh3=>?_) (fun x y h=>?_) (fun x hx=>?_) (.inr ⟨b',c,f1,by rw[hlen]; exact addP_same _ _ _,?_⟩)
      ·obtain⟨g1,g2,g3⟩:=gone b3 o3 h3;refine⟨ay _ _ fun e=>g2 (hS.inj' _ _ _ _ _ _ b' g1 hq hp3 hb2 (e▸hh3) (.inl rfl)),fun hx=>?_⟩;rcases own x hx with hx | ⟨p,hf,rfl⟩
       ·exact g2 (hS.inj' _ _ _ _ _ _ x g1 hq hp3 hb2 hh3 hx)
       ·exact o0 p hf _ _ _ g1 g3 hp3 hh3
      ·have e:x≠b':=fun e=>by subst e; rw[hS.out' _ _ _ _ hq hb2 (.inl rfl)]at h; cases h
       rw[ay _ _ e]; exact hS.frm _ _ h
      ·rcases own x hx with hx | ⟨p,hf,rfl⟩
       ·exact hS.out' _ _ _ _ hq hb2 hx
       ·obtain⟨lc,g1,g2⟩:=hown p hf; exact hS.out' _ _ _ _ hcc g1 g2
      ·refine⟨by rw[hlen]; exact hR.cap,⟨_,upd_same _ _ _,by rw[List.length_set,hlen]; exact hl,fun k hk=>?_⟩,fun k hk=>?_,fun k p hk hf=>?_,fun k m p r hk hm hp hr e=>?_⟩
       ·rw[hlen]at hk;rw[jk _ _ _ _ _ (by rw[hl]; exact hR.lt)];by_cases e:i=k
        ·subst e; simp[f1]
        ·rw[if_neg e,hx k hk (Ne.symm e)]; simp[f1,Ne.symm e]
       ·rw[hlen]at hk;rw[jk _ _ _ _ _ hR.lt];by_cases e:i=k
        ·subst e;simp only[f1,if_pos];exact hI.mono fun p hp=>ay _ _ (hn0 p hp)
        ·rw[if_neg e];have:=hR.ir k hk;simp only[f1,if_neg (Ne.symm e)];exact this.mono fun p hp=>ay _ _ (hR.ne k p hk hp)
       ·rw[hlen]at hk;by_cases e:k=i
        ·subst e; exact hn0 p (by simpa [f1]using hf)
        ·exact hR.ne k p hk (by simpa [f1,e]using hf)
       ·rw[hlen]at hk hm;by_cases e1:k=i <;> by_cases e2:m=i
        ·rw[e1,e2]
        ·exfalso
         have h1:f0=some p:=by simpa [f1,e1]using hp
         have h2:f m=some r:=by simpa [f1,e2]using hr
         exact o0 p h1 _ _ _ hq hqc hb2 (.inr ⟨m,r,hm,h2,e⟩)
        ·exfalso
         have h1:f k=some p:=by simpa [f1,e1]using hp
         have h2:f0=some r:=by simpa [f1,e2]using hr
         exact o0 r h2 _ _ _ hq hqc hb2 (.inr ⟨k,p,hk,h1,e.symm⟩)
        ·exact hR.dj k m p r hk hm (by simpa [f1,e1]using hp) (by simpa [f1,e2]using hr) e
     have hbx:b≠S.nx:=hS.lt hpb;have gb:(((S.del q).del cc).new (.rows T T1 t1 (l.set i l1))).get b=some (.hdl q):=by
      rw[DSt.get_new,if_neg (show b≠((S.del q).del cc).nx from hbx),DSt.get_del,if_neg hbc,DSt.get_del,if_neg hbq]; exact hb
     refine⟨b',T,c,xs,rfl,hs,ji hS hH hq hnq hb2 (.inl rfl),by rw[hl]; exact hR.lt,(gU f0).2.2.2,x0,hx0,_,e1,nk h1 gb ⟨b',c,_,f1,e1 _ _ hpb,addP_same _ _ _⟩,(((hH.del hnq).del hnc).new e1 _).set _ _⟩
   ·cases h
  ·cases h
 ·cases h
theorem xu {P:Program}{T by_:Nat}{x y:Opd}(hS:RelS π Fr S s')(hH:HR π S RD R){b:Nat}{t:Ty}{l ys:List t.den}{xs:List (List AV)}(hb:S.get b=some (.row T t l))(hnb:aC RD b=true)(vx:RelV π (.slc b) (ρ' x).val)(fx:(ρ' x).df)(fy:(ρ' y).df)
  (g1:kP t ys xs) (g2:∀ K:List (List AV)→Prop,K xs→elems t.w s' (ρ' y).val K) (o3:by_*(l.length+ys.length)≤140737488355328) {K:AV→Store→Prop}
  (hK:∀ a π1 s1,RelV π1 (.slc S.nx) a→Ext π π1→RelS π1 Fr ((S.del b).new (.row T t (l++ys))) s1→HR π1 ((S.del b).new (.row T t (l++ys))) RD R→K a s1):eff P R (.app T t.w by_ x y) ρ' s' K:=by
 have hnx:∀ l,Ext π (addP π S.nx l):=aW (hS.nx _ (Nat.le_refl _));simp only[RelV]at vx;rcases hS.obj _ _ hb with⟨q1,rfl⟩ | ⟨b2,c2,zs,hp2,hcap,hs,hr⟩
 ·rcases vx with⟨b',c,m,hp,e⟩ | ⟨hp,e⟩
  ·rw[q1]at hp; cases hp
  ·refine⟨fx,fy,g2 _ ?_⟩;simp only[e];refine⟨by rw[g1.1]; simpa using o3,fun h0=>?_,fun h0 b' c hb hR hc=>?_⟩
   ·have e0:ys=[]:=List.eq_nil_of_length_eq_zero (by rw[← g1.1]; exact h0);subst e0;refine hK _ (addP π S.nx .virt) _ ?_ (hnx _) (jS (bi hS b) T t) ((hH.del hnb).new (hnx _) _);simp only[RelV]; exact .inr ⟨addP_same _ _ _,trivial⟩
   ·refine hK _ (addP π S.nx (.real b' c ys.length)) _ ?_ (hnx _) (bZ (bi hS _) hb _ (.inr ⟨b',c,_,addP_same _ _ _,?_,upd_same _ _ _,g1⟩)) ((hH.del hnb).new (hnx _) _)
    ·simp only[RelV]; exact .inl ⟨b',_,_,addP_same _ _ _,by rw[g1.1]⟩
    ·show ys.length≤c; rw[← g1.1]; exact hc
 ·rcases vx with⟨b',c,m,hp,e⟩ | ⟨hp,_⟩
  ·rw[hp2]at hp; cases hp;refine⟨fx,fy,g2 _ ?_⟩;simp only[e,hs];refine⟨trivial,trivial,trivial,hr.1.symm,cI hS hH hb hnb hp2,by rw[g1.1]; exact o3,fun b3 c3 hb3 hR3 hc3=>?_⟩;have hS':=jT hS hb hp2;have hlen:l.length+xs.length=(l++ys).length:=by rw[List.length_append,g1.1]
   refine hK _ (addP π S.nx (.real b3 c3 (l++ys).length)) _ ?_ (hnx _) ?_ ((hH.del hnb).new (hnx _) _)
   ·simp only[RelV]; exact .inl ⟨b3,_,_,addP_same _ _ _,by rw[hlen]⟩
   ·exact bZ hS' hb3 _ (.inr ⟨b3,c3,_,addP_same _ _ _,by rw[← hlen]; exact hc3,upd_same _ _ _,dR hr g1⟩)
  ·rw[hp2]at hp; cases hp
theorem tA {P:Program}(hS:RelS π Fr S s')(hH:HR π S RD R)(hρ:∀ x,RelV π (ρ x) (ρ' x)){o:AOp}{ann:Option (Bool×Ty)}{d:DV}{S1:DSt}{ob:List Bool}(h:Kp RD S ρ o ann=some (d,S1,ob))(ho:ob.all id=true)
  {K:AV→Store→Prop} (hK:∀ a π1 s1,RelV π1 d a→Ext π π1→RelS π1 Fr S1 s1→HR π1 S1 RD R→K a s1):eff P R o ρ' s' K:=by
 have V:∀ x,(ρ x).df.all id=true→RelV π (ρ x).val (ρ' x).val:=fun x hx=>bc (hρ x) hx;have F:∀ x,(ρ x).df.all id=true→(ρ' x).df:=fun x hx=>bj (hρ x) hx;have hnx:∀ l,Ext π (addP π S.nx l):=aW (hS.nx _ (Nat.le_refl _));unfold Kp at h;split at h
 ·
  rename_i z;cases h;intro b' hb hR;refine hK _ (addP π S.nx (.real b' 0 0)) _ ?_ (hnx _) (bZ hS hb _ ?_) (hH.new (hnx _) _)
  ·simp only[RelV]; exact⟨b',0,0,addP_same _ _ _,rfl⟩
  ·exact⟨b',0,0,z,addP_same _ _ _,upd_same _ _ _,fR z⟩
 ·
  rename_i x;cases hc:(aY (ρ x).val).all DV.one with
  | false=>rw[hc]at h; cases h
  | true=>
   rw[hc]at h; cases h;obtain⟨g1,g2⟩:=bu (V x ho) hc;refine⟨F x ho,g2,fun b' hb hR=>?_⟩;refine hK _ (addP π S.nx (.real b' 0 0)) _ ?_ (hnx _) (bZ hS hb _ ?_) (hH.new (hnx _) _)
   ·simp only[RelV]; exact⟨b',0,0,addP_same _ _ _,rfl⟩
   ·exact⟨b',0,0,_,addP_same _ _ _,upd_same _ _ _,g1.ext (hnx _)⟩
 ·
  rename_i p v n;cases hc:(Nat.beq (aY (ρ v).val).length n&&(aY (ρ v).val).all DV.one)with
  | false=>rw[hc]at h; cases h
  | true=>
   rw[hc]at h;simp only[cond_true]at h;simp only[Bool.and_eq_true,aj]at hc;split at h
   ·rename_i b i hp;cases hn1:Nat.beq n 1 with
    | false=>rw[hn1]at h; cases h
    | true=>
     rw[hn1]at h;simp only[cond_true]at h;obtain rfl:=aj.1 hn1;split at h
     ·rename_i S2 ob2 hd;cases h;obtain⟨o1,o2⟩:=ah ho;obtain⟨o2,o3⟩:=ah o2;obtain⟨g1,g2⟩:=bu (V v o2) hc.2;have vp:=V p o1; rw[hp]at vp;obtain⟨b',T,c,xs,e,hs,hR,hi,hca,x0,hx0,π1,e1,h1,h2⟩:=tz hS hH hd o3 vp (V v o2);refine⟨F p o1,F v o2,(aB g1).trans hc.1,g2,?_⟩;simp only[e,hs];refine⟨trivial,hR,hi,by omega,hK _ π1 _ (by simp only[RelV]) e1 ?_ h2⟩;rw[hca,hx0]; exact h1
     ·cases h
   ·rename_i b o hp;split at h
    ·rename_i cs hb;cases hd:(aC RD b&&dI (o+n) cs.length)with
     | false=>rw[hd]at h; cases h
     | true=>
      rw[hd]at h; cases h;simp only[Bool.and_eq_true,dI,Nat.ble_eq]at hd;obtain⟨o1,o2⟩:=ah ho;obtain⟨g1,g2⟩:=bu (V v o2) hc.2;have vp:=V p o1; rw[hp]at vp;simp only[RelV]at vp;obtain⟨b',c,m,hpb,e⟩:=vp;obtain⟨b2,c2,n2,as,hp2,hs,hr⟩:=hS.obj _ _ hb;rw[hpb]at hp2; cases hp2;refine⟨F p o1,F v o2,(aB g1).trans hc.1,g2,?_⟩;simp only[e,hs];refine⟨cI hS hH hb hd.1 hpb,by rw[aB hr]; exact hd.2,hK _ π _ (by simp only[RelV]) (Ext.refl _) (cA hS hb hpb _ ?_) (hH.set _ _)⟩;exact⟨b',c,m,_,hpb,upd_same _ _ _,cH o hr g1⟩
    ·cases h
   ·rename_i b k i j hp;split at h
    ·rename_i T t l hb;cases hd:(aC RD b&&Nat.beq t.w k&&dI (j+n) k)with
     | false=>rw[hd]at h; cases h
     | true=>
      rw[hd]at h;simp only[cond_true]at h;split at h
      ·rename_i x hx;cases h;simp only[Bool.and_eq_true,dI,Nat.ble_eq,aj]at hd;obtain⟨⟨d1,rfl⟩,d3⟩:=hd;obtain⟨o1,o2⟩:=ah ho;obtain⟨g1,g2⟩:=bu (V v o2) hc.2;have vp:=V p o1; rw[hp]at vp;simp only[RelV]at vp;obtain⟨b',c,m,hpb,hi,e⟩:=vp;rcases hS.obj _ _ hb with⟨q1,_⟩ | ⟨b2,c2,xs,hp2,hcap,hs,hr⟩
       ·rw[hpb]at q1; cases q1
       ·rw[hpb]at hp2; cases hp2;have hcr:=bk hx (cH j (aR (π:=π) (hr.2 i hi)) g1);refine⟨F p o1,F v o2,(aB g1).trans hc.1,g2,?_⟩;simp only[e,hs];refine⟨trivial,cI hS hH hb d1 hpb,by rw[hr.1]; exact hi,d3,hK _ π _ (by simp only[RelV]) (Ext.refl _) (cA hS hb hpb _ ?_) (hH.set _ _)⟩;exact .inr ⟨b',c,_,by rw[List.length_set]; exact hpb,by rw[List.length_set]; exact hcap,upd_same _ _ _,lh hr hi hcr⟩
      ·cases h
    ·cases h
   ·rename_i b k i j o hp;split at h
    ·rename_i T T' t l hb;cases hd:(aC RD b&&Nat.beq t.w k&&dI (o+n) k)with
     | false=>rw[hd]at h; cases h
     | true=>
      rw[hd]at h;simp only[cond_true]at h;split at h
      ·rename_i x hx;cases h;simp only[Bool.and_eq_true,dI,Nat.ble_eq,aj]at hd;obtain⟨⟨d1,rfl⟩,d3⟩:=hd;obtain⟨o1,o2⟩:=ah ho;obtain⟨g1,g2⟩:=bu (V v o2) hc.2;have vp:=V p o1; rw[hp]at vp;simp only[RelV]at vp;obtain⟨b',c,m,f,b2,c2,n2,hpb,hi,hf,hj,e⟩:=vp;rcases hS.obj _ _ hb with⟨q1,_⟩ | ⟨b3,c3,f3,hp3,hR⟩
       ·rw[hpb]at q1; cases q1
       ·rw[hpb]at hp3; cases hp3;have hI:=hR.ir i hi;rw[hf]at hI;obtain⟨rfl,hc2,ys,hs,hy⟩:=hI;have hcr:=bk hx (cH o (aR (π:=π) (hy.2 j hj)) g1);have hh:Loc.has (.rls b' c l.length f) b2:=.inr ⟨i,_,hi,hf,rfl⟩;refine⟨F p o1,F v o2,(aB g1).trans hc.1,g2,?_⟩;simp only[e,hs];refine⟨trivial,ji hS hH hb d1 hpb hh,by rw[hy.1]; exact hj,d3,hK _ π _ (by simp only[RelV]) (Ext.refl _) (fo hS hb hpb hh _ ?_) (hH.set _ _)⟩;exact .inr ⟨b',c,f,by rw[List.length_set]; exact hpb,hR.set hi hf (lh hy hj hcr) (by rw[List.length_set])⟩
      ·cases h
    ·cases h
   ·rename_i b key o hp;split at h
    ·rename_i t es hb;cases hd:(aC RD b&&dI (o+n) t.w)with
     | false=>rw[hd]at h; cases h
     | true=>
      rw[hd]at h;simp only[cond_true]at h;split at h
      ·rename_i x hx;cases h;simp only[Bool.and_eq_true,dI,Nat.ble_eq]at hd;obtain⟨d1,d3⟩:=hd;obtain⟨o1,o2⟩:=ah ho;obtain⟨g1,g2⟩:=bu (V v o2) hc.2;have vp:=V p o1; rw[hp]at vp;simp only[RelV]at vp;obtain⟨g,y,hpb,hg,e⟩:=vp;obtain⟨g',hp3,hP⟩:=hS.obj _ _ hb;rw[hpb]at hp3; cases hp3;obtain⟨as,hs,hcr0⟩:=hP.ex _ _ hg;have hcr:=bk hx (cH o (aR (π:=π) hcr0) g1);have hh:Loc.has (.pol g) y:=⟨key,hg⟩
       refine⟨F p o1,F v o2,(aB g1).trans hc.1,g2,?_⟩;simp only[e,hs];exact⟨ji hS hH hb d1 hpb hh,by rw[dt hcr0]; exact d3,hK _ π _ (by simp only[RelV]) (Ext.refl _) (fo hS hb hpb hh _ ⟨g,hpb,hP.set hg hcr⟩) (hH.set _ _)⟩
      ·cases h
    ·cases h
   ·cases h
 ·
  rename_i kn T0;split at h
  ·rename_i t;cases hd:Nat.beq kn 0 with
   | false=>rw[hd]at h; cases h
   | true=>
    rw[hd]at h; cases h;obtain rfl:=aj.1 hd;intro b' hb hR;have h1:=bY hS (.pol []) (s1:=s') (o:=.pool t []) (fun _ _ _ _ _ _ _=>⟨rfl,fun⟨k,hk⟩=>by simp[aZ]at hk⟩) hS.frm (fun x ⟨k,hk⟩=>by simp[aZ]at hk)
     ⟨[],addP_same _ _ _,rfl,List.nodup_nil,fun k x hk=>by simp[aZ]at hk,fun k1 k2 x hk=>by simp[aZ]at hk⟩
    have hx1:=hnx (.pol []);have hx2:Ext (addP π S.nx (.pol [])) (addP (addP π S.nx (.pol [])) (S.nx+1) (.real b' 0 0)):=aW (h1.nx _ (Nat.le_refl _)) _;refine hK _ (addP (addP π S.nx (.pol [])) (S.nx+1) (.real b' 0 0)) _ ?_ (hx1.trans hx2) (bZ h1 hb (.imap 0 [] none) ?_) ((hH.new hx1 _).new hx2 _)
    ·simp only[RelV]; exact⟨b',0,0,addP_same _ _ _,rfl⟩
    ·exact⟨b',0,0,[],addP_same _ _ _,hx2 _ _ (addP_same _ _ _),upd_same _ _ _⟩
  ·rename_i ag t _;cases h;intro b' hb hR;refine hK _ (addP π S.nx (.real b' 0 0)) _ ?_ (hnx _) (bZ hS hb _ ?_) (hH.new (hnx _) _)
   ·simp only[RelV]; exact⟨b',0,0,addP_same _ _ _,rfl⟩
   ·exact⟨b',0,0,[],addP_same _ _ _,rfl,upd_same _ _ _⟩
  ·cases h
 ·
  rename_i T k by_ z n;split at h
  ·rename_i t u ki m hm;cases hd:(Nat.beq 1 k&&gx (.sl t) z)with
   | false=>rw[hd]at h; cases h
   | true=>
    rw[hd]at h; cases h;simp only[Bool.and_eq_true,aj]at hd;obtain⟨rfl,hz⟩:=hd;obtain⟨o1,o2⟩:=ah ho;simp only[List.all_cons,List.all_nil,id,Bool.and_true,Bool.and_eq_true,decide_eq_true_eq]at o2;have e:=aD hm (V n o1);have hz':z=[.emp]:=by
     cases z with
     | nil=>simp[gx,kN]at hz
     | cons a l=>cases l with
      | nil=>cases a <;> simp[gx,kN,qD]at hz ⊢
      | cons b l=>cases a <;> simp[gx,kN,qD]at hz
    subst hz';refine⟨F n o1,?_⟩;simp only[e];refine⟨o2.1,o2.2,fun b' hb hR=>?_⟩;have hl:(dF m.toNat ([]:List t.den)).length=m.toNat:=List.length_replicate;have h1:=dS (T:=T) (T':=Ko u) (t:=t) (l:=dF m.toNat []) (xs:=List.replicate m.toNat [AV.emp]) (c:=m.toNat) (f:=fun _=>none) hS hb ⟨by simp[dF],fun i hi=>by rw[hl]at hi; simp[List.getD_eq_getElem?_getD,hi,ilv],fun i hi=>by
     rw[hl]at hi;rw[show(dF m.toNat ([]:List t.den)).getD i []=[]by simp[dF,List.getD_eq_getElem?_getD,List.getElem?_replicate,hi]]; exact vA,fun i j p q _ _ h=>by cases h⟩ (by rw[hl]; exact Nat.le_refl _) (fun i p _ h=>by cases h)
    have hx1:=hnx (.rls b' m.toNat (dF m.toNat ([]:List t.den)).length fun _=>none);rw[hl]at hx1 h1;have hx2:Ext (addP π S.nx (.rls b' m.toNat m.toNat fun _=>none)) (addP (addP π S.nx (.rls b' m.toNat m.toNat fun _=>none)) (S.nx+1) (.hnd b' m.toNat m.toNat)):=aW (h1.nx _ (Nat.le_refl _)) _;refine hK _ (addP (addP π S.nx (.rls b' m.toNat m.toNat fun _=>none)) (S.nx+1) (.hnd b' m.toNat m.toNat)) _ ?_ (hx1.trans hx2) (bY h1 _ (fun _ _ _ _ _ _ _=>⟨rfl,fun h=>h⟩) h1.frm (fun _ h=>h.elim) ?_) ((hH.new hx1 _).new hx2 _)
    ·simp only[RelV]; exact⟨b',_,_,addP_same _ _ _,rfl⟩
    ·exact⟨b',m.toNat,m.toNat,_,addP_same _ _ _,hx2 _ _ (addP_same _ _ _)⟩
  ·rename_i ag t ki m _ hm;cases hd:(Nat.beq t.w k&&gx t z)with
   | false=>rw[hd]at h; cases h
   | true=>
    rw[hd]at h; cases h;simp only[Bool.and_eq_true,aj]at hd;obtain⟨rfl,hz⟩:=hd;obtain⟨o1,o2⟩:=ah ho;simp only[List.all_cons,List.all_nil,id,Bool.and_true,Bool.and_eq_true,decide_eq_true_eq]at o2;have e:=aD hm (V n o1);have hz':CR t t.zero z:=by
     unfold gx at hz;split at hz
     ·rename_i hzz; obtain⟨c,rfl,g⟩:=fQ hzz; simpa using g
     ·cases hz
    refine⟨F n o1,?_⟩;simp only[e];refine⟨o2.1,o2.2,fun b' hb hR=>?_⟩;refine hK _ (addP π S.nx (.real b' m.toNat m.toNat)) _ ?_ (hnx _) (bZ hS hb _ ?_) (hH.new (hnx _) _)
    ·simp only[RelV]; exact .inl ⟨b',_,_,addP_same _ _ _,rfl⟩
    ·exact .inr ⟨b',m.toNat,_,by simp only[dF,List.length_replicate]; exact addP_same _ _ _,by simp only[dF,List.length_replicate]; exact Nat.le_refl _,upd_same _ _ _,jl hz' _⟩
  ·cases h
 ·
  rename_i T k xs;split at h
  ·split at h
   ·rename_i x;split at h
    ·rename_i r hx;split at h
     ·rename_i T' t' l hb;cases hd:(Nat.beq 1 k&&aC RD r)with
      | false=>rw[hd]at h; cases h
      | true=>
       rw[hd]at h; cases h;simp only[Bool.and_eq_true,aj]at hd;obtain⟨rfl,hnr⟩:=hd;obtain⟨g1,g2⟩:=cQ hρ ho;have ho1:(ρ x).df.all id=true:=by simpa [gy]using ho
       have vx:=V x ho1; rw[hx]at vx;obtain⟨f0,e,hI,hown⟩:=vz hS hb vx;obtain⟨i1,i2,i3,i4⟩:=gU f0;have ev:vals ρ' [x]=[ilv f0]:=by simp[vals,e]
       have hS0:=bi hS r;refine⟨g2,by rw[ev]; exact⟨by rw[i4]; rfl,by rw[i4]; simp[i1],trivial⟩,fun b' hb' hR=>?_⟩;have ec:(vals ρ' [x]).map cellsOf=[[ilv f0]]:=by rw[ev]; simp[i4]
       rw[ec];refine hK _ (addP π S.nx (.rls b' 1 1 fun _=>f0)) _ ?_ (hnx _) (dS (l:=[l]) (xs:=[[ilv f0]]) (f:=fun _=>f0) hS0 hb' ⟨rfl,fun i hi=>?_,fun i hi=>?_,fun i j p q hi hj _ _ _=>?_⟩ (Nat.le_refl _) fun i p hi hp=>?_) ((hH.del hnr).new (hnx _) _)
       ·simp only[RelV]; exact .inl ⟨b',1,1,_,addP_same _ _ _,rfl⟩
       ·have:i=0:=by simpa using hi
        subst this; rfl
       ·have:i=0:=by simpa using hi
        subst this; exact hI
       ·have h1:i=0:=by simpa using hi
        have h2:j=0:=by simpa using hj
        rw[h1,h2]
       ·obtain⟨lc,hl,hh⟩:=hown p hp;refine⟨hS.out' _ _ _ _ hb hl hh,fun b o lc2 hg hp2 hh2=>?_⟩;rw[DSt.get_del]at hg;split at hg
        ·cases hg
        ·rename_i hne; exact hne (hS.inj' _ _ _ _ _ _ _ hg hb hp2 hl hh2 hh)
     ·cases h
    ·cases h
   ·cases h
  ·rename_i ag t _;split at h
   ·rename_i l hl;cases hd:Nat.beq t.w k with
    | false=>rw[hd]at h; cases h
    | true=>
     rw[hd]at h; cases h;obtain rfl:=aj.1 hd;obtain⟨g1,g2⟩:=cQ hρ ho;obtain⟨k1,k2,k3⟩:=iK hl g1;have hlen:xs.length=l.length:=by rw[← k3]; simp[vals]
     refine⟨g2,k2,fun b' hb hR=>?_⟩;refine hK _ (addP π S.nx (.real b' l.length l.length)) _ ?_ (hnx _) (bZ hS hb _ ?_) (hH.new (hnx _) _)
     ·simp only[RelV]; exact .inl ⟨b',_,_,addP_same _ _ _,by rw[hlen]⟩
     ·exact .inr ⟨b',l.length,_,addP_same _ _ _,Nat.le_refl _,by rw[upd_same,hlen],k1⟩
   ·cases h
  ·cases h
 ·
  rename_i T k by_ x y;split at h
  ·split at h
   ·rename_i b2 hy;split at h
    ·rename_i T2 T2' t' l2 hb2;have emp:∀ S0,RelS π Fr S0 s'→HR π S0 RD R→S0.nx=S.nx→S0.get b2=none→(∀ b o,S0.get b=some o→S.get b=some o)→k=1→(ρ' x).val = .emp→(ρ' x).df→(ρ' y).df→(RelV π (.slr b2) (ρ' y).val)→by_*l2.length≤140737488355328 →
       (∀ a π1 s1,RelV π1 (.slr S.nx) a→Ext π π1→RelS π1 Fr (S0.new (.rows T T2' t' l2)) s1→HR π1 (S0.new (.rows T T2' t' l2)) RD R→K a s1)→eff P R (.app T k by_ x y) ρ' s' K:=by
      intro S0 hS0 hH0 hn hno hsub hk1 ex fx fy vy hby hk;subst hk1;obtain⟨xs,f,hR,hel,hown,_⟩:=ov hS hb2 vy;refine⟨fx,fy,hel _ ?_⟩;simp only[ex];refine⟨by rw[hR.len]; exact hby,fun h0=>?_,fun h0 b' c hb hRb hc=>?_⟩
      ·have e0:l2=[]:=List.eq_nil_of_length_eq_zero (by rw[← hR.len]; exact h0);subst e0;refine hk _ (addP π S.nx .virt) _ ?_ (hnx _) ?_ ?_
       ·simp only[RelV]; exact .inr ⟨addP_same _ _ _,trivial⟩
       ·rw[← hn]; exact qH hS0 T T2' t'
       ·exact hH0.new (hnx _) _
      ·refine hk _ (addP π S.nx (.rls b' c l2.length f)) _ ?_ (hnx _) ?_ (hH0.new (hnx _) _)
       ·simp only[RelV]; exact .inl ⟨b',_,_,_,addP_same _ _ _,by rw[hR.len]⟩
       ·rw[← hn];refine dS hS0 hb hR (by rw[← hR.len]; exact hc) fun i p hi hp=>?_;obtain⟨lc,hl,hh⟩:=hown i p hi hp;refine⟨hS.out' _ _ _ _ hb2 hl hh,fun b o lc2 hg hp2 hh2=>?_⟩;have:=hS.inj' _ _ _ _ _ _ _ (hsub _ _ hg) hb2 hp2 hl hh2 hh;subst this; rw[hno]at hg; cases hg
     have sub1:∀ b o,(S.del b2).get b=some o→S.get b=some o:=fun b o h=>by
      rw[DSt.get_del]at h;split at h
      ·cases h
      ·exact h
     have no1:(S.del b2).get b2=none:=by rw[DSt.get_del,if_pos rfl]
     split at h
     ·rename_i hx;cases hd:(Nat.beq 1 k&&aC RD b2)with
      | false=>rw[hd]at h; cases h
      | true=>
       rw[hd]at h; cases h;simp only[Bool.and_eq_true,aj]at hd;obtain⟨rfl,hn2⟩:=hd;obtain⟨o1,o2⟩:=ah ho;obtain⟨o2,o3⟩:=ah o2;simp only[bI,List.all_cons,List.all_nil,id,Bool.and_true,decide_eq_true_eq]at o3;have vx:=V x o1; rw[hx]at vx;simp only[RelV]at vx;have vy:=V y o2; rw[hy]at vy;exact emp (S.del b2) (bi hS b2) (hH.del hn2) rfl no1 sub1 rfl vx (F x o1) (F y o2) vy o3 hK
     ·rename_i b hx;split at h
      ·rename_i T1 T1' t1 l hb;split at h
       ·rename_i ht;subst ht;cases hd:(Nat.beq 1 k&&(Nat.beq T1 T&&(Nat.beq T1' T2'&&(aC RD b2&&(aC RD b&&!Nat.beq b b2)))))with
        | false=>rw[hd]at h; cases h
        | true=>
         rw[hd]at h; cases h;simp only[Bool.and_eq_true,aj,Bool.not_eq_true']at hd;obtain⟨rfl,rfl,rfl,hn2,hn1,hbb⟩:=hd;have hne:b≠b2:=fun e=>by subst e; simp at hbb
         obtain⟨o1,o23⟩:=ah ho;obtain⟨o2,o3⟩:=ah o23;simp only[bI,List.all_cons,List.all_nil,id,Bool.and_true,decide_eq_true_eq]at o3;have vx:=V x o1; rw[hx]at vx;have vy:=V y o2; rw[hy]at vy;have hb1:(S.del b2).get b=some (.rows T1 T1' t' l):=by rw[DSt.get_del,if_neg hne]; exact hb
         obtain⟨xs,f,hR,hel,hown,hc⟩:=ov hS hb vx;rcases hc with⟨ex,rfl⟩ | ⟨b0,c0,ex,hp0,hs0,hin0⟩
         ·refine emp ((S.del b2).del b) (bi (bi hS b2) b) ((hH.del hn2).del hn1) rfl (by rw[DSt.get_del,no1]; split <;> rfl) (fun b3 o3 h3=>sub1 _ _ (by
           rw[DSt.get_del]at h3;split at h3
           ·cases h3
           ·exact h3)) rfl ex (F x o1) (F y o2) vy (by simpa using o3) fun a π1 s1 q1 q2 q3 q4=>hK a π1 s1 q1 q2 (by simpa using q3) (by simpa using q4)
         ·obtain⟨ys,f2,hR2,hel2,hown2,_⟩:=ov hS hb2 vy;refine⟨F x o1,F y o2,hel2 _ ?_⟩;simp only[ex,hs0];refine⟨trivial,trivial,trivial,hR.len.symm,ji hS hH hb hn1 hp0 (.inl rfl),by rw[hR2.len]; exact o3,fun b3 c3 hb3 hR3 hc3=>?_⟩;have hS0:=bi (nh hS hb hp0 (.inl rfl)) b2;have eS:∀ b4,((S.del b).del b2).get b4=((S.del b2).del b).get b4:=fun b4=>by
           simp only[DSt.get_del];by_cases e1:b4=b <;> by_cases e2:b4=b2 <;> simp[e1,e2]
          have in2:∀ i p,i < l2.length→f2 i=some p→p.1≠b0:=fun i p hi hp e=>by
           obtain⟨lc,hl,hh⟩:=hown2 i p hi hp;exact hne (hS.inj' _ _ _ _ _ _ b0 hb hb2 hp0 hl (.inl rfl) (e▸hh))
          have hRd:RC (del s' b0) T1' t' (l++l2) (xs++ys) (fun i=>if i < l.length then f i else f2 (i-l.length)):=by
           refine RC.app (hR.mono fun i p hi hp=>?_) (hR2.mono fun i p hi hp=>?_) fun i j p q hi hj hp hq e=>?_
           ·unfold del; rw[if_neg (hin0 i p hi hp)]
           ·unfold del; rw[if_neg (in2 i p hi hp)]
           ·obtain⟨lc,hl,hh⟩:=hown i p hi hp;obtain⟨lc2,hl2,hh2⟩:=hown2 j q hj hq;exact hne (hS.inj' _ _ _ _ _ _ p.1 hb hb2 hl hl2 hh (e▸hh2))
          have hlen:l.length+ys.length=(l++l2).length:=by rw[List.length_append,hR2.len]
          have hS1:RelS π Fr ((S.del b2).del b) (del s' b0):=⟨fun b4 o4 h4=>hS0.obj b4 o4 ((eS b4).trans h4),fun b4 b5 o4 o5 l4 l5 x h4 h5=>hS0.inj' _ _ _ _ _ _ _ ((eS b4).trans h4) ((eS b5).trans h5),hS0.frm,fun b4 o4 l4 x h4=>hS0.out' _ _ _ _ ((eS b4).trans h4),hS.nx⟩
          refine hK _ (addP π S.nx (.rls b3 c3 (l++l2).length _)) _ ?_ (hnx _) (dS (S0:=(S.del b2).del b) hS1 hb3 hRd (by rw[← hlen]; exact hc3) fun i p hi hp=>?_) (((hH.del hn2).del hn1).new (hnx _) _)
          ·simp only[RelV]; exact .inl ⟨b3,_,_,_,addP_same _ _ _,by rw[hlen]⟩
          ·have gone:∀ b4 o4,((S.del b2).del b).get b4=some o4→S.get b4=some o4∧b4≠b∧b4≠b2:=fun b4 o4 h4=>by
            rw[DSt.get_del]at h4;split at h4
            ·cases h4
            ·rename_i e1;rw[DSt.get_del]at h4;split at h4
             ·cases h4
             ·rename_i e2; exact⟨h4,e1,e2⟩
           have own:(∃ lc,π b=some lc∧lc.has p.1)∨∃ lc,π b2=some lc∧lc.has p.1:=by
            rw[List.length_append]at hi;by_cases hl:i < l.length
            ·simp only[if_pos hl]at hp; exact .inl (hown i p hl hp)
            ·simp only[if_neg hl]at hp; exact .inr (hown2 _ p (by omega) hp)
           rcases own with⟨lc,hl,hh⟩ | ⟨lc,hl,hh⟩
           ·exact⟨hS.out' _ _ _ _ hb hl hh,fun b4 o4 lc4 h4 p4 hh4=>by
             obtain⟨g1,g2,g3⟩:=gone b4 o4 h4;exact g2 (hS.inj' _ _ _ _ _ _ _ g1 hb p4 hl hh4 hh)⟩
           ·exact⟨hS.out' _ _ _ _ hb2 hl hh,fun b4 o4 lc4 h4 p4 hh4=>by
             obtain⟨g1,g2,g3⟩:=gone b4 o4 h4;exact g3 (hS.inj' _ _ _ _ _ _ _ g1 hb2 p4 hl hh4 hh)⟩
       ·cases h
      ·cases h
     ·cases h
    ·cases h
   ·cases h
  ·rename_i ag t _;cases hd:Nat.beq t.w k with
   | false=>rw[hd]at h; cases h
   | true=>
    rw[hd]at h;obtain rfl:=aj.1 hd;simp only[cond_true]at h;split at h
    ·rename_i ys hys;have emp:∀ S0,RelS π Fr S0 s'→HR π S0 RD R→S0.nx=S.nx→(ρ' x).val = .emp→(ρ' x).df→(ρ' y).df→(∀ xs,kP t ys xs→(∀ K:List (List AV)→Prop,K xs→elems t.w s' (ρ' y).val K)→by_*ys.length≤140737488355328 →
       (∀ a π1 s1,RelV π1 (.slc S.nx) a→Ext π π1→RelS π1 Fr (S0.new (.row T t ys)) s1→HR π1 (S0.new (.row T t ys)) RD R→K a s1)→eff P R (.app T t.w by_ x y) ρ' s' K):=by
      intro S0 hS0 hH0 hn ex fx fy xs hx he hby hk;refine⟨fx,fy,he _ ?_⟩;simp only[ex];refine⟨by rw[hx.1]; exact hby,fun h0=>?_,fun h0 b' c hb hR hc=>?_⟩
      ·have e0:ys=[]:=List.eq_nil_of_length_eq_zero (by rw[← hx.1]; exact h0);subst e0;refine hk _ (addP π S.nx .virt) _ ?_ (hnx _) ?_ ?_
       ·simp only[RelV]; exact .inr ⟨addP_same _ _ _,trivial⟩
       ·rw[← hn]; exact jS hS0 T t
       ·exact hH0.new (hnx _) _
      ·refine hk _ (addP π S.nx (.real b' c ys.length)) _ ?_ (hnx _) ?_ (hH0.new (hnx _) _)
       ·simp only[RelV]; exact .inl ⟨b',_,_,addP_same _ _ _,by rw[hx.1]⟩
       ·rw[← hn];exact bZ hS0 hb _ (.inr ⟨b',c,_,addP_same _ _ _,by rw[← hx.1]; exact hc,upd_same _ _ _,hx⟩)
     split at h
     ·rename_i p i hx;split at h
      ·rename_i S2 ht;split at h
       ·rename_i T' t' l hb;split at h
        ·rename_i htt;subst htt;cases hd2:(Nat.beq T' T&&aC RD (S.nx+1))with
         | false=>rw[hd2]at h; cases h
         | true=>
          rw[hd2]at h; cases h;simp only[Bool.and_eq_true,aj]at hd2;obtain⟨rfl,hnb⟩:=hd2;obtain⟨o1,o2⟩:=ah ho;obtain⟨o2,o3⟩:=ah o2;simp only[bI,List.all_cons,List.all_nil,id,Bool.and_true,decide_eq_true_eq]at o3;have vx:=V x o1; rw[hx]at vx;obtain⟨xs,g1,g2⟩:=de hS hys (V y o2);obtain⟨π1,e1,h1,h2,v1,_⟩:=qI hS hH ht vx;exact xu h1 h2 hb hnb v1 (F x o1) (F y o2) g1 g2 o3 fun a π2 s2 q1 q2 q3 q4=>hK a π2 s2 q1 (e1.trans q2) q3 q4
        ·cases h
       ·cases h
      ·cases h
     ·rename_i hx;cases h;obtain⟨o1,o2⟩:=ah ho;obtain⟨o2,o3⟩:=ah o2;simp only[bI,List.all_cons,List.all_nil,id,Bool.and_true,decide_eq_true_eq]at o3;have vx:=V x o1; rw[hx]at vx;simp only[RelV]at vx;obtain⟨xs,g1,g2⟩:=de hS hys (V y o2);exact emp S hS hH rfl vx (F x o1) (F y o2) xs g1 g2 o3 hK
     ·rename_i b hx;split at h
      ·rename_i T' t' l hb;split at h
       ·rename_i ht;subst ht;cases hd2:(Nat.beq T' T&&aC RD b)with
        | false=>rw[hd2]at h; cases h
        | true=>
         rw[hd2]at h; cases h;simp only[Bool.and_eq_true,aj]at hd2;obtain⟨rfl,hnb⟩:=hd2;obtain⟨o1,o23⟩:=ah ho;obtain⟨o2,o3⟩:=ah o23;simp only[bI,List.all_cons,List.all_nil,id,Bool.and_true,decide_eq_true_eq]at o3;have vx:=V x o1; rw[hx]at vx;simp only[RelV]at vx;obtain⟨xs,g1,g2⟩:=de hS hys (V y o2);rcases hS.obj _ _ hb with⟨q1,rfl⟩ | ⟨b2,c2,zs,hp2,hcap,hs,hr⟩
         ·rcases vx with⟨b',c,m,hp,e⟩ | ⟨hp,e⟩
          ·rw[q1]at hp; cases hp
          ·exact emp (S.del b) (bi hS b) (hH.del hnb) rfl e (F x o1) (F y o2) xs g1 g2 (by simpa using o3) hK
         ·rcases vx with⟨b',c,m,hp,e⟩ | ⟨hp,_⟩
          ·rw[hp2]at hp; cases hp;refine⟨F x o1,F y o2,g2 _ ?_⟩;simp only[e,hs];refine⟨trivial,trivial,trivial,hr.1.symm,cI hS hH hb hnb hp2,by rw[g1.1]; exact o3,fun b3 c3 hb3 hR3 hc3=>?_⟩;have hS':=jT hS hb hp2;have hlen:l.length+xs.length=(l++ys).length:=by rw[List.length_append,g1.1]
           refine hK _ (addP π S.nx (.real b3 c3 (l++ys).length)) _ ?_ (hnx _) ?_ ((hH.del hnb).new (hnx _) _)
           ·simp only[RelV]; exact .inl ⟨b3,_,_,addP_same _ _ _,by rw[hlen]⟩
           ·exact bZ hS' hb3 _ (.inr ⟨b3,c3,_,addP_same _ _ _,by rw[← hlen]; exact hc3,upd_same _ _ _,dR hr g1⟩)
          ·rw[hp2]at hp; cases hp
       ·cases h
      ·cases h
     ·cases h
    ·cases h
  ·cases h
 ·
  rename_i kn m key v;split at h
  ·rename_i b hm;split at h
   ·rename_i kn' ag t es hb;split at h
    ·rename_i k x hk hx;cases hd:(Nat.beq kn' kn&&aC RD b)with
     | false=>rw[hd]at h; cases h
     | true=>
      rw[hd]at h; cases h;simp only[Bool.and_eq_true,aj]at hd;obtain⟨rfl,hnb⟩:=hd;obtain⟨o1,o2⟩:=ah ho;obtain⟨o2,o3⟩:=ah o2;have vm:=V m o1; rw[hm]at vm;simp only[RelV]at vm; obtain⟨b',c,n,hp,e⟩:=vm;obtain⟨b2,c2,n2,es',hp2,he,hs⟩:=hS.obj _ _ hb;rw[hp]at hp2; cases hp2;have hs:s' b'=some (.imap kn' es' none):=hs;refine⟨F m o1,F key o2,F v o3,?_⟩;simp only[e,hs];refine⟨trivial,cI hS hH hb hnb hp,gB hk (V key o2) _ (hK _ π _ (by simp only[RelV]) (Ext.refl _) (cA hS hb hp _ ?_) (hH.set _ _))⟩;exact⟨b',c,n,_,hp,ou k he (vu hx (V v o3)),upd_same _ _ _⟩
    ·cases h
   ·cases h
  ·cases h
 ·
  rename_i kn z m key;split at h
  ·rename_i b hm;split at h
   ·rename_i kn' ag t es hb;split at h
    ·rename_i k hk;cases hd:(Nat.beq kn' kn&&aC RD b&&EU ag t z)with
     | false=>rw[hd]at h; cases h
     | true=>
      rw[hd]at h; cases h;simp only[Bool.and_eq_true,aj]at hd;obtain⟨⟨rfl,hnb⟩,hz⟩:=hd;obtain⟨o1,o2⟩:=ah ho;have vm:=V m o1; rw[hm]at vm;simp only[RelV]at vm; obtain⟨b',c,n,hp,e⟩:=vm;obtain⟨b2,c2,n2,es',hp2,he,hs⟩:=hS.obj _ _ hb;rw[hp]at hp2; cases hp2;have hs:s' b'=some (.imap kn' es' none):=hs;have hg:MR ag t ((ef es k).getD t.zero) ((bK es' k).getD z):=by
       rcases ot k he with⟨g1,g2⟩ | ⟨x,a,g1,g2,g3⟩
       ·rw[g1,g2]; exact vw hz
       ·rw[g1,g2]; exact g3
      refine⟨F m o1,F key o2,?_⟩;simp only[e,hs];refine⟨trivial,cI hS hH hb hnb hp,gB hk (V key o2) _ fun st=>?_⟩;have h1:=hS.tick' st;have hb1:S.tick.get b=some (.imap kn' ag t es none):=hb;have hp1:=hnx (.tok st) _ _ hp;refine hK _ (addP π S.nx (.tok st)) _ ?_ (hnx _) (cA (S:=S.tick) h1 hb1 hp1 _ (o:=.imap kn' ag t es (some (S.nx,k,(ef es k).getD t.zero))) ?_) ?_
      ·simp only[RelV];refine⟨_,rfl,RelVs_cons (om hg) (aA ?_)⟩;simp only[RelV]; exact⟨st,addP_same _ _ _,rfl⟩
      ·exact⟨b',c,n,es',hp1,he,st,_,addP_same _ _ _,hg,upd_same _ _ _⟩
      ·exact(hH.set b (.imap kn' ag t es (some (S.nx,k,(ef es k).getD t.zero)))).mono (hnx _) fun b3 hb3=>by
        obtain⟨o3,ho3,_⟩:=(hH.set b (.imap kn' ag t es (some (S.nx,k,(ef es k).getD t.zero)))).live b3 hb3;exact⟨o3,ho3⟩
    ·cases h
   ·cases h
  ·cases h
 ·
  rename_i m st v;split at h
  ·rename_i b tk hm hst;split at h
   ·rename_i kn ag t es tk' k v0 hb;split at h
    ·rename_i x hx;cases hd:(Nat.beq tk tk'&&aC RD b)with
     | false=>rw[hd]at h; cases h
     | true=>
      rw[hd]at h; cases h;simp only[Bool.and_eq_true,aj]at hd;obtain⟨rfl,hnb⟩:=hd;obtain⟨o1,o2⟩:=ah ho;obtain⟨o2,o3⟩:=ah o2;have vm:=V m o1; rw[hm]at vm;simp only[RelV]at vm; obtain⟨b',c,n,hp,e⟩:=vm;have vs:=V st o2; rw[hst]at vs;simp only[RelV]at vs; obtain⟨y,hy,e2⟩:=vs;obtain⟨b2,c2,n2,es',hp2,he,y2,v0',hy2,hmr,hs⟩:=hS.obj _ _ hb;rw[hp]at hp2; cases hp2;rw[hy]at hy2; cases hy2;refine⟨F m o1,F st o2,F v o3,?_⟩;simp only[e,e2,hs];refine⟨trivial,cI hS hH hb hnb hp,hK _ π _ (by simp only[RelV]) (Ext.refl _) (cA hS hb hp _ ?_) (hH.set _ _)⟩;refine⟨b',c,n,mput es' k (ρ' v).val,hp,ou k he (vu hx (V v o3)),?_⟩;show upd s' b' _ b'=_;rw[upd_same,pm]
    ·cases h
   ·cases h
  ·cases h
 ·
  rename_i p v n;cases hc:(Nat.beq (aY (ρ v).val).length n&&(aY (ρ v).val).all DV.one)with
  | false=>rw[hc]at h; cases h
  | true=>
   rw[hc]at h;simp only[cond_true]at h;simp only[Bool.and_eq_true,aj]at hc;split at h
   ·rename_i b o hp;split at h
    ·rename_i cs hb;cases hd:dI (o+n) cs.length with
     | false=>rw[hd]at h; cases h
     | true=>
      rw[hd]at h; cases h;simp only[dI,Nat.ble_eq]at hd;obtain⟨o1,o2⟩:=ah ho;obtain⟨g1,g2⟩:=bu (V v o2) hc.2;have vp:=V p o1; rw[hp]at vp;simp only[RelV]at vp;obtain⟨b',c,m,hpb,e⟩:=vp;obtain⟨b2,c2,n2,as,hp2,hs,hr⟩:=hS.obj _ _ hb;rw[hpb]at hp2; cases hp2;refine⟨F p o1,F v o2,(aB g1).trans hc.1,g2,?_⟩;simp only[e,hs];refine⟨by rw[aB hr]; exact hd,hK _ π _ (by simp only[RelV]) (Ext.refl _) (cA hS hb hpb _ ?_) (hH.set _ _)⟩;exact⟨b',c,m,_,hpb,upd_same _ _ _,cH o hr g1⟩
    ·cases h
   ·rename_i b k i j hp;split at h
    ·rename_i T t l hb;cases hd:(Nat.beq t.w k&&dI (j+n) k)with
     | false=>rw[hd]at h; cases h
     | true=>
      rw[hd]at h;simp only[cond_true]at h;split at h
      ·rename_i x hx;cases h;simp only[Bool.and_eq_true,dI,Nat.ble_eq,aj]at hd;obtain⟨rfl,d3⟩:=hd;obtain⟨o1,o2⟩:=ah ho;obtain⟨g1,g2⟩:=bu (V v o2) hc.2;have vp:=V p o1; rw[hp]at vp;simp only[RelV]at vp;obtain⟨b',c,m,hpb,hi,e⟩:=vp;rcases hS.obj _ _ hb with⟨q1,_⟩ | ⟨b2,c2,xs,hp2,hcap,hs,hr⟩
       ·rw[hpb]at q1; cases q1
       ·rw[hpb]at hp2; cases hp2;have hcr:=bk hx (cH j (aR (π:=π) (hr.2 i hi)) g1);refine⟨F p o1,F v o2,(aB g1).trans hc.1,g2,?_⟩;simp only[e,hs];refine⟨trivial,by rw[hr.1]; exact hi,d3,hK _ π _ (by simp only[RelV]) (Ext.refl _) (cA hS hb hpb _ ?_) (hH.set _ _)⟩;exact .inr ⟨b',c,_,by rw[List.length_set]; exact hpb,by rw[List.length_set]; exact hcap,upd_same _ _ _,lh hr hi hcr⟩
      ·cases h
    ·cases h
   ·rename_i b k i j o hp;split at h
    ·rename_i T T' t l hb;cases hd:(Nat.beq t.w k&&dI (o+n) k)with
     | false=>rw[hd]at h; cases h
     | true=>
      rw[hd]at h;simp only[cond_true]at h;split at h
      ·rename_i x hx;cases h;simp only[Bool.and_eq_true,dI,Nat.ble_eq,aj]at hd;obtain⟨rfl,d3⟩:=hd;obtain⟨o1,o2⟩:=ah ho;obtain⟨g1,g2⟩:=bu (V v o2) hc.2;have vp:=V p o1; rw[hp]at vp;simp only[RelV]at vp;obtain⟨b',c,m,f,b2,c2,n2,hpb,hi,hf,hj,e⟩:=vp;rcases hS.obj _ _ hb with⟨q1,_⟩ | ⟨b3,c3,f3,hp3,hR⟩
       ·rw[hpb]at q1; cases q1
       ·rw[hpb]at hp3; cases hp3;have hI:=hR.ir i hi;rw[hf]at hI;obtain⟨rfl,hc2,ys,hs,hy⟩:=hI;have hcr:=bk hx (cH o (aR (π:=π) (hy.2 j hj)) g1);have hh:Loc.has (.rls b' c l.length f) b2:=.inr ⟨i,_,hi,hf,rfl⟩;refine⟨F p o1,F v o2,(aB g1).trans hc.1,g2,?_⟩;simp only[e,hs];refine⟨trivial,by rw[hy.1]; exact hj,d3,hK _ π _ (by simp only[RelV]) (Ext.refl _) (fo hS hb hpb hh _ ?_) (hH.set _ _)⟩;exact .inr ⟨b',c,f,by rw[List.length_set]; exact hpb,hR.set hi hf (lh hy hj hcr) (by rw[List.length_set])⟩
      ·cases h
    ·cases h
   ·rename_i b key o hp;split at h
    ·rename_i t es hb;cases hd:(dI (o+n) t.w)with
     | false=>rw[hd]at h; cases h
     | true=>
      rw[hd]at h;simp only[cond_true]at h;split at h
      ·rename_i x hx;cases h;simp only[Bool.and_eq_true,dI,Nat.ble_eq]at hd;have d3:=hd;obtain⟨o1,o2⟩:=ah ho;obtain⟨g1,g2⟩:=bu (V v o2) hc.2;have vp:=V p o1; rw[hp]at vp;simp only[RelV]at vp;obtain⟨g,y,hpb,hg,e⟩:=vp;obtain⟨g',hp3,hP⟩:=hS.obj _ _ hb;rw[hpb]at hp3; cases hp3;obtain⟨as,hs,hcr0⟩:=hP.ex _ _ hg;have hcr:=bk hx (cH o (aR (π:=π) hcr0) g1);have hh:Loc.has (.pol g) y:=⟨key,hg⟩
       refine⟨F p o1,F v o2,(aB g1).trans hc.1,g2,?_⟩;simp only[e,hs];exact⟨by rw[dt hcr0]; exact d3,hK _ π _ (by simp only[RelV]) (Ext.refl _) (fo hS hb hpb hh _ ⟨g,hpb,hP.set hg hcr⟩) (hH.set _ _)⟩
      ·cases h
    ·cases h
   ·cases h
 ·
  rename_i T k n z;split at h
  ·rename_i g0 t;cases hc:(Nat.beq t.w k&&gx t z&&dI 1 n)with
   | false=>rw[hc]at h; cases h
   | true=>
    rw[hc]at h; cases h;simp only[Bool.and_eq_true,aj,dI,Nat.ble_eq]at hc;obtain⟨⟨rfl,hz⟩,hn⟩:=hc;have hzc:CR t t.zero z:=by
     unfold gx at hz;split at hz
     ·rename_i he; obtain⟨c,rfl,g⟩:=fQ he; simpa using g
     ·cases hz
    intro b' hb hR;refine hK _ (addP π S.nx (.real b' n n)) _ ?_ (hnx _) (bZ hS hb _ ?_) (hH.new (hnx _) _)
    ·simp only[RelV]; exact⟨b',n,n,addP_same _ _ _,hn,rfl⟩
    ·refine .inr ⟨b',n,List.replicate n z,?_,by simp[dF],upd_same _ _ _,jl hzc n⟩;rw[addP_same]; simp[dF]
  ·cases h
 ·
  rename_i p v k n;split at h
  ·rename_i b k' cs hp hv;split at h
   ·rename_i T t l hb;cases hc:(Nat.beq k' k&&Nat.beq t.w k&&aC RD b&&cs.all DV.one)with
    | false=>rw[hc]at h; cases h
    | true=>
     rw[hc]at h;simp only[cond_true]at h;split at h
     ·rename_i l' hl;cases h;simp only[Bool.and_eq_true,aj]at hc;obtain⟨⟨⟨rfl,rfl⟩,hnb⟩,hone⟩:=hc;obtain⟨o1,o2⟩:=ah ho;obtain⟨o2,o3⟩:=ah o2;simp only[List.all_cons,List.all_nil,id,Bool.and_true,aj]at o3;have vp:=V p o1; rw[hp]at vp;simp only[RelV]at vp;obtain⟨b',c,N,hpb,hi,e⟩:=vp;have vv:=V v o2; rw[hv]at vv;simp only[RelV]at vv;obtain⟨as,e2,rv⟩:=vv;obtain⟨q1,q2,q3⟩:=iq hl rv;rcases hS.obj _ _ hb with⟨g1,_⟩ | ⟨b2,c2,xs,hp2,hcap,hs,hr⟩
      ·rw[hpb]at g1; cases g1
      ·rw[hpb]at hp2; cases hp2;refine⟨F p o1,F v o2,?_⟩;simp only[e,e2,hs];refine⟨trivial,trivial,by rw[hr.1]; exact o3,q2,jQ rv hone,cI hS hH hb hnb hpb,hK _ π _ (by simp only[RelV]) (Ext.refl _) (cA hS hb hpb _ ?_) (hH.set _ _)⟩;refine .inr ⟨b',c,_,by rw[q1,← o3]; exact hpb,by rw[q1,← o3]; exact hcap,upd_same _ _ _,by rw[ij,q1],fun i hi=>?_⟩;rw[q1]at hi;rw[iD _ _ hi];exact q3 i hi
     ·cases h
   ·cases h
  ·cases h
 ·
  rename_i x hi;split at h
  ·rename_i b kk z hx hz;split at h
   ·rename_i T t l hb;cases hc:aC RD b with
    | false=>rw[hc]at h; cases h
    | true=>
     rw[hc]at h; cases h;obtain⟨o1,o2⟩:=ah ho;obtain⟨o2,o3⟩:=ah o2;simp only[List.all_cons,List.all_nil,id,Bool.and_true,Bool.and_eq_true,decide_eq_true_eq]at o3;have ei:=aD hz (V hi o2);have v:=V x o1; rw[hx]at v;simp only[RelV]at v;rcases hS.obj _ _ hb with⟨g1,rfl⟩ | ⟨b2,c2,xs,hp2,hcap,hs,hr⟩
     ·simp at o3
     ·rcases v with⟨b',c,m,hp,e⟩ | ⟨hp,_⟩
      ·rw[hp2]at hp; cases hp;refine⟨F x o1,F hi o2,?_⟩;simp only[e,ei,hs];refine⟨trivial,hr.1.symm,cI hS hH hb hc hp2,o3.1,o3.2.1,fun b3 hb3 hR3=>?_⟩;have hS':=jT hS hb hp2;have hlen:(l.take z.toNat).length=z.toNat:=by simp; omega
       refine hK _ (addP π S.nx (.real b3 c2 z.toNat)) _ ?_ (hnx _) ?_ ((hH.del hc).new (hnx _) _)
       ·simp only[RelV]; exact .inl ⟨b3,_,_,addP_same _ _ _,rfl⟩
       ·exact bZ hS' hb3 _ (.inr ⟨b3,c2,_,by rw[hlen]; exact addP_same _ _ _,by rw[hlen]; omega,upd_same _ _ _,fq hr _⟩)
      ·rw[hp2]at hp; cases hp
   ·cases h
  ·cases h
 ·
  rename_i T k by_ z x n;split at h
  ·rename_i ag t;split at h
   ·rename_i ki m hx hm;cases hd:(Nat.beq t.w k&&gx t z)with
    | false=>rw[hd]at h; cases h
    | true=>
     rw[hd]at h; cases h;simp only[Bool.and_eq_true,aj]at hd;obtain⟨rfl,hz⟩:=hd;obtain⟨o1,o2⟩:=ah ho;obtain⟨o2,o3⟩:=ah o2;simp only[List.all_cons,List.all_nil,id,Bool.and_true,Bool.and_eq_true,decide_eq_true_eq]at o3;have e:=aD hm (V n o2);have v:=V x o1; rw[hx]at v;simp only[RelV]at v;have hz':CR t t.zero z:=by
      unfold gx at hz;split at hz
      ·rename_i hzz; obtain⟨c,rfl,g⟩:=fQ hzz; simpa using g
      ·cases hz
     refine⟨F x o1,F n o2,?_⟩;simp only[v,e];refine⟨o3.1,o3.2,fun b' c hb hR hc=>?_⟩;refine hK _ (addP π S.nx (.real b' c m.toNat)) _ ?_ (hnx _) (bZ hS hb _ ?_) (hH.new (hnx _) _)
     ·simp only[RelV]; exact .inl ⟨b',_,_,addP_same _ _ _,rfl⟩
     ·exact .inr ⟨b',c,_,by simp only[dF,List.length_replicate]; exact addP_same _ _ _,by simp only[dF,List.length_replicate]; exact hc,upd_same _ _ _,jl hz' _⟩
   ·cases h
  ·cases h
 ·
  rename_i x y k;split at h
  ·rename_i b k' p m hx;split at h
   ·rename_i T t l hb;cases hc:(Nat.beq k' k&&(Nat.beq t.w k&&aC RD b))with
    | false=>rw[hc]at h; cases h
    | true=>
     rw[hc]at h; simp only[cond_true]at h;split at h
     ·rename_i ys hys;cases h;simp only[Bool.and_eq_true,aj]at hc;obtain⟨rfl,rfl,hnb⟩:=hc;obtain⟨o1,o2⟩:=ah ho;obtain⟨xs',g1,g2⟩:=de hS hys (V y o2);have v:=V x o1; rw[hx]at v;simp only[RelV]at v;obtain⟨b',c,N,hp,hle,e⟩:=v;rcases hS.obj _ _ hb with⟨q1,_⟩ | ⟨b2,c2,xs,hp2,hcap,hs,hr⟩
      ·rw[hp]at q1; cases q1
      ·rw[hp]at hp2; cases hp2;have hlen:(kO l p (ys.take (min ys.length m))).length=l.length:=by simp[kO]; omega
       refine⟨F x o1,F y o2,g2 _ ?_⟩;unfold cpyD;simp only[e,hs];refine⟨trivial,trivial,by rw[hr.1]; exact hle,cI hS hH hb hnb hp,?_⟩;have e1:xs'.length=ys.length:=g1.1;rw[e1];refine hK _ π _ (by simp only[cC,RelV,CR]) (Ext.refl _) (cA hS hb hp _ ?_) (hH.set _ _);have e2:(xs'.take (min ys.length m)).length=(ys.take (min ys.length m)).length:=by simp[e1]
       refine .inr ⟨b',c,_,by rw[hlen]; exact hp,by rw[hlen]; exact hcap,upd_same _ _ _,?_⟩;unfold nR kO;rw[e2];exact dR (fq hr _) (dR (fq g1 _) (l7 hr _))
     ·cases h
   ·cases h
  ·rename_i b hx;split at h
   ·rename_i T t l hb;cases hc:(Nat.beq t.w k&&aC RD b)with
    | false=>rw[hc]at h; cases h
    | true=>
     rw[hc]at h; simp only[cond_true]at h;split at h
     ·rename_i ys hys;cases h;simp only[Bool.and_eq_true,aj]at hc;obtain⟨rfl,hnb⟩:=hc;obtain⟨o1,o2⟩:=ah ho;obtain⟨xs',g1,g2⟩:=de hS hys (V y o2);have v:=V x o1; rw[hx]at v;simp only[RelV]at v;have e1:xs'.length=ys.length:=g1.1;rcases v with⟨b',c,N,hp,e⟩ | ⟨hp,e⟩
      ·rcases hS.obj _ _ hb with⟨q1,_⟩ | ⟨b2,c2,xs,hp2,hcap,hs,hr⟩
       ·rw[hp]at q1; cases q1
       ·rw[hp]at hp2; cases hp2;have hlen:(kO l 0 (ys.take (min ys.length l.length))).length=l.length:=by simp[kO]; omega
        refine⟨F x o1,F y o2,g2 _ ?_⟩;unfold cpyD;simp only[e,hs];refine⟨trivial,by rw[hr.1]; exact Nat.le_refl _,cI hS hH hb hnb hp,?_⟩;rw[e1];refine hK _ π _ (by simp only[cC,RelV,CR]) (Ext.refl _) (cA hS hb hp _ ?_) (hH.set _ _);have e2:(xs'.take (min ys.length l.length)).length=(ys.take (min ys.length l.length)).length:=by simp[e1]
        refine .inr ⟨b',c,_,by rw[hlen]; exact hp,by rw[hlen]; exact hcap,upd_same _ _ _,?_⟩;unfold nR kO;rw[e2];exact dR (fq hr _) (dR (fq g1 _) (l7 hr _))
      ·have hl0:l=[]:=by
        rcases hS.obj _ _ hb with⟨_,q2⟩ | ⟨b2,c2,xs,hp2,_⟩
        ·exact q2
        ·rw[hp]at hp2; cases hp2
       subst hl0;refine⟨F x o1,F y o2,g2 _ ?_⟩;unfold cpyD;simp only[e];have hsame:∀ q,(S.set b (.row T t (kO [] 0 (ys.take (min ys.length ([]:List t.den).length))))).get q=S.get q:=fun q=>by
        rw[DSt.get_set];split
        ·rename_i eq; subst eq; rw[hb]; simp[kO]
        ·rfl
       refine hK _ π _ (by simp[cC,RelV,CR]) (Ext.refl _) ⟨fun q o hq=>hS.obj q o (by rw[← hsame]; exact hq),fun b1 b2 o1 o2 l1 l2 x h1 h2=>hS.inj' b1 b2 o1 o2 l1 l2 x (by rw[← hsame]; exact h1) (by rw[← hsame]; exact h2),hS.frm,fun q o l x hq=>hS.out' q o l x (by rw[← hsame]; exact hq),hS.nx⟩ (hH.set _ _)
     ·cases h
   ·cases h
  ·cases h
 ·
  rename_i x k z;split at h
  ·rename_i b k' p m hx;split at h
   ·rename_i T t l hb;cases hc:(Nat.beq k' k&&Nat.beq t.w k&&aC RD b&&gx t z)with
    | false=>rw[hc]at h; cases h
    | true=>
     rw[hc]at h; cases h;simp only[Bool.and_eq_true,aj]at hc;obtain⟨⟨⟨rfl,rfl⟩,hnb⟩,hz⟩:=hc;have hzc:CR t t.zero z:=by
      unfold gx at hz;split at hz
      ·rename_i he; obtain⟨c,rfl,g⟩:=fQ he; simpa using g
      ·cases hz
     have v:=V x ho; rw[hx]at v;simp only[RelV]at v;obtain⟨b',c,N,hp,hle,e⟩:=v;rcases hS.obj _ _ hb with⟨g1,_⟩ | ⟨b2,c2,xs,hp2,hcap,hs,hr⟩
     ·rw[hp]at g1; cases g1
     ·rw[hp]at hp2; cases hp2;have hlen:(oh l p m t.zero).length=l.length:=by simp[oh]; omega
      refine⟨F x ho,?_⟩;simp only[e,hs];refine⟨trivial,trivial,dt hzc,by rw[hr.1]; exact hle,cI hS hH hb hnb hp,hK _ π _ (by simp only[RelV]) (Ext.refl _) (cA hS hb hp _ ?_) (hH.set _ _)⟩;exact .inr ⟨b',c,_,by rw[hlen]; exact hp,by rw[hlen]; exact hcap,upd_same _ _ _,dR (fq hr _) (dR (jl hzc m) (l7 hr _))⟩
   ·cases h
  ·cases h
 ·cases h
end
end Go.Proofs.YtdkaijofmigmbaaGreat.D

set_option linter.unusedVariables false
set_option linter.unusedSectionVars false
set_option linter.unusedSimpArgs false
namespace Go.Proofs.YtdkaijofmigmbaaGreat.D
open Go Go.Proofs.YtdkaijofmigmbaaGreat.L
variable [YP]
theorem pp {t:Ty}{l:Leaf}{x:t.den}(h:gc t l.t l.x=some x):l=⟨t,x⟩:=by
 obtain⟨t',y⟩:=l;unfold gc at h;split at h
 ·rename_i he; have he:t'=t:=he; subst he; cases h; rfl
 ·cases h
theorem aM:∀ {ts:List Ty} {l:List Leaf} {x:dens ts},ct ts l=some x→ofDens ts x=l
 | [],[],x,h=>rfl
 | [],_::_,x,h=>by simp[ct]at h
 | [t],[],x,h=>by simp[ct]at h
 | [t],[l],x,h=>by
  have h:gc t l.t l.x=some x:=h;rw[pp h]; rfl
 | [t],_::_::_,x,h=>by simp[ct]at h
 | t::u::ts,[],x,h=>by simp[ct]at h
 | t::u::ts,l::ls,x,h=>by
  simp only[ct]at h;split at h
  ·rename_i y hy;split at h
   ·rename_i r hr;cases h;rw[pp hy];simp only[ofDens];rw[aM hr]
   ·cases h
  ·cases h
def ez (π:Pi):Option Nat→Option Loc
 | some b=>π b
 | none=>some .virt
def Mt (π:Pi)(nm:Nm)(π2:Pi)(ρ:Nat→Nat):Prop:=∀ k x,fnd nm k=some x→∀ l,ez π x=some l→π2 (ρ k)=some l
def NmLe (nm nm':Nm):Prop:=∀ k x,fnd nm k=some x→fnd nm' k=some x
theorem NmLe.refl (nm:Nm):NmLe nm nm:=fun _ _ h=>h
theorem NmLe.trans {a b c:Nm}(h:NmLe a b)(k:NmLe b c):NmLe a c:=fun x y hx=>k x y (h x y hx)
theorem Mt.le {π π2:Pi}{nm nm':Nm}{ρ:Nat→Nat}(h:Mt π nm' π2 ρ)(k:NmLe nm nm'):Mt π nm π2 ρ:=fun a x hx=>h a x (k a x hx)
section
variable {π π2:Pi} {ρ:Nat→Nat}
theorem aH {nm nm':Nm}{k b:Nat}(h:eh nm k b=some nm'):NmLe nm nm'∧fnd nm' k=some (some b):=by
 unfold eh at h;split at h
 ·rename_i hn;cases h;refine⟨fun a x hx=>?_,by simp[fnd]⟩;by_cases e:k=a
  ·subst e; rw[hn]at hx; cases hx
  ·simp[fnd,bE e,hx]
 ·rename_i b' hb;cases hc:Nat.beq b' b with
  | false=>rw[hc]at h; cases h
  | true=>rw[hc]at h; cases h; exact⟨NmLe.refl _,by rw[hb,aj.1 hc]⟩
 ·cases h
theorem gV {nm nm':Nm}{k:Nat}(h:rE nm k=some nm'):NmLe nm nm'∧fnd nm' k=some none:=by
 unfold rE at h;split at h
 ·rename_i hn;cases h;refine⟨fun a x hx=>?_,by simp[fnd]⟩;by_cases e:k=a
  ·subst e; rw[hn]at hx; cases hx
  ·simp[fnd,bE e,hx]
 ·rename_i hb; cases h; exact⟨NmLe.refl _,hb⟩
 ·cases h
mutual
theorem vB:∀ (r:RSh) {d:DV} {nm nm':Nm} {l:List Leaf} {a:AV},bJ none r d nm=some (l,nm')→RelV π d a →
  NmLe nm nm'∧∀ rest,Mt π nm' π2 ρ→∃ d2,fillV ρ r (l++rest)=some (d2,rest)∧RelV π2 d2 a
 | .v t,d,nm,nm',l,a,h,hr=>by
  simp only[bJ]at h;split at h
  ·rename_i x hx;cases h;exact⟨NmLe.refl _,fun rest hm=>⟨.v ⟨t,x⟩,by simp[fillV],by simp only[RelV]; exact bk hx (aA hr)⟩⟩
  ·cases h
 | .st t,d,nm,nm',l,a,h,hr=>by
  cases d with
  | agg ds=>
   simp only[bJ]at h;split at h
   ·rename_i x hx;cases h;simp only[RelV]at hr;obtain⟨as,rfl,hr⟩:=hr;exact⟨NmLe.refl _,fun rest hm=>⟨.agg (ak t x),by simp[fillV],by simp only[RelV]; exact⟨as,rfl,aR (bk hx hr)⟩⟩⟩
   ·cases h
  | _=>simp[bJ]at h
 | .elm t,d,nm,nm',l,a,h,hr=>by
  cases d with
  | elm ds=>
   simp only[bJ]at h;split at h
   ·rename_i x hx;cases h;simp only[RelV]at hr;obtain⟨as,rfl,hr⟩:=hr;exact⟨NmLe.refl _,fun rest hm=>⟨.elm (ak t x),by simp[fillV],by simp only[RelV]; exact⟨as,rfl,aR (bk hx hr)⟩⟩⟩
   ·cases h
  | ptr b o=>cases o <;> simp[bJ]at h
  | _=>simp[bJ]at h
 | .ptr k o,d,nm,nm',l,a,h,hr=>by
  cases d with
  | ptr b o'=>
   simp only[bJ]at h;cases hc:Nat.beq o o' with
   | false=>rw[hc]at h; cases h
   | true=>
    rw[hc]at h;obtain rfl:=aj.1 hc;simp only[cond_true]at h;split at h
    ·rename_i nm1 hb;cases h;obtain⟨g1,g2⟩:=aH hb;simp only[RelV]at hr;obtain⟨b',c,n,hp,rfl⟩:=hr;exact⟨g1,fun rest hm=>⟨.ptr (ρ k) o,by simp[fillV],by simp only[RelV]; exact⟨b',c,n,hm _ _ g2 _ hp,rfl⟩⟩⟩
    ·cases h
  | _=>simp[bJ]at h
 | .slc k,d,nm,nm',l,a,h,hr=>by
  cases d with
  | slc b=>
   simp only[bJ]at h;split at h
   ·rename_i nm1 hb;cases h;obtain⟨g1,g2⟩:=aH hb;refine⟨g1,fun rest hm=>⟨.slc (ρ k),by simp[fillV],?_⟩⟩;simp only[RelV]at hr ⊢;rcases hr with⟨b',c,n,hp,rfl⟩ | ⟨hp,rfl⟩
    ·exact .inl ⟨b',c,n,hm _ _ g2 _ hp,rfl⟩
    ·exact .inr ⟨hm _ _ g2 _ hp,rfl⟩
   ·cases h
  | emp=>
   simp only[bJ]at h;split at h
   ·rename_i nm1 hb;cases h;obtain⟨g1,g2⟩:=gV hb;refine⟨g1,fun rest hm=>⟨.slc (ρ k),by simp[fillV],?_⟩⟩;simp only[RelV]at hr ⊢;exact .inr ⟨hm _ _ g2 _ rfl,hr⟩
   ·cases h
  | _=>simp[bJ]at h
 | .slo k w,d,nm,nm',l,a,h,hr=>by
  cases d with
  | slo b w' o m=>
   simp only[bJ]at h;cases hc:Nat.beq w w' with
   | false=>rw[hc]at h; cases h
   | true=>
    rw[hc]at h;obtain rfl:=aj.1 hc
    try simp only[cond_true]at h
    split at h
    ·rename_i nm1 hb;cases h;obtain⟨g1,g2⟩:=aH hb;simp only[RelV]at hr;obtain⟨b',c,n,hp,hle,rfl⟩:=hr;exact⟨g1,fun rest hm=>⟨.slo (ρ k) w o m,by simp[fillV,gc],by simp only[RelV]; exact⟨b',c,n,hm _ _ g2 _ hp,hle,rfl⟩⟩⟩
    ·cases h
  | _=>simp[bJ]at h
 | .aptr k w,d,nm,nm',l,a,h,hr=>by
  cases d with
  | rptr b w' i j=>
   cases i with
   | succ i=>simp[bJ]at h
   | zero=>
    cases j with
    | succ j=>simp[bJ]at h
    | zero=>
     simp only[bJ]at h;cases hc:Nat.beq w w' with
     | false=>rw[hc]at h; cases h
     | true=>
      rw[hc]at h;obtain rfl:=aj.1 hc
      try simp only[cond_true]at h
      split at h
      ·rename_i nm1 hb;cases h;obtain⟨g1,g2⟩:=aH hb;simp only[RelV]at hr;obtain⟨b',c,n,hp,hle,rfl⟩:=hr;exact⟨g1,fun rest hm=>⟨.rptr (ρ k) w 0 0,by simp[fillV],by simp only[RelV]; exact⟨b',c,n,hm _ _ g2 _ hp,hle,rfl⟩⟩⟩
      ·cases h
  | _=>simp[bJ]at h
 | .mp k,d,nm,nm',l,a,h,hr=>by
  cases d with
  | mp b=>
   simp only[bJ]at h;split at h
   ·rename_i nm1 hb;cases h;obtain⟨g1,g2⟩:=aH hb;simp only[RelV]at hr;obtain⟨b',c,n,hp,rfl⟩:=hr;exact⟨g1,fun rest hm=>⟨.mp (ρ k),by simp[fillV],by simp only[RelV]; exact⟨b',c,n,hm _ _ g2 _ hp,rfl⟩⟩⟩
   ·cases h
  | _=>simp[bJ]at h
 | .slr k,d,nm,nm',l,a,h,hr=>by
  cases d with
  | slr b=>
   simp only[bJ]at h;split at h
   ·rename_i nm1 hb;cases h;obtain⟨g1,g2⟩:=aH hb;refine⟨g1,fun rest hm=>⟨.slr (ρ k),by simp[fillV],?_⟩⟩;simp only[RelV]at hr ⊢;rcases hr with⟨b',c,n,f,hp,rfl⟩ | ⟨hp,rfl⟩
    ·exact .inl ⟨b',c,n,f,hm _ _ g2 _ hp,rfl⟩
    ·exact .inr ⟨hm _ _ g2 _ hp,rfl⟩
   ·cases h
  | emp=>
   simp only[bJ]at h;split at h
   ·rename_i nm1 hb;cases h;obtain⟨g1,g2⟩:=gV hb;refine⟨g1,fun rest hm=>⟨.slr (ρ k),by simp[fillV],?_⟩⟩;simp only[RelV]at hr ⊢;exact .inr ⟨hm _ _ g2 _ rfl,hr⟩
   ·cases h
  | _=>simp[bJ]at h
 | .irow k,d,nm,nm',l,a,h,hr=>by
  cases d with
  | irow b i=>
   simp only[bJ]at h;split at h
   ·rename_i nm1 hb;cases h;obtain⟨g1,g2⟩:=aH hb;simp only[RelV]at hr;obtain⟨b',c,n,f,hp,hi,rfl⟩:=hr;exact⟨g1,fun rest hm=>⟨.irow (ρ k) i,by simp[fillV,gc],by simp only[RelV]; exact⟨b',c,n,f,hm _ _ g2 _ hp,hi,rfl⟩⟩⟩
   ·cases h
  | _=>simp[bJ]at h
 | .pel k,d,nm,nm',l,a,h,hr=>by
  cases d with
  | pel b key o=>
   cases o with
   | succ o=>simp[bJ]at h
   | zero=>
    simp only[bJ]at h;split at h
    ·rename_i nm1 hb;cases h;obtain⟨g1,g2⟩:=aH hb;simp only[RelV]at hr;obtain⟨g,x,hp,hg,rfl⟩:=hr;exact⟨g1,fun rest hm=>⟨.pel (ρ k) key 0,by simp[fillV,gc],by simp only[RelV]; exact⟨g,x,hm _ _ g2 _ hp,hg,rfl⟩⟩⟩
    ·cases h
  | _=>simp[bJ]at h
 | .mpl k,d,nm,nm',l,a,h,hr=>by
  cases d with
  | mpl b=>
   simp only[bJ]at h;split at h
   ·rename_i nm1 hb;cases h;obtain⟨g1,g2⟩:=aH hb;simp only[RelV]at hr;obtain⟨b',hp,rfl⟩:=hr;exact⟨g1,fun rest hm=>⟨.mpl (ρ k),by simp[fillV],by simp only[RelV]; exact⟨b',hm _ _ g2 _ hp,rfl⟩⟩⟩
   ·cases h
  | _=>simp[bJ]at h
 | .slh k,d,nm,nm',l,a,h,hr=>by
  cases d with
  | slh b=>
   simp only[bJ]at h;split at h
   ·rename_i nm1 hb;cases h;obtain⟨g1,g2⟩:=aH hb;simp only[RelV]at hr;obtain⟨b',c,n,hp,rfl⟩:=hr;exact⟨g1,fun rest hm=>⟨.slh (ρ k),by simp[fillV],by simp only[RelV]; exact⟨b',c,n,hm _ _ g2 _ hp,rfl⟩⟩⟩
   ·cases h
  | _=>simp[bJ]at h
 | .nilp,d,nm,nm',l,a,h,hr=>by
  cases d with
  | nilp=>
   simp only[bJ]at h;cases h;exact⟨NmLe.refl _,fun rest hm=>⟨.nilp,by simp[fillV],by simp only[RelV]at hr ⊢; exact hr⟩⟩
  | _=>simp[bJ]at h
 | .nilm,d,nm,nm',l,a,h,hr=>by
  cases d with
  | nilm=>
   simp only[bJ]at h;cases h;exact⟨NmLe.refl _,fun rest hm=>⟨.nilm,by simp[fillV],by simp only[RelV]at hr ⊢; exact hr⟩⟩
  | _=>simp[bJ]at h
 | .emp,d,nm,nm',l,a,h,hr=>by
  cases d with
  | emp=>
   simp only[bJ]at h;cases h;exact⟨NmLe.refl _,fun rest hm=>⟨.emp,by simp[fillV],by simp only[RelV]at hr ⊢; exact hr⟩⟩
  | _=>simp[bJ]at h
 | .any,d,nm,nm',l,a,h,hr=>by
  have h':some (([]:List Leaf),nm)=some (l,nm'):=by cases d <;> simpa only[bJ]using h
  cases h';exact⟨NmLe.refl _,fun rest hm=>⟨.undef,by simp[fillV],by simp only[RelV]⟩⟩
 | .agg rs,d,nm,nm',l,a,h,hr=>by
  cases d with
  | agg ds=>
   simp only[bJ]at h;simp only[RelV]at hr;obtain⟨as,rfl,hr⟩:=hr;obtain⟨g1,g2⟩:=dW rs h hr;refine⟨g1,fun rest hm=>?_⟩;obtain⟨ds2,k1,k2⟩:=g2 rest hm;exact⟨.agg ds2,by simp[fillV,k1],by simp only[RelV]; exact⟨as,rfl,k2⟩⟩
  | _=>simp[bJ]at h
 | .tup rs,d,nm,nm',l,a,h,hr=>by
  cases d with
  | tup ds=>
   simp only[bJ]at h;simp only[RelV]at hr;obtain⟨as,rfl,hr⟩:=hr;obtain⟨g1,g2⟩:=dW rs h hr;refine⟨g1,fun rest hm=>?_⟩;obtain⟨ds2,k1,k2⟩:=g2 rest hm;exact⟨.tup ds2,by simp[fillV,k1],by simp only[RelV]; exact⟨as,rfl,k2⟩⟩
  | _=>simp[bJ]at h
 | .fn f rs,d,nm,nm',l,a,h,hr=>by
  cases d with
  | fn f' ds=>
   simp only[bJ]at h;cases hc:Nat.beq f f' with
   | false=>rw[hc]at h; cases h
   | true=>
    rw[hc]at h;obtain rfl:=aj.1 hc;simp only[cond_true,Option.isSome_none,Bool.false_and,cond_false]at h;simp only[RelV]at hr;obtain⟨as,rfl,hr⟩:=hr;obtain⟨g1,g2⟩:=dW rs h hr;refine⟨g1,fun rest hm=>?_⟩;obtain⟨ds2,k1,k2⟩:=g2 rest hm;exact⟨.fn f ds2,by simp[fillV,k1],by simp only[RelV]; exact⟨as,rfl,k2⟩⟩
  | _=>simp[bJ]at h
theorem dW:∀ (rs:List RSh) {ds:List DV} {nm nm':Nm} {l:List Leaf} {as:List AV},ia none rs ds nm=some (l,nm')→RelVs π ds as →
  NmLe nm nm'∧∀ rest,Mt π nm' π2 ρ→∃ ds2,fillVs ρ rs (l++rest)=some (ds2,rest)∧RelVs π2 ds2 as
 | [],ds,nm,nm',l,as,h,hr=>by
  cases ds with
  | nil=>
   simp only[ia]at h;cases h;simp only[RelVs]at hr; subst hr;exact⟨NmLe.refl _,fun rest hm=>⟨[],by simp[fillVs],RelVs_nil⟩⟩
  | cons d ds=>simp[ia]at h
 | r::rs,ds,nm,nm',l,as,h,hr=>by
  cases ds with
  | nil=>simp[ia]at h
  | cons d ds=>
   simp only[ia]at h;simp only[RelVs]at hr;obtain⟨a,as',rfl,hr1,hr2⟩:=hr;split at h
   ·rename_i l1 nm1 h1;split at h
    ·rename_i l2 nm2 h2;cases h;obtain⟨g1,g2⟩:=vB r h1 hr1;obtain⟨g3,g4⟩:=dW rs h2 hr2;refine⟨g1.trans g3,fun rest hm=>?_⟩;obtain⟨d2,k1,k2⟩:=g2 (l2++rest) (hm.le g3);obtain⟨ds2,k3,k4⟩:=g4 rest hm;exact⟨d2::ds2,by simp only[fillVs,List.append_assoc,k1,k3],RelVs_cons k2 k4⟩
    ·cases h
   ·cases h
end
theorem vC {Fr:Store}{S:DSt}{s':Store}(hS:RelS π Fr S s'){o:OSh}{x:Option Nat}{nm nm':Nm}{l:List Leaf}(h:Js S o x nm=some (l,nm')):
  NmLe nm nm'∧(∀ b,x=some b→∃ o,S.get b=some o)∧∀ k rest,Mt π nm' π2 ρ→(∀ lc,ez π x=some lc→π2 (ρ k)=some lc)→∃ o2,bS ρ o (l++rest)=some (o2,rest)∧ObR π2 s' (ρ k) o2:=by
 cases x with
 | none=>
  unfold Js at h;split at h
  ·rename_i T t _;cases h;exact⟨NmLe.refl _,fun b hb=>(by cases hb),fun k rest hm hl=>⟨.row T t [],by simp[bS],.inl ⟨hl _ rfl,rfl⟩⟩⟩
  ·rename_i T T' t _;cases h;exact⟨NmLe.refl _,fun b hb=>(by cases hb),fun k rest hm hl=>⟨.rows T T' t [],by simp[bS],.inl ⟨hl _ rfl,rfl⟩⟩⟩
  ·rename_i he; cases he
  ·cases h
 | some b=>
  unfold Js at h;split at h
  ·rename_i he; cases he
  ·rename_i he; cases he
  ·rename_i o' b' he;cases he;split at h
   ·
    rename_i t cs hb;split at h
    ·rename_i x hx;cases h;refine⟨NmLe.refl _,fun b2 hb2=>by cases hb2; exact⟨_,hb⟩,fun k rest hm hl=>⟨.box (ak t x),by simp[bS],?_⟩⟩;obtain⟨b',c,n,as,h1,h2,h3⟩:=hS.obj _ _ hb;exact⟨b',c,n,as,hl _ h1,h2,aR (bk hx h3)⟩
    ·cases h
   ·
    rename_i rs cs hb;obtain⟨b',c,n,as,h1,h2,h3⟩:=hS.obj _ _ hb;obtain⟨g1,g2⟩:=dW (π2:=π2) (ρ:=ρ) rs h h3;refine⟨g1,fun b2 hb2=>by cases hb2; exact⟨_,hb⟩,fun k rest hm hl=>?_⟩;obtain⟨ds2,k1,k2⟩:=g2 rest hm;exact⟨.box ds2,by simp[bS,k1],b',c,n,as,hl _ h1,h2,k2⟩
   ·
    rename_i T t T' t' l' hb;cases hc:(Nat.beq T T'&&decide (t=t'))with
    | false=>rw[hc]at h; cases h
    | true=>
     rw[hc]at h; cases h;simp only[Bool.and_eq_true,aj,decide_eq_true_eq]at hc;obtain⟨rfl,rfl⟩:=hc;refine⟨NmLe.refl _,fun b2 hb2=>by cases hb2; exact⟨_,hb⟩,fun k rest hm hl=>⟨.row T t l',by simp[bS],?_⟩⟩;rcases hS.obj _ _ hb with⟨q1,q2⟩ | ⟨b2,c2,xs,hp2,hcap,hs,hr⟩
     ·exact .inl ⟨hl _ q1,q2⟩
     ·exact .inr ⟨b2,c2,xs,hl _ hp2,hcap,hs,hr⟩
   ·
    rename_i kn ag t kn' ag' t' es hb;cases hc:(Nat.beq kn kn'&&(decide (ag=ag')&&decide (t=t')))with
    | false=>rw[hc]at h; cases h
    | true=>
     rw[hc]at h; cases h;simp only[Bool.and_eq_true,aj,decide_eq_true_eq]at hc;obtain⟨rfl,rfl,rfl⟩:=hc;refine⟨NmLe.refl _,fun b2 hb2=>by cases hb2; exact⟨_,hb⟩,fun k rest hm hl=>⟨.imap kn ag t es none,by simp[bS],?_⟩⟩;obtain⟨b',c,n,es',h1,h2,h3⟩:=hS.obj _ _ hb;exact⟨b',c,n,es',hl _ h1,h2,h3⟩
   ·
    rename_i T T' t T1 T1' t' l' hb;cases hc:(Nat.beq T T1&&(Nat.beq T' T1'&&decide (t=t')))with
    | false=>rw[hc]at h; cases h
    | true=>
     rw[hc]at h; cases h;simp only[Bool.and_eq_true,aj,decide_eq_true_eq]at hc;obtain⟨rfl,rfl,rfl⟩:=hc;refine⟨NmLe.refl _,fun b2 hb2=>by cases hb2; exact⟨_,hb⟩,fun k rest hm hl=>⟨.rows T T' t l',by simp[bS],?_⟩⟩;rcases hS.obj _ _ hb with⟨q1,q2⟩ | ⟨b2,c2,f,hp2,hR⟩
     ·exact .inl ⟨hl _ q1,q2⟩
     ·exact .inr ⟨b2,c2,f,hl _ hp2,hR⟩
   ·
    rename_i t t' es hb;cases hc:decide (t=t')with
    | false=>rw[hc]at h; cases h
    | true=>
     rw[hc]at h; cases h;have:=of_decide_eq_true hc; subst this;refine⟨NmLe.refl _,fun b2 hb2=>by cases hb2; exact⟨_,hb⟩,fun k rest hm hl=>⟨.pool t es,by simp[bS],?_⟩⟩;obtain⟨g,h1,h2⟩:=hS.obj _ _ hb;exact⟨g,hl _ h1,h2⟩
   ·
    rename_i kp p hb;split at h
    ·rename_i nm1 hn;cases h;obtain⟨g1,g2⟩:=aH hn;refine⟨g1,fun b2 hb2=>by cases hb2; exact⟨_,hb⟩,fun k rest hm hl=>⟨.pmap (ρ kp),by simp[bS],?_⟩⟩;obtain⟨b',c,n,g,h1,h2,h3⟩:=hS.obj _ _ hb;exact⟨b',c,n,g,hl _ h1,hm _ _ g2 _ h2,h3⟩
    ·cases h
   ·
    rename_i k hb;cases h;refine⟨fun _ _ h=>h,fun b2 hb2=>by cases hb2; exact⟨_,hb⟩,fun k' rest hm hl=>⟨.raw k,by simp[bS],?_⟩⟩;obtain⟨b',c,n,h1,h2⟩:=hS.obj _ _ hb;exact⟨b',c,n,hl _ h1,h2⟩
   ·
    rename_i kp p hb;split at h
    ·rename_i nm1 hn;cases h;obtain⟨g1,g2⟩:=aH hn;refine⟨g1,fun b2 hb2=>by cases hb2; exact⟨_,hb⟩,fun k rest hm hl=>⟨.gone (ρ kp),by simp[bS],?_⟩⟩;obtain⟨b',g,h1,h2⟩:=hS.obj _ _ hb;exact⟨b',g,hl _ h1,hm _ _ g2 _ h2⟩
    ·cases h
   ·
    rename_i kp p hb;split at h
    ·rename_i nm1 hn;cases h;obtain⟨g1,g2⟩:=aH hn;refine⟨g1,fun b2 hb2=>by cases hb2; exact⟨_,hb⟩,fun k rest hm hl=>⟨.hdl (ρ kp),by simp[bS],?_⟩⟩;obtain⟨b',c,n,f,h1,h2⟩:=hS.obj _ _ hb;exact⟨b',c,n,f,hl _ h1,hm _ _ g2 _ h2⟩
    ·cases h
   ·cases h
  ·cases h
theorem nl {Fr:Store}{S:DSt}{s':Store}(hS:RelS π Fr S s'):∀ (os:List (Nat×OSh)) {nm nm':Nm} {l:List Leaf},vk S os nm=some (l,nm') →
  NmLe nm nm'∧(∀ k o,(k,o)∈os→∃ x,fnd nm' k=some x∧∀ b,x=some b→∃ o,S.get b=some o) ∧
  ∀ rest,Mt π nm' π2 ρ→∃ xs,da ρ os (l++rest)=some (xs,rest)∧∀ b o,(b,o)∈xs→ObR π2 s' b o
 | [],nm,nm',l,h=>by
  cases h;exact⟨NmLe.refl _,fun k o hk=>by simp at hk,fun rest hm=>⟨[],by simp[da],fun b o hb=>by simp at hb⟩⟩
 | (k,o)::os,nm,nm',l,h=>by
  simp only[vk]at h;split at h
  ·rename_i x hx;split at h
   ·rename_i l1 nm1 h1;split at h
    ·rename_i l2 nm2 h2;cases h;obtain⟨g1,g2,g3⟩:=vC (π2:=π2) (ρ:=ρ) hS h1;obtain⟨k1,k2,k3⟩:=nl hS os h2;refine⟨g1.trans k1,fun k' o' hk'=>?_,fun rest hm=>?_⟩
     ·rcases List.mem_cons.1 hk' with e | hk'
      ·cases e; exact⟨x,(g1.trans k1) _ _ hx,g2⟩
      ·exact k2 k' o' hk'
     ·obtain⟨o2,q1,q2⟩:=g3 k (l2++rest) (hm.le k1) (fun lc hl=>hm k x ((g1.trans k1) _ _ hx) lc hl);obtain⟨xs,q3,q4⟩:=k3 rest hm;refine⟨(ρ k,o2)::xs,by simp only[da,List.append_assoc,q1,q3],fun b o' hb=>?_⟩;rcases List.mem_cons.1 hb with e | hb
      ·cases e; exact q2
      ·exact q4 b o' hb
    ·cases h
   ·cases h
  ·cases h
end
theorem gC {π:Pi}:∀ {ds ds':List DV} {as:List AV},RelVs π (ds++ds') as→∃ as1 as2,as=as1++as2∧RelVs π ds as1∧RelVs π ds' as2
 | [],ds',as,h=>⟨[],as,rfl,RelVs_nil,h⟩
 | d::ds,ds',as,h=>by
  simp only[List.cons_append,RelVs]at h;obtain⟨a,as',rfl,g,h⟩:=h;obtain⟨as1,as2,rfl,h1,h2⟩:=gC h;exact⟨a::as1,as2,rfl,RelVs_cons g h1,h2⟩
section
variable {π1 π2:Pi} {ρ0 ρ:Nat→Nat}
theorem eA:∀ {t:Ty} {x:t.den} {as:List AV},RelVs π1 (ak t x) as→RelVs π2 (ak t x) as
 | .pair a b,x,as,h=>by
  simp only[ak]at h ⊢;obtain⟨as1,as2,rfl,h1,h2⟩:=gC h;exact du (eA h1) (eA h2)
 | .es _,x,as,h=>by
  simp only[ak,RelVs]at h ⊢;obtain⟨a,as',rfl,_,rfl⟩:=h;exact⟨a,[],rfl,by simp only[RelV],rfl⟩
 | .int _,x,as,h | .bool,x,as,h | .str,x,as,h | .sl _,x,as,h | .opt _,x,as,h=>by
  simp only[ak,RelVs]at h ⊢;obtain⟨a,as',rfl,g,rfl⟩:=h;exact⟨a,[],rfl,by simp only[RelV]at g ⊢; exact g,rfl⟩
theorem vD {ρ0:Nat→Nat}{k w:Nat}{l l':List Leaf}{d:DV}(h:fillV ρ0 (.slo k w) l=some (d,l')):∃ o m:Int,d = .slo (ρ0 k) w o.toNat m.toNat∧∀ ρ:Nat→Nat,fillV ρ (.slo k w) l=some (.slo (ρ k) w o.toNat m.toNat,l'):=by
 cases l with
 | nil=>simp[fillV]at h
 | cons x l=>
  cases l with
  | nil=>simp[fillV]at h
  | cons y l=>
   simp only[fillV]at h;split at h
   ·rename_i o m h1 h2;cases h;exact⟨o,m,rfl,fun ρ=>by simp only[fillV,h1,h2]⟩
   ·cases h
mutual
theorem tB (hx:∀ k l,π1 (ρ0 k)=some l→π2 (ρ k)=some l):∀ (r:RSh) {l l':List Leaf} {d:DV} {a:AV},fillV ρ0 r l=some (d,l')→RelV π1 d a→∃ d2,fillV ρ r l=some (d2,l')∧RelV π2 d2 a
 | .v t,l,l',d,a,h,hr=>by
  cases l with
  | nil=>simp[fillV]at h
  | cons x l=>
   simp only[fillV]at h ⊢;cases hc:decide (x.t=t)with
   | false=>rw[hc]at h; cases h
   | true=>
    rw[hc]at h;cases h;refine⟨_,rfl,?_⟩;simp only[RelV]at hr ⊢; exact hr
 | .st t,l,l',d,a,h,hr=>by
  cases l with
  | nil=>simp[fillV]at h
  | cons x l=>
   simp only[fillV]at h ⊢;cases hc:decide (x.t=t)with
   | false=>rw[hc]at h; cases h
   | true=>
    rw[hc]at h;cases h;refine⟨_,rfl,?_⟩;simp only[RelV]at hr ⊢;obtain⟨as,rfl,hr⟩:=hr;exact⟨as,rfl,eA hr⟩
 | .elm t,l,l',d,a,h,hr=>by
  cases l with
  | nil=>simp[fillV]at h
  | cons x l=>
   simp only[fillV]at h ⊢;cases hc:decide (x.t=t)with
   | false=>rw[hc]at h; cases h
   | true=>
    rw[hc]at h;cases h;refine⟨_,rfl,?_⟩;simp only[RelV]at hr ⊢;obtain⟨as,rfl,hr⟩:=hr;exact⟨as,rfl,eA hr⟩
 | .ptr k o,l,l',d,a,h,hr=>by
  simp only[fillV]at h ⊢;cases h;simp only[RelV]at hr;obtain⟨b',c,n,hp,rfl⟩:=hr;exact⟨_,rfl,by simp only[RelV]; exact⟨b',c,n,hx _ _ hp,rfl⟩⟩
 | .slc k,l,l',d,a,h,hr=>by
  simp only[fillV]at h ⊢;cases h;refine⟨_,rfl,?_⟩;simp only[RelV]at hr ⊢;rcases hr with⟨b',c,n,hp,rfl⟩ | ⟨hp,rfl⟩
  ·exact .inl ⟨b',c,n,hx _ _ hp,rfl⟩
  ·exact .inr ⟨hx _ _ hp,rfl⟩
 | .slo k w,l,l',d,a,h,hr=>by
  obtain⟨o,m,rfl,hf⟩:=vD h;simp only[RelV]at hr;obtain⟨b',c,n,hp,hle,rfl⟩:=hr;exact⟨.slo (ρ k) w (Int.toNat o) (Int.toNat m),hf ρ,by simp only[RelV]; exact⟨b',c,n,hx _ _ hp,hle,rfl⟩⟩
 | .aptr k w,l,l',d,a,h,hr=>by
  simp only[fillV]at h ⊢;cases h;simp only[RelV]at hr;obtain⟨b',c,n,hp,hle,rfl⟩:=hr;exact⟨_,rfl,by simp only[RelV]; exact⟨b',c,n,hx _ _ hp,hle,rfl⟩⟩
 | .mp k,l,l',d,a,h,hr=>by
  simp only[fillV]at h ⊢;cases h;simp only[RelV]at hr;obtain⟨b',c,n,hp,rfl⟩:=hr;exact⟨_,rfl,by simp only[RelV]; exact⟨b',c,n,hx _ _ hp,rfl⟩⟩
 | .slr k,l,l',d,a,h,hr=>by
  simp only[fillV]at h ⊢;cases h;refine⟨_,rfl,?_⟩;simp only[RelV]at hr ⊢;rcases hr with⟨b',c,n,f,hp,rfl⟩ | ⟨hp,rfl⟩
  ·exact .inl ⟨b',c,n,f,hx _ _ hp,rfl⟩
  ·exact .inr ⟨hx _ _ hp,rfl⟩
 | .irow k,l,l',d,a,h,hr=>by
  cases l with
  | nil=>simp[fillV]at h
  | cons x l=>
   simp only[fillV]at h ⊢;split at h
   ·rename_i i hi;cases h;simp only[RelV]at hr;obtain⟨b',c,n,f,hp,hi,rfl⟩:=hr;exact⟨_,rfl,by simp only[RelV]; exact⟨b',c,n,f,hx _ _ hp,hi,rfl⟩⟩
   ·cases h
 | .pel k,l,l',d,a,h,hr=>by
  cases l with
  | nil=>simp[fillV]at h
  | cons x l=>
   simp only[fillV]at h ⊢;split at h
   ·rename_i i hi;cases h;simp only[RelV]at hr;obtain⟨g,y,hp,hg,rfl⟩:=hr;exact⟨_,rfl,by simp only[RelV]; exact⟨g,y,hx _ _ hp,hg,rfl⟩⟩
   ·cases h
 | .mpl k,l,l',d,a,h,hr=>by
  simp only[fillV]at h ⊢;cases h;simp only[RelV]at hr;obtain⟨b',hp,rfl⟩:=hr;exact⟨_,rfl,by simp only[RelV]; exact⟨b',hx _ _ hp,rfl⟩⟩
 | .slh k,l,l',d,a,h,hr=>by
  simp only[fillV]at h ⊢;cases h;simp only[RelV]at hr;obtain⟨b',c,n,hp,rfl⟩:=hr;exact⟨_,rfl,by simp only[RelV]; exact⟨b',c,n,hx _ _ hp,rfl⟩⟩
 | .nilp,l,l',d,a,h,hr=>by
  simp only[fillV]at h ⊢;cases h;exact⟨_,rfl,by simp only[RelV]at hr ⊢; exact hr⟩
 | .nilm,l,l',d,a,h,hr=>by
  simp only[fillV]at h ⊢;cases h;exact⟨_,rfl,by simp only[RelV]at hr ⊢; exact hr⟩
 | .emp,l,l',d,a,h,hr=>by
  simp only[fillV]at h ⊢;cases h;exact⟨_,rfl,by simp only[RelV]at hr ⊢; exact hr⟩
 | .any,l,l',d,a,h,hr=>by
  simp only[fillV]at h ⊢;cases h;exact⟨_,rfl,by simp only[RelV]⟩
 | .agg rs,l,l',d,a,h,hr=>by
  simp only[fillV]at h ⊢;split at h
  ·rename_i ds l1 h1;cases h;simp only[RelV]at hr;obtain⟨as,rfl,hr⟩:=hr;obtain⟨ds2,k1,k2⟩:=dw hx rs h1 hr;exact⟨.agg ds2,by rw[k1],by simp only[RelV]; exact⟨as,rfl,k2⟩⟩
  ·cases h
 | .tup rs,l,l',d,a,h,hr=>by
  simp only[fillV]at h ⊢;split at h
  ·rename_i ds l1 h1;cases h;simp only[RelV]at hr;obtain⟨as,rfl,hr⟩:=hr;obtain⟨ds2,k1,k2⟩:=dw hx rs h1 hr;exact⟨.tup ds2,by rw[k1],by simp only[RelV]; exact⟨as,rfl,k2⟩⟩
  ·cases h
 | .fn f rs,l,l',d,a,h,hr=>by
  simp only[fillV]at h ⊢;split at h
  ·rename_i ds l1 h1;cases h;simp only[RelV]at hr;obtain⟨as,rfl,hr⟩:=hr;obtain⟨ds2,k1,k2⟩:=dw hx rs h1 hr;exact⟨.fn f ds2,by rw[k1],by simp only[RelV]; exact⟨as,rfl,k2⟩⟩
  ·cases h
theorem dw (hx:∀ k l,π1 (ρ0 k)=some l→π2 (ρ k)=some l):∀ (rs:List RSh) {l l':List Leaf} {ds:List DV} {as:List AV},fillVs ρ0 rs l=some (ds,l')→RelVs π1 ds as→∃ ds2,fillVs ρ rs l=some (ds2,l')∧RelVs π2 ds2 as
 | [],l,l',ds,as,h,hr=>by
  simp only[fillVs]at h ⊢;cases h;simp only[RelVs]at hr; subst hr;exact⟨[],rfl,RelVs_nil⟩
 | r::rs,l,l',ds,as,h,hr=>by
  simp only[fillVs]at h ⊢;split at h
  ·rename_i d l1 h1;split at h
   ·rename_i ds1 l2 h2;cases h;simp only[RelVs]at hr;obtain⟨a,as',rfl,hr1,hr2⟩:=hr;obtain⟨d2,k1,k2⟩:=tB hx r h1 hr1;obtain⟨ds2,k3,k4⟩:=dw hx rs h2 hr2;exact⟨d2::ds2,by simp only[k1,k3],RelVs_cons k2 k4⟩
   ·cases h
  ·cases h
end
theorem tC (hx:∀ k l,π1 (ρ0 k)=some l→π2 (ρ k)=some l){s':Store}{o:OSh}{k:Nat}{l l':List Leaf}{x:DObj}(h:bS ρ0 o l=some (x,l'))(hr:ObR π1 s' (ρ0 k) x):
  ∃ x2,bS ρ o l=some (x2,l')∧ObR π2 s' (ρ k) x2:=by
 cases o with
 | boxT t=>
  cases l with
  | nil=>simp[bS]at h
  | cons y l=>
   simp only[bS]at h ⊢;cases hc:decide (y.t=t)with
   | false=>rw[hc]at h; cases h
   | true=>
    rw[hc]at h;cases h;obtain⟨b',c,n,as,h1,h2,h3⟩:=hr;exact⟨_,rfl,b',c,n,as,hx _ _ h1,h2,eA h3⟩
 | box rs=>
  simp only[bS]at h ⊢;split at h
  ·rename_i ds l1 h1;cases h;obtain⟨b',c,n,as,g1,g2,g3⟩:=hr;obtain⟨ds2,k1,k2⟩:=dw hx rs h1 g3;exact⟨.box ds2,by rw[k1],b',c,n,as,hx _ _ g1,g2,k2⟩
  ·cases h
 | row T t=>
  unfold bS at h ⊢;split at h <;> rename_i he <;> first | (cases he; done) | skip
  ·rename_i t' y l1;cases he;cases hc:decide (t'=t)with
   | false=>rw[hc]at h; cases h
   | true=>
    rw[hc]at h;cases h;refine⟨.row T t' y,by simp only[hc,cond_true],?_⟩;rcases hr with⟨q1,q2⟩ | ⟨b2,c2,xs,hp2,hcap,hs,hr⟩
    ·exact .inl ⟨hx _ _ q1,q2⟩
    ·exact .inr ⟨b2,c2,xs,hx _ _ hp2,hcap,hs,hr⟩
  ·cases h
 | imap kn ag t=>
  unfold bS at h ⊢;split at h <;> rename_i he <;> first | (cases he; done) | skip
  ·rename_i t' y l1;cases he;cases hc:decide (t'=t)with
   | false=>rw[hc]at h; cases h
   | true=>
    rw[hc]at h;cases h;refine⟨.imap kn ag t' y none,by simp only[hc,cond_true],?_⟩;obtain⟨b',c,n,es',h1,h2,h3⟩:=hr;exact⟨b',c,n,es',hx _ _ h1,h2,h3⟩
  ·cases h
 | rows T T' t=>
  unfold bS at h ⊢;split at h <;> rename_i he <;> first | (cases he; done) | skip
  ·rename_i t' y l1;cases he;cases hc:decide (t'=t)with
   | false=>rw[hc]at h; cases h
   | true=>
    rw[hc]at h;cases h;refine⟨.rows T T' t' y,by simp only[hc,cond_true],?_⟩;rcases hr with⟨q1,q2⟩ | ⟨b2,c2,f,hp2,hR⟩
    ·exact .inl ⟨hx _ _ q1,q2⟩
    ·exact .inr ⟨b2,c2,f,hx _ _ hp2,hR⟩
  ·cases h
 | pool t=>
  unfold bS at h ⊢;split at h <;> rename_i he <;> first | (cases he; done) | skip
  ·rename_i t' y l1;cases he;cases hc:decide (t'=t)with
   | false=>rw[hc]at h; cases h
   | true=>
    rw[hc]at h;cases h;refine⟨.pool t' y,by simp only[hc,cond_true],?_⟩;obtain⟨g,h1,h2⟩:=hr;exact⟨g,hx _ _ h1,h2⟩
  ·cases h
 | pmap kp=>
  simp only[bS]at h ⊢;cases h;obtain⟨b',c,n,g,h1,h2,h3⟩:=hr;exact⟨_,rfl,b',c,n,g,hx _ _ h1,hx _ _ h2,h3⟩
 | gone kp=>
  simp only[bS]at h ⊢;cases h;obtain⟨b',g,h1,h2⟩:=hr;exact⟨_,rfl,b',g,hx _ _ h1,hx _ _ h2⟩
 | hdl kp=>
  simp only[bS]at h ⊢;cases h;obtain⟨b',c,n,f,h1,h2⟩:=hr;exact⟨_,rfl,b',c,n,f,hx _ _ h1,hx _ _ h2⟩
 | raw=>
  match l,h with
  | ⟨.int .i64,k⟩::l,h=>
   simp only[bS]at h ⊢;cases h;obtain⟨b',c,n,h1,h2⟩:=hr;exact⟨_,rfl,b',c,n,hx _ _ h1,h2⟩
theorem l8 (hx:∀ k l,π1 (ρ0 k)=some l→π2 (ρ k)=some l){s':Store}:∀ (os:List (Nat×OSh)) {l l':List Leaf} {xs:List (Nat×DObj)},da ρ0 os l=some (xs,l')→(∀ b o,(b,o)∈xs→ObR π1 s' b o) →
  ∃ xs2,da ρ os l=some (xs2,l')∧∀ b2 o2,(b2,o2)∈xs2→∃ k o,b2=ρ k∧(ρ0 k,o)∈xs∧ObR π2 s' b2 o2
 | [],l,l',xs,h,hr=>by
  simp only[da]at h ⊢;cases h;exact⟨[],rfl,fun b o hb=>by simp at hb⟩
 | (k,o)::os,l,l',xs,h,hr=>by
  simp only[da]at h ⊢;split at h
  ·rename_i x l1 h1;split at h
   ·rename_i xs1 l2 h2;cases h;obtain⟨x2,g1,g2⟩:=tC (k:=k) hx h1 (hr _ _ (by simp));obtain⟨xs2,g3,g4⟩:=l8 hx os h2 (fun b o hb=>hr b o (by simp[hb]));refine⟨(ρ k,x2)::xs2,by simp only[g1,g3],fun b2 o2 hb=>?_⟩;rcases List.mem_cons.1 hb with e | hb
    ·cases e; exact⟨k,x,rfl,by simp,g2⟩
    ·obtain⟨k',o',q1,q2,q3⟩:=g4 b2 o2 hb;exact⟨k',o',q1,by simp[q2],q3⟩
   ·cases h
  ·cases h
end
end Go.Proofs.YtdkaijofmigmbaaGreat.D

set_option linter.unusedVariables false
set_option linter.unusedSectionVars false
set_option linter.unusedSimpArgs false
namespace Go.Proofs.YtdkaijofmigmbaaGreat.D
open Go Go.Proofs.YtdkaijofmigmbaaGreat.L
variable [YP]
theorem dA {α:Type}:∀ {l:List (Nat×α)} {b:Nat} {o:α},fnd l b=some o→(b,o)∈l
 | [],b,o,h=>by simp[fnd]at h
 | (c,p)::l,b,o,h=>by
  simp only[fnd]at h;by_cases e:c=b
  ·subst e; simp at h; subst h; simp
  ·simp only[bE e,cond_false]at h; simp[dA h]
theorem rN {α:Type}:∀ {l:List (Nat×α)} {b:Nat} {o:α},(b,o)∈l→∃ o',fnd l b=some o'
 | (c,p)::l,b,o,h=>by
  by_cases e:c=b
  ·subst e; exact⟨p,by simp[fnd]⟩
  ·rcases List.mem_cons.1 h with h | h
   ·cases h; exact absurd rfl e
   ·obtain⟨o',ho⟩:=rN h; exact⟨o',by simp only[fnd,bE e,cond_false]; exact ho⟩
theorem cO {l:List Nat}{b:Nat}:l.any (Nat.beq b)=true↔b∈l:=by
 rw[List.any_eq_true];constructor
 ·rintro⟨x,hx,h⟩; rw[aj.1 h]; exact hx
 ·exact fun h=>⟨b,h,Nat.beq_refl b⟩
theorem mem_names:∀ {nm:Nm} {b:Nat},b∈aK nm↔∃ k,(k,some b)∈nm
 | [],b=>by simp[aK]
 | (k,none)::nm,b=>by
  simp only[aK,mem_names (nm:=nm),List.mem_cons,Prod.mk.injEq,reduceCtorEq,and_false,false_or]
 | (k,some c)::nm,b=>by
  simp only[aK,List.mem_cons,mem_names (nm:=nm),Prod.mk.injEq,Option.some.injEq];constructor
  ·rintro(rfl | ⟨k',h⟩)
   ·exact⟨k,.inl ⟨rfl,rfl⟩⟩
   ·exact⟨k',.inr h⟩
  ·rintro⟨k',⟨rfl,rfl⟩ | h⟩
   ·exact .inl rfl
   ·exact .inr ⟨k',h⟩
theorem tD {nm:Nm}{k b:Nat}(h:fnd nm k=some (some b)):b∈aK nm:=mem_names.2 ⟨k,dA h⟩
theorem fS {b:Nat}{l:List Nat}(h:bO (b::l)=true):b∉l∧bO l=true:=by
 simp only[bO,Bool.and_eq_true,Bool.not_eq_true']at h;refine⟨fun hb=>?_,h.2⟩;rw[cO.2 hb]at h;cases h.1
theorem names_inj:∀ {nm:Nm} {k1 k2 b:Nat},bO (aK nm)=true→(k1,some b)∈nm→(k2,some b)∈nm→k1=k2
 | (k,none)::nm,k1,k2,b,h,h1,h2=>by
  simp only[List.mem_cons,Prod.mk.injEq,reduceCtorEq,and_false,false_or]at h1 h2;exact names_inj (nm:=nm) h h1 h2
 | (k,some c)::nm,k1,k2,b,h,h1,h2=>by
  obtain⟨g1,g2⟩:=fS (b:=c) (l:=aK nm) h;simp only[List.mem_cons,Prod.mk.injEq,Option.some.injEq]at h1 h2;rcases h1 with⟨rfl,rfl⟩ | h1 <;> rcases h2 with⟨rfl,e2⟩ | h2
  ·rfl
  ·exact absurd (mem_names.2 ⟨_,h2⟩) g1
  ·subst e2; exact absurd (mem_names.2 ⟨_,h1⟩) g1
  ·exact names_inj g2 h1 h2
theorem names_fnd {α:Type}:∀ {nm:List (Nat×α)} {k:Nat} {x:α},bO (nm.map (·.1))=true→(k,x)∈nm→fnd nm k=some x
 | (k',y)::nm,k,x,h,hm=>by
  have h':bO (k'::nm.map (·.1))=true:=h;obtain⟨g1,g2⟩:=fS h';rcases List.mem_cons.1 hm with e | hm
  ·cases e; simp[fnd]
  ·have:k'≠k:=fun e=>by subst e; exact g1 (List.mem_map.2 ⟨_,hm,rfl⟩)
   simp only[fnd,bE this,cond_false];exact names_fnd g2 hm
theorem iM {os:List (Nat×OSh)}:∀ {nm:Nm} {k:Nat} {x:Option Nat},gz os nm=true→fnd nm k=some x→∃ o,(k,o)∈os
 | (k',y)::nm,k,x,h,hf=>by
  simp only[gz,Bool.and_eq_true]at h;by_cases e:k'=k
  ·subst e;obtain⟨⟨k2,o⟩,h1,h2⟩:=List.any_eq_true.1 h.1;obtain rfl:=aj.1 h2;exact⟨o,h1⟩
  ·simp only[fnd,bE e,cond_false]at hf;exact iM h.2 hf
theorem l9 {q:Nat}:∀ {os:List (Nat×OSh)} {k:Nat} {o:OSh},iH q os=true→(k,o)∈os→k < q
 | (k',o')::os,k,o,h,hm=>by
  simp only[iH,Bool.and_eq_true]at h;rcases List.mem_cons.1 hm with e | hm
  ·cases e; have h1:=h.1; simp[Nat.blt,Nat.ble_eq]at h1; omega
  ·exact l9 h.2 hm
def cu (π:Pi)(nm:Nm):Pi:=fun k=>match fnd nm k with
 | some x=>ez π x
 | none=>none
theorem jU {π:Pi}{nm:Nm}{k:Nat}{l:Loc}{x:Nat}(h:cu π nm k=some l)(hx:l.has x):∃ b,fnd nm k=some (some b)∧π b=some l:=by
 unfold cu at h;split at h
 ·rename_i y hy;cases y with
  | none=>simp only[ez,Option.some.injEq]at h; subst h; exact hx.elim
  | some b=>exact⟨b,hy,h⟩
 ·cases h
section
variable {π:Pi} {Fr:Store} {S:DSt} {s':Store}
theorem dN (hS:RelS π Fr S s'){sh:StSh}{q:Nat}{ds:List DV}{nm0 nm:Nm}{l:List Leaf}{as:List AV}(h:iI none S sh q ds nm0=some (l,nm))(hr:RelVs π ds as){Fr1:Store}
  (f1:∀ b' x,Fr1 b'=some x→s' b'=some x) (f2:∀ k b lc x,fnd nm k=some (some b)→π b=some lc→lc.has x→Fr1 x=none) :
  NmLe nm0 nm∧bO (aK nm)=true∧bO (sh.objs.map (·.1))=true∧(∀ k b,fnd nm k=some (some b)→∃ o,S.get b=some o) ∧
  ∃ ds0 os0,fillSt (fun k=>k) sh l=some (ds0,os0)∧RelVs (cu π nm) ds0 as∧RelS (cu π nm) Fr1 ⟨q,os0⟩ s':=by
 unfold iI at h;split at h
 ·rename_i l1 nm1 h1;split at h
  ·rename_i l2 nm2 h2;cases hc:(bO (aK nm2)&&(bO (nm2.map (·.1))&&(gz sh.objs nm2&&(iH q sh.objs&&bO (sh.objs.map (·.1))))))with
   | false=>rw[hc]at h; cases h
   | true=>
    rw[hc]at h;cases h;simp only[Bool.and_eq_true]at hc;obtain⟨c1,c2,c3,c4,c5⟩:=hc;obtain⟨g1,g2⟩:=dW (π2:=cu π nm) (ρ:=fun k=>k) sh.vals h1 hr;obtain⟨g3,g4,g5⟩:=nl (π2:=cu π nm) (ρ:=fun k=>k) hS sh.objs h2;have hM:Mt π nm (cu π nm) (fun k=>k):=fun k x hx lc hl=>by simp only[cu,hx,hl]
    obtain⟨ds0,k1,k2⟩:=g2 (l2++[]) (hM.le g3);obtain⟨os0,k3,k4⟩:=g5 [] hM;have live:∀ k b,fnd nm k=some (some b)→∃ o,S.get b=some o:=fun k b hk=>by
     obtain⟨o,ho⟩:=iM c3 hk;obtain⟨x,hx,hb⟩:=g4 k o ho;rw[hk]at hx; cases hx;exact hb b rfl
    refine⟨g1.trans g3,c1,c5,live,ds0,os0,?_,k2,?_⟩
    ·simp only[List.append_nil]at k1 k3;simp only[fillSt,k1,k3]
    ·refine⟨fun b o hb=>k4 b o (dA hb),fun b1 b2 o1 o2 l1 l2 x h1 h2 p1 p2 x1 x2=>?_,f1,fun b o lc x hb hp hx=>?_,fun b hb=>?_⟩
     ·obtain⟨d1,q1,q2⟩:=jU p1 x1;obtain⟨d2,q3,q4⟩:=jU p2 x2;obtain⟨o3,h3⟩:=live _ _ q1;obtain⟨o4,h4⟩:=live _ _ q3;have:=hS.inj' _ _ _ _ _ _ _ h3 h4 q2 q4 x1 x2;subst this;exact names_inj c1 (dA q1) (dA q3)
     ·obtain⟨d1,q1,q2⟩:=jU hp hx;exact f2 _ _ _ _ q1 q2 hx
     ·have hb:q≤b:=hb;unfold cu;cases hf:fnd nm b with
      | none=>rfl
      | some x=>
       obtain⟨o,ho⟩:=iM c3 hf;have:=l9 c4 ho;omega
  ·cases h
 ·cases h
open Classical in
noncomputable def cS (π:Pi)(nm:Nm)(s':Store):Store:=fun b'=>if ∃ k b l,fnd nm k=some (some b)∧π b=some l∧l.has b' then none else s' b'
theorem lj {nm:Nm}{b':Nat}{x:AObj}(h:cS π nm s' b'=some x):s' b'=some x:=by
 unfold cS at h;split at h
 ·cases h
 ·exact h
theorem gW {nm:Nm}{k b b':Nat}{l:Loc}(h:fnd nm k=some (some b))(hp:π b=some l)(hx:l.has b'):cS π nm s' b'=none:=by
 unfold cS;rw[if_pos ⟨k,b,l,h,hp,hx⟩]
theorem jm (hS:RelS π Fr S s'){nm:Nm}(live:∀ k b,fnd nm k=some (some b)→∃ o,S.get b=some o){b b':Nat}{l:Loc}{o:DObj}(hb:S.get b=some o)(hn:b∉aK nm)(hp:π b=some l)(hx:l.has b'):cS π nm s' b'=s' b':=by
 unfold cS;rw[if_neg];rintro⟨k,b2,l2,h1,h2,h3⟩;obtain⟨o2,ho2⟩:=live _ _ h1;have:=hS.inj' _ _ _ _ _ _ _ hb ho2 hp h2 hx h3;subst this;exact hn (tD h1)
theorem lk (hS:RelS π Fr S s'){nm:Nm}(live:∀ k b,fnd nm k=some (some b)→∃ o,S.get b=some o){b':Nat}{x:AObj}(h:Fr b'=some x):cS π nm s' b'=some x:=by
 unfold cS;rw[if_neg,hS.frm _ _ h];rintro⟨k,b2,l2,h1,h2,h3⟩;obtain⟨o2,ho2⟩:=live _ _ h1;rw[hS.out' _ _ _ _ ho2 h2 h3]at h; cases h
theorem iN:∀ (L:List Nat) (S:DSt) (b:Nat),(fN S L).get b=if b∈L then none else S.get b
 | [],S,b=>by simp[fN]
 | c::L,S,b=>by
  simp only[fN,iN L,DSt.get_del,List.mem_cons];by_cases h1:b=c <;> by_cases h2:b∈L <;> simp[h1,h2]
theorem ma:∀ (os:List (Nat×DObj)) {m:List (Nat×DObj)} {b:Nat} {o:DObj},fnd (jM m os) b=some o→(b,o)∈os∨fnd m b=some o
 | [],m,b,o,h=>.inr h
 | (c,p)::os,m,b,o,h=>by
  rcases ma os h with h | h
  ·exact .inl (by simp[h])
  ·rw[cF]at h;by_cases e:b=c
   ·rw[if_pos e]at h; cases h; exact .inl (by simp[e])
   ·rw[if_neg e]at h; exact .inr h
theorem kF:∀ (os:List (Nat×DObj)) {m:List (Nat×DObj)} {b:Nat} {o:DObj},fnd m b=some o→∃ o',fnd (jM m os) b=some o'
 | [],m,b,o,h=>⟨o,h⟩
 | (c,p)::os,m,b,o,h=>by
  have:∃ o1,fnd (ju m c p) b=some o1:=by
   rw[cF];split
   ·exact⟨_,rfl⟩
   ·exact⟨_,h⟩
  obtain⟨o1,h1⟩:=this;exact kF os h1
theorem gD {ρ:Nat→Nat}:∀ {os:List (Nat×OSh)} {l l':List Leaf} {xs:List (Nat×DObj)},da ρ os l=some (xs,l')→xs.map (·.1)=os.map fun x=>ρ x.1
 | [],l,l',xs,h=>by cases h; rfl
 | (k,o)::os,l,l',xs,h=>by
  simp only[da]at h;split at h
  ·split at h
   ·rename_i hx; cases h; simp[gD hx]
   ·cases h
  ·cases h
theorem dG (hS:RelS π Fr S s'){nm:Nm}(live:∀ k b,fnd nm k=some (some b)→∃ o,S.get b=some o){π1:Pi}{s1:Store}{o:OutSh}{l:List Leaf}{ds:List DV}{os:List (Nat×DObj)}{as:List AV}
  (hf:fillSt (fun k=>k) o.st l=some (ds,os)) (hnd:bO (o.st.objs.map (·.1))=true) (hr:RelVs π1 ds as) (h1:RelS π1 (cS π nm s') ⟨o.q,os⟩ s1) (hid:∀ k,o.ids.any (Nat.beq k)=true→∀ b,fnd nm k=some (some b)→π1 k=π b) :
  ∃ ds2 S2 π2,el S nm o l=some (ds2,S2)∧Ext π π2∧RelVs π2 ds2 as∧RelS π2 Fr S2 s1 ∧
   (∀ b o,S.get b=some o→b∉aK nm→∃ o',S2.get b=some o')∧(∀ b o l x,S.get b=some o→b∉aK nm→π b=some l→l.has x→s1 x=s' x):=by
 let π2:Pi:=fun b=>if b < S.nx then π b else π1 (b-S.nx)
 have lt:∀ b l,π b=some l→b < S.nx:=fun b l hb=>by
  rcases Nat.lt_or_ge b S.nx with h | h
  ·exact h
  ·rw[hS.nx b h]at hb; cases hb
 have hx:Ext π π2:=fun b l hb=>by show(if b < S.nx then π b else _)=_; rw[if_pos (lt _ _ hb)]; exact hb
 have hx1:∀ k l,π1 k=some l→π2 (vl S.nx nm o.ids k)=some l:=fun k l hk=>by
  have other:π2 (S.nx+k)=some l:=by
   show(if S.nx+k < S.nx then π _ else π1 (S.nx+k-S.nx))=_;rw[if_neg (by omega),Nat.add_sub_cancel_left]; exact hk
  unfold vl;split
  ·rename_i b ha hb;rw[hid k ha b hb]at hk;exact hx _ _ hk
  ·exact other
 unfold fillSt at hf;split at hf
 ·rename_i ds1 l1 hv;split at hf
  ·rename_i os1 ho;cases hf;obtain⟨ds2,g1,g2⟩:=dw (ρ0:=fun k=>k) hx1 o.st.vals hv hr;have hkeys:bO (os.map (·.1))=true:=by rw[gD ho]; exact hnd
   have hO:∀ b x,(b,x)∈os→ObR π1 s1 b x:=fun b x hb=>h1.obj b x (names_fnd hkeys hb);obtain⟨os2,g3,g4⟩:=l8 (ρ0:=fun k=>k) hx1 o.st.objs ho hO;refine⟨ds2,⟨S.nx+o.q,jM (fN S (aK nm)).m os2⟩,π2,?_,hx,g2,?_,?_,?_⟩
   ·simp only[el,fillSt,g1,g3]
   ·have inv:∀ b x,fnd (jM (fN S (aK nm)).m os2) b=some x→(∃ k y,b=vl S.nx nm o.ids k∧(k,y)∈os∧ObR π2 s1 b x)∨(S.get b=some x∧b∉aK nm):=fun b x hb=>by
     rcases ma os2 hb with h | h
     ·obtain⟨k,y,q1,q2,q3⟩:=g4 b x h; exact .inl ⟨k,y,q1,q2,q3⟩
     ·have h:(fN S (aK nm)).get b=some x:=h;rw[iN]at h;split at h
      ·cases h
      ·rename_i hn; exact .inr ⟨h,hn⟩
    have old:∀ b x l b',S.get b=some x→b∉aK nm→π b=some l→l.has b'→s1 b'=s' b':=fun b x l b' hb hn hp hh=>by
     have e:=jm hS live hb hn hp hh;cases hs:s' b' with
     | none=>exact absurd hs ((hS.obj _ _ hb).some'' hp hh)
     | some z=>rw[hs]at e; exact h1.frm _ _ e
    have p2:∀ b x l,S.get b=some x→π2 b=some l→π b=some l:=fun b x l hb hp=>by
     obtain⟨lc,hl⟩:=(hS.obj _ _ hb).loc;have:=hx _ _ hl;rw[hp]at this; cases this; exact hl
    have p1:∀ k y l,(k,y)∈os→π2 (vl S.nx nm o.ids k)=some l→π1 k=some l:=fun k y l hk hp=>by
     obtain⟨lc,hl⟩:=(hO _ _ hk).loc;have:=hx1 _ _ hl;rw[hp]at this; cases this; exact hl
    refine⟨fun b x hb=>?_,fun b1 b2 x1 x2 l1 l2 y hb1 hb2 hp1 hp2 hh1 hh2=>?_,fun b' x h=>h1.frm _ _ (lk hS live h),fun b x l y hb hp hh=>?_,fun b hb=>?_⟩
    ·rcases inv b x hb with⟨k,y,_,_,h⟩ | ⟨h,hn⟩
     ·exact h
     ·exact(hS.obj _ _ h).mono hx fun l y hp hh=>old b x l y h hn hp hh
    ·rcases inv _ _ hb1 with⟨k1,y1,rfl,m1,_⟩ | ⟨q1,q2⟩ <;> rcases inv _ _ hb2 with⟨k2,y2,rfl,m2,_⟩ | ⟨q3,q4⟩
     ·rw[h1.inj' k1 k2 y1 y2 l1 l2 y (names_fnd hkeys m1) (names_fnd hkeys m2) (p1 _ _ _ m1 hp1) (p1 _ _ _ m2 hp2) hh1 hh2]
     ·have e1:=h1.out' k1 y1 l1 y (names_fnd hkeys m1) (p1 _ _ _ m1 hp1) hh1;have e2:=p2 _ _ _ q3 hp2;rw[jm hS live q3 q4 e2 hh2]at e1;exact absurd e1 ((hS.obj _ _ q3).some'' e2 hh2)
     ·have e1:=h1.out' k2 y2 l2 y (names_fnd hkeys m2) (p1 _ _ _ m2 hp2) hh2;have e2:=p2 _ _ _ q1 hp1;rw[jm hS live q1 q2 e2 hh1]at e1;exact absurd e1 ((hS.obj _ _ q1).some'' e2 hh1)
     ·exact hS.inj' _ _ _ _ _ _ _ q1 q3 (p2 _ _ _ q1 hp1) (p2 _ _ _ q3 hp2) hh1 hh2
    ·rcases inv _ _ hb with⟨k,z,rfl,m1,_⟩ | ⟨h,hn⟩
     ·have e1:=h1.out' k z l y (names_fnd hkeys m1) (p1 _ _ _ m1 hp) hh;cases hfr:Fr y with
      | none=>rfl
      | some w=>rw[lk hS live hfr]at e1; cases e1
     ·exact hS.out' _ _ _ _ h (p2 _ _ _ h hp) hh
    ·have hb:S.nx+o.q≤b:=hb;show(if b < S.nx then π b else π1 (b-S.nx))=none;rw[if_neg (by omega)];exact h1.nx _ (by show o.q≤b-S.nx; omega)
   ·intro b x hb hn;have:(fN S (aK nm)).get b=some x:=by rw[iN,if_neg hn]; exact hb
    exact kF os2 this
   ·intro b x l y hb hn hp hh;have e:=jm hS live hb hn hp hh;cases hs:s' y with
    | none=>exact absurd hs ((hS.obj _ _ hb).some'' hp hh)
    | some z=>rw[hs]at e; exact h1.frm _ _ e
  ·cases hf
 ·cases hf
end
end Go.Proofs.YtdkaijofmigmbaaGreat.D

set_option linter.unusedVariables false
set_option linter.unusedSectionVars false
set_option linter.unusedSimpArgs false
namespace Go.Proofs.YtdkaijofmigmbaaGreat.D
open Go Go.Proofs.YtdkaijofmigmbaaGreat.L
variable [YP]
def In (π:Pi)(Fr:Store)(sh:FSh)(x:dens sh.ts)(as:List AV)(s':Store):Prop:=
 ∃ ds os,fillSt (fun k=>k) sh.ins (ofDens sh.ts x)=some (ds,os)∧RelVs π ds as∧RelS π Fr ⟨sh.m,os⟩ s'
def E2 (π π1:Pi)(Fr:Store)(o:OutSh)(r:dens o.ts)(v:AV)(s1:Store):Prop:=
 ∃ d os,fillSt (fun k=>k) o.st (ofDens o.ts r)=some ([d],os)∧bO (o.st.objs.map (·.1))=true∧RelV π1 d v∧RelS π1 Fr ⟨o.q,os⟩ s1∧∀ k,o.ids.any (Nat.beq k)=true→π1 k=π k
def DC (P:Program)(f:FuncId)(sh:FSh)(F:dens sh.ts→Option (dens sh.out.ts)):Prop:=
 (f≠YB→lr P f)∧∀ x r,F x=some r→∀ π Fr as s',In π Fr sh x as s'→AC P f as s' (fun v s1=>∃ π1,E2 π π1 Fr sh.out r v s1)
def qc:Store:=fun _=>none
def iu (s s2:Store):Store:=fun b=>match s2 b with
 | some x=>some x
 | none=>s b
theorem rO:own qc=fun _=>False:=by funext b; simp[own,qc]
theorem xw {P:Program}{f:FuncId}{as asv:List AV}{s:Store}{Q:AV→Store→Prop}(h:AC P f asv qc Q)(hv:∀ w vs,St s w→nP (own s) w as vs→nP (fun _=>False) w asv vs)
  (g1:∀ r s2,Q r s2→∀ o o' w v,RV o w r v→RV o' w r v) (g2:∀ r s2,Q r s2→∀ b x,s2 b=some x→∀ o o' w,ObjR o w b x→ObjR o' w b x):AC P f as s (fun r s1=>∃ s2,Q r s2∧s1=iu s s2∧∀ b x,s2 b=some x→s b=none):=by
 refine⟨h.1,fun vs w hs ha=>?_⟩;refine(h.2 vs w (fun b x hb=>by cases hb) (by rw[rO]; exact hv w vs hs ha)).mono ?_;rintro en w' ⟨v,r,s2,rfl,hQ,hs2,hr,hm⟩;have hno:∀ b,¬ own qc b:=fun b hb=>hb rfl;have grow:∀ b,own (iu s s2) b→own s b∨w.heap.size≤b:=fun b hb=>by
  cases hc:s2 b with
  | some x=>
   rcases hm.grow b (by unfold own; rw[hc]; simp)with h | h
   ·exact absurd h (hno b)
   ·exact .inr h
  | none=>left; unfold own iu at hb; rw[hc]at hb; exact hb
 have hmv:Mv (own s) (own (iu s s2)) w w':=⟨hm.os,hm.tape,hm.output,hm.size,fun b hb _=>hm.block b hb (hno b),grow⟩
 have hnew:∀ b x,s2 b=some x→s b=none:=fun b x hb=>by
  cases hc:s b with
  | none=>rfl
  | some y=>
   have h1:=(hs b y hc).lt;rcases hm.grow b (by unfold own; rw[hb]; simp)with h | h
   ·exact absurd h (hno b)
   ·omega
 refine⟨v,r,iu s s2,rfl,⟨s2,hQ,rfl,hnew⟩,fun b x hb=>?_,g1 r s2 hQ _ _ _ _ hr,hmv⟩;unfold iu at hb;cases hc:s2 b with
 | some y=>rw[hc]at hb; cases hb; exact g2 r s2 hQ b _ hc _ _ _ (hs2 b _ hc)
 | none=>
  rw[hc]at hb;exact(hs b x hb).mv hmv (hm.block b (hs b x hb).lt (hno b))
theorem DS {P:Program}{f:FuncId}{as:List AV}{s:Store}{Q Q':AV→Store→Prop}(h:AC P f as s Q)(hq:∀ r s1,Q r s1→∃ s2,Sub s2 s1∧Q' r s2):AC P f as s Q':=by
 refine⟨h.1,fun vs w hs hv=>(h.2 vs w hs hv).mono ?_⟩;rintro en w' ⟨v,r,s1,h1,h2,h3,h4,h5⟩;obtain⟨s2,g1,g2⟩:=hq r s1 h2;have hm:=Mv.less (fun b (hb:own s2 b)=>g1.own hb) w';exact⟨v,r,s2,h1,g2,g1.st h3,h4.mv hm,h5.trans hm⟩
section
variable {π:Pi} {Fr:Store} {S:DSt} {s':Store}
def SV (s':Store)(a av:AV):Prop:=∀ w v,St s' w→RV (own s') w a v→RV (fun _=>False) w av v
def uo (s':Store):List AV→List AV→Prop
 | [],[]=>True
 | a::l,b::m=>SV s' a b∧uo s' l m
 | _,_=>False
theorem rP {o:Nat→Prop}{w:World}{a:AV}{v:Value}(h:RV o w a v):RV (fun _=>False) w a v:=h.mv (Mv.less (fun _ h=>h.elim) w)
theorem dg (a:AV):SV s' a a:=fun w v _ h=>rP h
theorem cw:∀ {l m:List AV},uo s' l m→m.length=l.length
 | [],[],_=>rfl
 | a::l,b::m,h=>by simp[cw h.2]
 | [],_::_,h=>h.elim
 | _::_,[],h=>h.elim
theorem jV:∀ {l m:List AV} {j:Nat},uo s' l m→j < l.length→SV s' (at_ l j) (at_ m j)
 | a::l,b::m,0,h,_=>h.1
 | a::l,b::m,j+1,h,hj=>by
  have:=jV (j:=j) h.2 (by simpa using hj)
  simpa [at_]using this
 | [],_,j,_,hj=>by simp at hj
 | _::_,[],_,h,_=>h.elim
theorem rQ:∀ {l m l' m':List AV},uo s' l m→uo s' l' m'→uo s' (l++l') (m++m')
 | [],[],_,_,_,h=>h
 | a::l,b::m,_,_,h,k=>⟨h.1,rQ h.2 k⟩
 | [],_::_,_,_,h,_=>h.elim
 | _::_,[],_,_,h,_=>h.elim
theorem vE {l m:List AV}(h:uo s' l m):SV s' (.agg l) (.agg m):=fun w v hs hv=>by
 obtain⟨vs,rfl,h1,h2⟩:=gO hv;exact .agg _ vs (by rw[cw h]; exact h1) fun j hj=>jV h (by rw[← cw h]; exact hj) w _ hs (h2 j (by rw[← cw h]; exact hj))
theorem DT {l m:List AV}(h:uo s' l m):SV s' (.tup l) (.tup m):=fun w v hs hv=>by
 obtain⟨vs,rfl,h1,h2⟩:=kT hv;exact .tup _ vs (by rw[cw h]; exact h1) fun j hj=>jV h (by rw[← cw h]; exact hj) w _ hs (h2 j (by rw[← cw h]; exact hj))
theorem FS {f:FuncId}{l m:List AV}(h:uo s' l m):SV s' (.fn f l) (.fn f m):=fun w v hs hv=>by
 obtain⟨vs,rfl,h1,h2⟩:=nS hv;exact .fn _ _ vs (by rw[cw h]; exact h1) fun j hj=>jV h (by rw[← cw h]; exact hj) w _ hs (h2 j (by rw[← cw h]; exact hj))
theorem np (hS:RelS π Fr S s'){t:Ty}{d:DV}{x:t.den}{a:AV}(h:oa (some S) t d=some x)(k:RelV π d a):∃ av,CR t x [av]∧SV s' a av:=by
 unfold oa at h;split at h
 ·rename_i t' y;split at h
  ·rename_i he; subst he; cases h; exact⟨a,by simpa only[RelV]using k,dg a⟩
  ·cases h
 ·split at h
  ·cases h; simp only[RelV]at k; subst k; exact⟨.emp,.inl ⟨rfl,rfl⟩,dg _⟩
  ·cases h
 ·rename_i b;cases t with
  | sl t0=>
   simp only at h;split at h
   ·rename_i T t' l hb;split at h
    ·rename_i he; subst he; cases h;simp only[RelV]at k;rcases hS.obj _ _ hb with⟨g1,rfl⟩ | ⟨b2,c2,xs,hp2,hcap,hs,hr⟩
     ·rcases k with⟨b',c,m,hp,rfl⟩ | ⟨hp,rfl⟩
      ·rw[g1]at hp; cases hp
      ·exact⟨.emp,.inl ⟨rfl,rfl⟩,dg _⟩
     ·rcases k with⟨b',c,m,hp,rfl⟩ | ⟨hp,_⟩
      ·rw[hp2]at hp; cases hp;refine⟨.lst t'.w l.length (fun i=>xs.getD i []),.inr ⟨_,rfl,hr.2⟩,fun w v hw hv=>?_⟩;have hfrz:nZ (.row T t'.w c2 xs):=fun l2 hl a ha=>by
        obtain⟨i,hi,rfl⟩:=List.getElem_of_mem hl;have:=hr.2 i (by rw[← hr.1]; exact hi);rw[List.getD_eq_getElem?_getD,List.getElem?_eq_getElem hi]at this;exact bF this a ha
       have:=kA (D:=[]) hs hfrz hw hv;simp only[fv,if_true]at this;rw[if_pos ⟨by rw[hr.1]; exact Nat.le_refl _,hcap⟩]at this;exact rP this
      ·rw[hp2]at hp; cases hp
    ·cases h
   ·cases h
  | _=>simp at h
 ·rename_i b kk p m;cases t with
  | sl t0=>
   simp only at h;split at h
   ·rename_i T t' l hb;split at h
    ·rename_i he; subst he;cases hc:Nat.beq kk t'.w with
     | false=>rw[hc]at h; cases h
     | true=>
      rw[hc]at h; cases h;obtain rfl:=aj.1 hc;simp only[RelV]at k;obtain⟨b',c,N,hp,hle,rfl⟩:=k;rcases hS.obj _ _ hb with⟨g1,rfl⟩ | ⟨b2,c2,xs,hp2,hcap,hs,hr⟩
      ·rw[g1]at hp; cases hp
      ·rw[hp2]at hp; cases hp;have hsub:=rM hr hle;have hlen:((l.drop p).take m).length=m:=by simp; omega
       refine⟨.lst t'.w m (fun i=>((xs.drop p).take m).getD i []),.inr ⟨_,by rw[hlen],hsub.2⟩,fun w v hw hv=>?_⟩;obtain⟨ad,cc,e1,e2,e3⟩:=fG hv;subst e1;rcases Nat.eq_zero_or_pos m with h0 | h0
       ·subst h0; exact .fz _ _ (.lst0 _ _ _ _)
       ·have e3:=e3 h0;subst e3;obtain⟨vs,f1,f2,f3,f3',f4,f5⟩:=hw _ _ hs;have hxl:xs.length=l.length:=hr.1;have hg:∀ i,i < m→((xs.drop p).take m).getD i []=xs.getD (p+i) []:=fun i hi=>by
         simp only[List.getD_eq_getElem?_getD,List.getElem?_take,List.getElem?_drop]; rw[if_pos hi]
        refine .fz _ _ (.lst _ _ _ _ _ (fun i j=>vs.getD ((p+i)*t'.w+j) Go.undef) h0 e2 rfl (fun h=>h) (hw _ _ hs).lt (fun i j hi hj=>?_) (fun i hi=>?_) fun i j hi hj=>?_)
        ·have hlt:(p+i)*t'.w+j < vs.size:=by
          rw[f2];have:(p+i+1)*t'.w≤c*t'.w:=Nat.mul_le_mul_right _ (by omega);rw[Nat.add_mul (p+i) 1]at this;omega
         rw[ce,cell_of_row w b' _ vs T (0,0) f1];have e:p*t'.w+(i*t'.w+j)=(p+i)*t'.w+j:=by rw[Nat.add_mul]; omega
         rw[e]
         simp[Array.getD_eq_getD_getElem?,hlt]
        ·rw[hg i hi]; exact f4 _ (by omega)
        ·rw[hg i hi];have hR:=(f5 (p+i) j (by omega) hj).1;have hcr:=hr.2 (p+i) (by omega);have hj':j < (xs.getD (p+i) []).length:=by rw[f4 _ (by omega)]; exact hj
         exact FV.of_frz (rP hR) (bF hcr _ (iF hj'))
    ·cases h
   ·cases h
  | _=>simp at h
 ·rename_i b i;cases t with
  | sl t0=>
   simp only at h;split at h
   ·rename_i T T' t' l hb;split at h
    ·rename_i he; subst he; cases h;simp only[RelV]at k;obtain⟨b',c,n,f,hp,hi,rfl⟩:=k;rcases hS.obj _ _ hb with⟨g1,_⟩ | ⟨b2,c2,f2,hp2,hR⟩
     ·rw[g1]at hp; cases hp
     ·rw[hp2]at hp; cases hp;have hI:=hR.ir i hi;cases hf:f i with
      | none=>
       rw[hf]at hI;rw[show l.getD i []=[]from hI];exact⟨.emp,.inl ⟨rfl,rfl⟩,dg _⟩
      | some q=>
       obtain⟨b3,c3,n3⟩:=q;rw[hf]at hI;obtain⟨rfl,hc3,ys,hs,hr⟩:=hI;refine⟨.lst t'.w (l.getD i []).length (fun j=>ys.getD j []),.inr ⟨_,rfl,hr.2⟩,fun w v hw hv=>?_⟩;have hfrz:nZ (.row T' t'.w c3 ys):=fun l2 hl a ha=>by
        obtain⟨j,hj,rfl⟩:=List.getElem_of_mem hl;have:=hr.2 j (by rw[← hr.1]; exact hj);have e:ys.getD j []=ys[j]:=by simp[List.getD_eq_getElem?_getD,List.getElem?_eq_getElem hj]
        rw[e]at this;exact bF this a ha
       have:=kA (D:=[]) hs hfrz hw hv;simp only[ilv,fv,if_true]at this;rw[if_pos ⟨by rw[hr.1]; exact Nat.le_refl _,hc3⟩]at this;exact rP this
    ·cases h
   ·cases h
  | _=>simp at h
 ·cases h
theorem mb (hS:RelS π Fr S s'):∀ {t:Ty} {ds:List DV} {x:t.den} {rest:List DV} {as:List AV},dec (some S) t ds=some (x,rest)→RelVs π ds as→∃ c as' cv,as=c++as'∧CR t x cv∧uo s' c cv∧RelVs π rest as'
 | .pair a b,ds,x,rest,as,h,k=>by
  simp only[dec]at h;split at h
  ·rename_i y ds1 h1;split at h
   ·rename_i z ds2 h2;cases h;obtain⟨c1,as1,v1,rfl,g1,s1,k1⟩:=mb hS h1 k;obtain⟨c2,as2,v2,rfl,g2,s2,k2⟩:=mb hS h2 k1;exact⟨c1++c2,as2,v1++v2,by simp,⟨v1,v2,rfl,g1,g2⟩,rQ s1 s2,k2⟩
   ·cases h
  ·cases h
 | .es _,ds,x,rest,as,h,k=>by simp[dec]at h
 | .opt _,[],x,rest,as,h,k=>by simp[dec]at h
 | .opt t,d::ds,x,rest,as,h,k=>by
  simp only[dec]at h;simp only[RelVs]at k;obtain⟨a,as',rfl,k1,k2⟩:=k;split at h
  ·rename_i es;split at h
   ·rename_i y hy;cases h;simp only[RelV]at k1;obtain⟨bs,rfl,k1⟩:=k1;obtain⟨c,r,rfl,g,g2⟩:=jR hy k1;simp only[RelVs]at g2; subst g2;refine⟨[.elm c],as',[.elm c],by simp,.inr ⟨y,c,rfl,rfl,g⟩,⟨dg _,trivial⟩,k2⟩
   ·cases h
  ·cases h;simp only[RelV]at k1; subst k1;exact⟨[.nilp],as',[.nilp],rfl,.inl ⟨rfl,rfl⟩,⟨dg _,trivial⟩,k2⟩
  ·split at h
   ·rename_i y hy;cases h;obtain⟨av,q1,q2⟩:=np hS hy k1;exact⟨[a],as',[av],rfl,q1,⟨q2,trivial⟩,k2⟩
   ·cases h
 | .int _,[],x,rest,as,h,k | .bool,[],x,rest,as,h,k | .str,[],x,rest,as,h,k | .sl _,[],x,rest,as,h,k=>by simp[dec]at h
 | .int _,d::ds,x,rest,as,h,k | .bool,d::ds,x,rest,as,h,k | .str,d::ds,x,rest,as,h,k | .sl _,d::ds,x,rest,as,h,k=>by
  simp only[dec]at h;split at h
  ·rename_i y hy;cases h;simp only[RelVs]at k;obtain⟨a,as',rfl,k1,k2⟩:=k;obtain⟨av,q1,q2⟩:=np hS hy k1;exact⟨[a],as',[av],rfl,q1,⟨q2,trivial⟩,k2⟩
  ·cases h
theorem gE (hS:RelS π Fr S s'){t:Ty}{ds:List DV}{x:t.den}{as:List AV}(h:cf (some S) t ds=some x)(k:RelVs π ds as):∃ cv,CR t x cv∧uo s' as cv:=by
 unfold cf at h;split at h
 ·rename_i y hy;cases h;obtain⟨c,as',cv,rfl,g,g2,k'⟩:=mb hS hy k;simp only[RelVs]at k';subst k';exact⟨cv,g,by simpa using g2⟩
 ·cases h
variable {π0:Pi}
mutual
theorem vF (hS:RelS π Fr S s'):∀ (r:RSh) {d:DV} {nm:Nm} {l:List Leaf} {a:AV},bJ (some S) r d nm=some (l,[])→RelV π d a →
  nm=[]∧∃ av,SV s' a av∧∀ rest,∃ d2,fillV (fun k=>k) r (l++rest)=some (d2,rest)∧RelV π0 d2 av
 | .v t,d,nm,l,a,h,hr=>by
  simp only[bJ]at h;split at h
  ·rename_i x hx;cases h;obtain⟨cv,q1,q2⟩:=gE hS hx (aA hr);cases cv with
   | nil=>exact q2.elim
   | cons av cv=>
    cases cv with
    | nil=>exact⟨rfl,av,q2.1,fun rest=>⟨.v ⟨t,x⟩,by simp[fillV],by simp only[RelV]; exact q1⟩⟩
    | cons _ _=>exact q2.2.elim
  ·cases h
 | .st t,d,nm,l,a,h,hr=>by
  cases d with
  | agg ds=>
   simp only[bJ]at h;split at h
   ·rename_i x hx;cases h;simp only[RelV]at hr;obtain⟨as,rfl,hr⟩:=hr;obtain⟨cv,q1,q2⟩:=gE hS hx hr;exact⟨rfl,.agg cv,vE q2,fun rest=>⟨.agg (ak t x),by simp[fillV],by simp only[RelV]; exact⟨cv,rfl,aR q1⟩⟩⟩
   ·cases h
  | _=>simp[bJ]at h
 | .elm t,d,nm,l,a,h,hr=>by
  cases d with
  | elm ds=>
   simp only[bJ]at h;split at h
   ·rename_i x hx;cases h;simp only[RelV]at hr;obtain⟨as,rfl,hr⟩:=hr;exact⟨rfl,.elm as,dg _,fun rest=>⟨.elm (ak t x),by simp[fillV],by simp only[RelV]; exact⟨as,rfl,aR (bk hx hr)⟩⟩⟩
   ·cases h
  | ptr b o=>
   cases o with
   | succ o=>simp[bJ]at h
   | zero=>
    simp only[bJ]at h;split at h
    ·rename_i cs hb;split at h
     ·rename_i x hx;cases h;simp only[RelV]at hr;obtain⟨b',c,n,hp,rfl⟩:=hr;obtain⟨b2,c2,n2,as,hp2,hs,hv⟩:=hS.obj _ _ hb;rw[hp]at hp2; cases hp2;obtain⟨cv,q1,q2⟩:=gE hS hx hv;refine⟨rfl,.elm cv,fun w v hw hrv=>?_,fun rest=>⟨.elm (ak t x),by simp[fillV],by simp only[RelV]; exact⟨cv,rfl,aR q1⟩⟩⟩;rw[cE hrv];have hlen:=cw q2;refine .fz _ _ (.elm cv _ (fun j=>(w.cell? ⟨b',0+j,none⟩).getD Go.undef) rfl (fun h=>h) (hw b' _ hs).lt (fun j hj=>?_) (fun j hj=>?_))
      ·obtain⟨u,h1,h2⟩:=dY (hw _ _ hs) (j:=0+j) (by omega);rw[ce,h1]; rfl
      ·obtain⟨u,h1,h2⟩:=dY (hw _ _ hs) (j:=0+j) (by omega);rw[h1];rw[Nat.zero_add]at h2;exact FV.of_frz (jV q2 (by omega) w u hw h2) (bF q1 _ (iF hj))
     ·cases h
    ·cases h
  | _=>simp[bJ]at h
 | .ptr k o,d,nm,l,a,h,hr=>by
  cases d with
  | ptr b o'=>
   simp only[bJ]at h;cases hc:Nat.beq o o' with
   | false=>rw[hc]at h; cases h
   | true=>
    rw[hc]at h;simp only[cond_true]at h;split at h
    ·rename_i nm1 hb;cases h;have:=(aH hb).2;cases this
    ·cases h
  | _=>simp[bJ]at h
 | .slc k,d,nm,l,a,h,hr=>by
  cases d with
  | slc b=>
   simp only[bJ]at h;split at h
   ·rename_i nm1 hb;cases h;have:=(aH hb).2;cases this
   ·cases h
  | emp=>
   simp only[bJ]at h;split at h
   ·rename_i nm1 hb;cases h;have:=(gV hb).2;cases this
   ·cases h
  | _=>simp[bJ]at h
 | .slo k w,d,nm,l,a,h,hr=>by
  cases d with
  | slo b w' o m=>
   simp only[bJ]at h;cases hc:Nat.beq w w' with
   | false=>rw[hc]at h; cases h
   | true=>
    rw[hc]at h;simp only[cond_true]at h;split at h
    ·rename_i nm1 hb;cases h;have:=(aH hb).2;cases this
    ·cases h
  | _=>simp[bJ]at h
 | .aptr k w,d,nm,l,a,h,hr=>by
  cases d with
  | rptr b w' i j=>
   cases i with
   | succ i=>simp[bJ]at h
   | zero=>
    cases j with
    | succ j=>simp[bJ]at h
    | zero=>
     simp only[bJ]at h;cases hc:Nat.beq w w' with
     | false=>rw[hc]at h; cases h
     | true=>
      rw[hc]at h
      try simp only[cond_true]at h
      split at h
      ·rename_i nm1 hb;cases h;have:=(aH hb).2;cases this
      ·cases h
  | _=>simp[bJ]at h
 | .mp k,d,nm,l,a,h,hr=>by
  cases d with
  | mp b=>
   simp only[bJ]at h;split at h
   ·rename_i nm1 hb;cases h;have:=(aH hb).2;cases this
   ·cases h
  | _=>simp[bJ]at h
 | .slr k,d,nm,l,a,h,hr=>by
  cases d with
  | slr b=>
   simp only[bJ]at h;split at h
   ·rename_i nm1 hb;cases h;have:=(aH hb).2;cases this
   ·cases h
  | emp=>
   simp only[bJ]at h;split at h
   ·rename_i nm1 hb;cases h;have:=(gV hb).2;cases this
   ·cases h
  | _=>simp[bJ]at h
 | .irow k,d,nm,l,a,h,hr=>by
  cases d with
  | irow b i=>
   simp only[bJ]at h;split at h
   ·rename_i nm1 hb;cases h;have:=(aH hb).2;cases this
   ·cases h
  | _=>simp[bJ]at h
 | .pel k,d,nm,l,a,h,hr=>by
  cases d with
  | pel b key o=>
   cases o with
   | succ o=>simp[bJ]at h
   | zero=>
    simp only[bJ]at h;split at h
    ·rename_i nm1 hb;cases h;have:=(aH hb).2;cases this
    ·cases h
  | _=>simp[bJ]at h
 | .mpl k,d,nm,l,a,h,hr=>by
  cases d with
  | mpl b=>
   simp only[bJ]at h;split at h
   ·rename_i nm1 hb;cases h;have:=(aH hb).2;cases this
   ·cases h
  | _=>simp[bJ]at h
 | .slh k,d,nm,l,a,h,hr=>by
  cases d with
  | slh b=>
   simp only[bJ]at h;split at h
   ·rename_i nm1 hb;cases h;have:=(aH hb).2;cases this
   ·cases h
  | _=>simp[bJ]at h
 | .nilp,d,nm,l,a,h,hr=>by
  cases d with
  | nilp=>simp only[bJ]at h; cases h; exact⟨rfl,a,dg _,fun rest=>⟨.nilp,by simp[fillV],by simp only[RelV]at hr ⊢; exact hr⟩⟩
  | _=>simp[bJ]at h
 | .nilm,d,nm,l,a,h,hr=>by
  cases d with
  | nilm=>simp only[bJ]at h; cases h; exact⟨rfl,a,dg _,fun rest=>⟨.nilm,by simp[fillV],by simp only[RelV]at hr ⊢; exact hr⟩⟩
  | _=>simp[bJ]at h
 | .emp,d,nm,l,a,h,hr=>by
  cases d with
  | emp=>simp only[bJ]at h; cases h; exact⟨rfl,a,dg _,fun rest=>⟨.emp,by simp[fillV],by simp only[RelV]at hr ⊢; exact hr⟩⟩
  | _=>simp[bJ]at h
 | .any,d,nm,l,a,h,hr=>by
  have h':some (([]:List Leaf),nm)=some (l,[]):=by cases d <;> simpa only[bJ]using h
  cases h';exact⟨rfl,a,dg _,fun rest=>⟨.undef,by simp[fillV],by simp only[RelV]⟩⟩
 | .agg rs,d,nm,l,a,h,hr=>by
  cases d with
  | agg ds=>
   simp only[bJ]at h;simp only[RelV]at hr;obtain⟨as,rfl,hr⟩:=hr;obtain⟨g1,avs,g2,g3⟩:=ft hS rs h hr;refine⟨g1,.agg avs,vE g2,fun rest=>?_⟩;obtain⟨ds2,k1,k2⟩:=g3 rest;exact⟨.agg ds2,by simp[fillV,k1],by simp only[RelV]; exact⟨avs,rfl,k2⟩⟩
  | _=>simp[bJ]at h
 | .tup rs,d,nm,l,a,h,hr=>by
  cases d with
  | tup ds=>
   simp only[bJ]at h;simp only[RelV]at hr;obtain⟨as,rfl,hr⟩:=hr;obtain⟨g1,avs,g2,g3⟩:=ft hS rs h hr;refine⟨g1,.tup avs,DT g2,fun rest=>?_⟩;obtain⟨ds2,k1,k2⟩:=g3 rest;exact⟨.tup ds2,by simp[fillV,k1],by simp only[RelV]; exact⟨avs,rfl,k2⟩⟩
  | _=>simp[bJ]at h
 | .fn f rs,d,nm,l,a,h,hr=>by
  cases d with
  | fn f' ds=>
   simp only[bJ]at h;cases hc:Nat.beq f f' with
   | false=>rw[hc]at h; cases h
   | true=>
    rw[hc]at h;obtain rfl:=aj.1 hc;cases hne:Nat.beq f YB with
    | true=>simp only[cond_true,Option.isSome_some,Bool.true_and,hne]at h; cases h
    | false=>
    simp only[cond_true,Option.isSome_some,Bool.true_and,hne,cond_false]at h;simp only[RelV]at hr;obtain⟨as,rfl,hr⟩:=hr;obtain⟨g1,avs,g2,g3⟩:=ft hS rs h hr;refine⟨g1,.fn f avs,by rw[ew hne]; exact FS g2,fun rest=>?_⟩;obtain⟨ds2,k1,k2⟩:=g3 rest;exact⟨.fn f ds2,by simp[fillV,k1],by simp only[RelV]; exact⟨avs,(ew hne).symm,k2⟩⟩
  | _=>simp[bJ]at h
theorem ft (hS:RelS π Fr S s'):∀ (rs:List RSh) {ds:List DV} {nm:Nm} {l:List Leaf} {as:List AV},ia (some S) rs ds nm=some (l,[])→RelVs π ds as →
  nm=[]∧∃ avs,uo s' as avs∧∀ rest,∃ ds2,fillVs (fun k=>k) rs (l++rest)=some (ds2,rest)∧RelVs π0 ds2 avs
 | [],ds,nm,l,as,h,hr=>by
  cases ds with
  | nil=>
   simp only[ia]at h;cases h;simp only[RelVs]at hr; subst hr;exact⟨rfl,[],trivial,fun rest=>⟨[],by simp[fillVs],RelVs_nil⟩⟩
  | cons d ds=>simp[ia]at h
 | r::rs,ds,nm,l,as,h,hr=>by
  cases ds with
  | nil=>simp[ia]at h
  | cons d ds=>
   simp only[ia]at h;simp only[RelVs]at hr;obtain⟨a,as',rfl,hr1,hr2⟩:=hr;split at h
   ·rename_i l1 nm1 h1;split at h
    ·rename_i l2 nm2 h2;cases h;obtain⟨g1,avs,g2,g3⟩:=ft hS rs h2 hr2;subst g1;obtain⟨g4,av,g5,g6⟩:=vF hS r h1 hr1;refine⟨g4,av::avs,⟨g5,g2⟩,fun rest=>?_⟩;obtain⟨d2,k1,k2⟩:=g6 (l2++rest);obtain⟨ds2,k3,k4⟩:=g3 rest;exact⟨d2::ds2,by simp only[fillVs,List.append_assoc,k1,k3],RelVs_cons k2 k4⟩
    ·cases h
   ·cases h
end
end
def ow:Ty→Bool
 | .int _ | .bool | .str=>true
 | .pair a b=>ow a&&ow b
 | _=>false
mutual
def iO:RSh→Bool
 | .v t | .st t=>ow t
 | .slc _ | .emp | .nilp=>true
 | .agg rs | .tup rs=>pq rs
 | _=>false
def pq:List RSh→Bool
 | []=>true
 | r::rs=>iO r&&pq rs
end
def vG:List (Nat×OSh)→Bool
 | []=>true
 | (_,.row _ t)::l=>ow t&&vG l
 | _=>false
def tE (sh:FSh):Bool:=sh.ins.objs.isEmpty&&sh.out.ids.isEmpty&&pq sh.out.st.vals&&vG sh.out.st.objs
def mE (a:AV):Prop:=∀ o o' w v,RV o w a v→RV o' w a v
theorem gF:∀ {t:Ty} {x:t.den} {cs:List AV},ow t=true→CR t x cs→∀ a∈cs,mE a
 | .int _,_,_,_,h,a,ha=>by cases h; simp at ha; subst ha; intro o o' w v hv; rw[aN hv]; exact .fz _ _ (.int _ _)
 | .bool,_,_,_,h,a,ha=>by cases h; simp at ha; subst ha; intro o o' w v hv; rw[dC hv]; exact .fz _ _ (.bool _)
 | .str,_,_,_,h,a,ha=>by cases h; simp at ha; subst ha; intro o o' w v hv; rw[gN hv]; exact .fz _ _ (.str _)
 | .pair a b,x,_,hg,⟨c1,c2,h,h1,h2⟩,c,hc=>by
  subst h;simp only[ow,Bool.and_eq_true]at hg;rcases List.mem_append.1 hc with hc | hc
  ·exact gF hg.1 h1 c hc
  ·exact gF hg.2 h2 c hc
 | .sl _,_,_,hg,_,_,_=>by cases hg
 | .es _,_,_,hg,_,_,_=>by cases hg
 | .opt _,_,_,hg,_,_,_=>by cases hg
theorem pr {l:List AV}(h:∀ a∈l,mE a):mE (.agg l):=fun o o' w v hv=>by
 obtain⟨vs,rfl,h1,h2⟩:=gO hv;exact .agg _ vs h1 fun j hj=>h _ (iF hj) _ _ _ _ (h2 j hj)
theorem vH {l:List AV}(h:∀ a∈l,mE a):mE (.tup l):=fun o o' w v hv=>by
 obtain⟨vs,rfl,h1,h2⟩:=kT hv;exact .tup _ vs h1 fun j hj=>h _ (iF hj) _ _ _ _ (h2 j hj)
theorem pt:mE .emp:=fun o o' w v hv=>by obtain⟨a,rfl⟩:=cV hv; exact .fz _ _ (.emp _)
theorem tF:mE .nilp:=fun o o' w v hv=>by rw[oN hv]; exact .fz _ _ .nilp
theorem vI (b n c:Nat):mE (.slc b n c):=fun o o' w v hv=>by have h:=qk hv; rw[dy hv]; exact .slc _ _ _ h
section
variable {π:Pi} {ρ:Nat→Nat}
theorem jW:∀ {t:Ty} {x:t.den} {as:List AV},ow t=true→RelVs π (ak t x) as→CR t x as
 | .pair a b,x,as,hg,h=>by
  simp only[ow,Bool.and_eq_true]at hg;simp only[ak]at h;obtain⟨as1,as2,rfl,h1,h2⟩:=gC h;exact⟨as1,as2,rfl,jW hg.1 h1,jW hg.2 h2⟩
 | .es _,x,as,hg,h=>by cases hg
 | .opt _,x,as,hg,h=>by cases hg
 | .sl _,x,as,hg,h=>by cases hg
 | .int _,x,as,hg,h | .bool,x,as,hg,h | .str,x,as,hg,h=>by
  simp only[ak,RelVs]at h;obtain⟨a,as',rfl,g,rfl⟩:=h
  simpa only[RelV]using g
mutual
theorem tG:∀ (r:RSh) {l l':List Leaf} {d:DV} {a:AV},iO r=true→fillV ρ r l=some (d,l')→RelV π d a→mE a
 | .v t,l,l',d,a,hg,h,hr=>by
  cases l with
  | nil=>simp[fillV]at h
  | cons x l=>
   obtain⟨t',x⟩:=x;simp only[fillV]at h;cases hc:decide (t'=t)with
   | false=>rw[hc]at h; cases h
   | true=>
    rw[hc]at h; cases h;have:=of_decide_eq_true hc; subst this;simp only[RelV]at hr;exact gF hg hr a (by simp)
 | .st t,l,l',d,a,hg,h,hr=>by
  cases l with
  | nil=>simp[fillV]at h
  | cons x l=>
   obtain⟨t',x⟩:=x;simp only[fillV]at h;cases hc:decide (t'=t)with
   | false=>rw[hc]at h; cases h
   | true=>
    rw[hc]at h; cases h;have:=of_decide_eq_true hc; subst this;simp only[RelV]at hr;obtain⟨as,rfl,hr⟩:=hr;exact pr fun a ha=>gF hg (jW hg hr) a ha
 | .slc k,l,l',d,a,hg,h,hr=>by
  simp only[fillV]at h;cases h;simp only[RelV]at hr;rcases hr with⟨b',c,n,hp,rfl⟩ | ⟨hp,rfl⟩
  ·exact vI _ _ _
  ·exact pt
 | .emp,l,l',d,a,hg,h,hr=>by
  simp only[fillV]at h;cases h;simp only[RelV]at hr; subst hr; exact pt
 | .nilp,l,l',d,a,hg,h,hr=>by
  simp only[fillV]at h;cases h;simp only[RelV]at hr; subst hr; exact tF
 | .agg rs,l,l',d,a,hg,h,hr=>by
  simp only[fillV]at h;split at h
  ·rename_i ds l1 h1;cases h;simp only[RelV]at hr;obtain⟨as,rfl,hr⟩:=hr;exact pr (fT rs hg h1 hr)
  ·cases h
 | .tup rs,l,l',d,a,hg,h,hr=>by
  simp only[fillV]at h;split at h
  ·rename_i ds l1 h1;cases h;simp only[RelV]at hr;obtain⟨as,rfl,hr⟩:=hr;exact vH (fT rs hg h1 hr)
  ·cases h
 | .elm _,_,_,_,_,hg,_,_=>by simp[iO]at hg
 | .ptr ..,_,_,_,_,hg,_,_=>by simp[iO]at hg
 | .mp _,_,_,_,_,hg,_,_=>by simp[iO]at hg
 | .slr _,_,_,_,_,hg,_,_=>by simp[iO]at hg
 | .irow _,_,_,_,_,hg,_,_=>by simp[iO]at hg
 | .pel _,_,_,_,_,hg,_,_=>by simp[iO]at hg
 | .mpl _,_,_,_,_,hg,_,_=>by simp[iO]at hg
 | .slh _,_,_,_,_,hg,_,_=>by simp[iO]at hg
 | .slo ..,_,_,_,_,hg,_,_=>by simp[iO]at hg
 | .aptr ..,_,_,_,_,hg,_,_=>by simp[iO]at hg
 | .nilm,_,_,_,_,hg,_,_=>by simp[iO]at hg
 | .any,_,_,_,_,hg,_,_=>by simp[iO]at hg
 | .fn ..,_,_,_,_,hg,_,_=>by simp[iO]at hg
theorem fT:∀ (rs:List RSh) {l l':List Leaf} {ds:List DV} {as:List AV},pq rs=true→fillVs ρ rs l=some (ds,l')→RelVs π ds as→∀ a∈as,mE a
 | [],l,l',ds,as,hg,h,hr=>by
  simp only[fillVs]at h;cases h;simp only[RelVs]at hr; subst hr;intro a ha; cases ha
 | r::rs,l,l',ds,as,hg,h,hr=>by
  simp only[pq,Bool.and_eq_true]at hg;simp only[fillVs]at h;split at h
  ·rename_i d l1 h1;split at h
   ·rename_i ds1 l2 h2;cases h;simp only[RelVs]at hr;obtain⟨a,as',rfl,hr1,hr2⟩:=hr;intro c hc;rcases List.mem_cons.1 hc with rfl | hc
    ·exact tG r hg.1 h1 hr1
    ·exact fT rs hg.2 h2 hr2 c hc
   ·cases h
  ·cases h
end
theorem pu:∀ {os:List (Nat×OSh)} {l l':List Leaf} {xs:List (Nat×DObj)},vG os=true→da ρ os l=some (xs,l')→∀ b o,(b,o)∈xs→∃ T t y,o = .row T t y∧ow t=true
 | [],l,l',xs,hg,h,b,o,hb=>by cases h; cases hb
 | (k,o0)::os,l,l',xs,hg,h,b,o,hb=>by
  cases o0 with
  | row T t=>
   simp only[vG,Bool.and_eq_true]at hg;simp only[da]at h;split at h
   ·rename_i x l1 h1;split at h
    ·rename_i xs1 l2 h2;cases h;rcases List.mem_cons.1 hb with e | hb
     ·cases e;unfold bS at h1;split at h1 <;> rename_i he <;> first | (cases he; done) | skip
      ·rename_i t' y l3;cases he;cases hc:decide (t'=t)with
       | false=>rw[hc]at h1; cases h1
       | true=>
        rw[hc]at h1; cases h1;have:=of_decide_eq_true hc; subst this;exact⟨_,_,_,rfl,hg.1⟩
      ·cases h1
     ·exact pu hg.2 h2 b o hb
    ·cases h
   ·cases h
  | _=>simp[vG]at hg
end
end Go.Proofs.YtdkaijofmigmbaaGreat.D
