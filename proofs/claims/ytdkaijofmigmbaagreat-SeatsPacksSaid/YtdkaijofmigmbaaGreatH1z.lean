import Derived.Test.YtdkaijofmigmbaaGreatG0z
set_option linter.unusedVariables false
set_option linter.unusedSectionVars false
set_option maxRecDepth 100000
namespace Go.Proofs.YtdkaijofmigmbaaGreat.D
open Go Go.Proofs Go.Proofs.YtdkaijofmigmbaaGreat.L
abbrev aS:Ty:=.pair (.int .i64) (.pair (.int .i64) (.pair (.int .i64) (.pair (.int .i64) (.int .i64))))
abbrev cB:Type:=Int×Int×Int×Int×Int
def cl:Code→Code
 | .seq a _=>a
 | c=>c
def cr:Code→Code
 | .seq _ b=>b
 | c=>c
def cb:Code→Code
 | .block _ c=>c
 | c=>c
def ra:Code→Code
 | .rangeFunc _ _ a _=>a
 | c=>c
def rb:Code→Code
 | .rangeFunc _ _ _ b=>b
 | c=>c
noncomputable def I0:Code:=Tryz.f89.body.getD .skip
noncomputable def zi:Code:=ra (cb (cr (cl (cr I0))))
noncomputable def zj:Code:=rb (cb (cr (cl (cr I0))))
noncomputable def MT:Code:=cl I0
noncomputable def MU:Code:=cl (cl (cr I0))
noncomputable def Kd:Code:=cl (cr (cr I0))
theorem body89:Tryz.f89.body=some (.seq MT (.seq (.seq MU (.block 0 (.rangeFunc (.tmp 6) #[7] zi zj))) (.seq Kd .ret))):=by kernel_rfl
noncomputable def CJ:cB×Int×List cB→Option (Bool×Int×List cB):=fun x=>aq (bI 40 (x.2.2.length+1)) (some (true,x.2.1,x.2.2++[x.1]))
noncomputable def eG (fid:FuncId)(tm:Array Value)(D:Nat):Loop:=gH fid tm #[7] zi zj D
@[reducible] noncomputable def yp123 (fid:FuncId) (tm:Array Value) (D l b1:Nat):YP:=⟨l,[.ptr l 0,.ptr b1 0],fun _=>.loop (eG fid tm D)⟩
theorem Et (c:cB)(k:Int)(row:List cB):fillSt (fun k=>k) shYa.ins (ofDens shYa.ts (c,k,row))=some ([.agg (ak aS c),.fn 1048576 [.ptr 0 0,.ptr 1 0]],[(0,.raw k),(1,.box [.slc 2]),(2,.row 56 aS row)]):=by kernel_rfl
theorem MV (c:cB)(k:Int)(row:List cB):bT [] (ann .n (cn Tryz.prog 13 [] zi)) (fun x e S=>some (x,e,S)) [(7,.agg (ak aS c)),(2,.ptr 1 0)] ⟨3,[(0,.raw k),(1,.box [.slc 2]),(2,.row 56 aS row)]⟩ =
  some (.normal,[(7,.agg (ak aS c)),(2,.ptr 1 0),(5,.ptr 3 0)],⟨4,[(0,.raw k),(1,.box [.slc 2]),(2,.row 56 aS row),(3,.box (ak aS c))]⟩):=by kernel_rfl
theorem MW (c:cB)(row:List cB):bT [] (ann (.b (.r [.a 2 false aS,.a 3 false aS])) (cn Tryz.prog 13 [] zj)) (fun x e S=>some (x,e,S)) [(7,.agg (ak aS c)),(2,.ptr 1 0),(5,.ptr 3 0)] ⟨4,[(1,.box [.slc 2]),(2,.row 56 aS row),(3,.box (ak aS c))]⟩ =
  aq (bI 40 (row.length+1)) (some (.normal,[(7,.agg (ak aS c)),(2,.ptr 1 0),(5,.ptr 3 0),(8,.slc 2),(9,.agg (ak aS c)),(10,.slc 4),(11,.slc 5)],⟨6,[(1,.box [.slc 5]),(3,.box (ak aS c)),(4,.row 56 aS [c]),(5,.row 56 aS (row++[c]))]⟩)):=by kernel_rfl
theorem I1 (c:cB)(k:Int)(row:List cB):(match iI none (⟨6,[(1,.box [.slc 5]),(3,.box (ak aS c)),(4,.row 56 aS [c]),(5,.row 56 aS (row++[c])),(0,.raw k)]⟩:DSt) shYa.out.st shYa.out.q [ca true] (jN shYa.out.ids)with
  | some (l,_)=>ct shYa.out.ts l
  | none=>none)=some (true,k,row++[c]):=by kernel_rfl
theorem Eu:(bC Tryz.prog 13 [] zi).isSome=true:=by kernel_rfl
theorem Ev:(bC Tryz.prog 13 [] zj).isSome=true:=by kernel_rfl
theorem S4 (fid:FuncId)(tm:Array Value)(D l b1:Nat)(hsz:tm.size=13)(htm:tm.getD 2 Go.undef = .pointer (some ⟨b1,0,none⟩)):@DC (yp123 fid tm D l b1) Tryz.prog YB shYa CJ:=by
 letI:=yp123 fid tm D l b1
 refine⟨fun h=>absurd rfl h,?_⟩;rintro⟨c,k,row⟩ r hr π Fr av s' ⟨ds,os,h1,h2,h3⟩;have h1:=(Et c k row).symm.trans h1;cases h1;simp only[RelVs,RelV]at h2;obtain⟨a1,as1,rfl,⟨cs,rfl,hcs⟩,a2,as2,rfl,⟨caps,rfl,a3,as3,rfl,⟨bl,cc1,nn1,p1,rfl⟩,a4,as4,rfl,⟨bs,cc2,nn2,p2,rfl⟩,rfl⟩,rfl⟩:=h2;rw[show mw 1048576 [AV.ptr bl 0,AV.ptr bs 0] = .yld YP.l YP.pins [AV.ptr bl 0,AV.ptr bs 0]from fnA_yb];unfold CJ at hr;simp only at hr;have hcap:bI 40 (row.length+1)=true:=by
  cases hc:bI 40 (row.length+1)with
  | true=>rfl
  | false=>rw[hc]at hr; cases hr
 rw[hcap]at hr;have hr:some (true,k,row++[c])=some r:=hr;cases hr;refine pJ (xs:=[.agg cs]) (rc:=eG fid tm D) (n:=13) rfl rfl hsz ?_;intro hpin;have hpin:[AV.ptr bl 0,AV.ptr bs 0]=[.ptr l 0,.ptr b1 0]:=hpin;cases hpin;obtain⟨l',cc1',nn1',q1,q2⟩:=h3.obj 0 (.raw k) rfl;have e1:l=l':=by rw[p1]at q1; cases q1; rfl
 subst e1;have hl:s' l=some (.raw (.loop (eG fid tm D))):=q2;have hFl:Fr l=none:=h3.out' 0 (.raw k) _ l rfl p1 rfl;refine⟨hl,fun t=>if t=7 then .agg cs else if t=2 then .ptr b1 0 else .undef,fun o w vs hv t=>?_,?_⟩
 ·obtain⟨v,rfl⟩:∃ v,vs=[v]:=by
   match vs,hv.1 with
   | [v],_=>exact⟨v,rfl⟩
  have hv0:=hv.2 0 (by simp);show RV o w (if t=7 then .agg cs else if t=2 then .ptr b1 0 else .undef) ((tm.setIfInBounds 7 v).getD t Go.undef);by_cases h7:t=7
  ·subst h7;simp only[if_true];rw[Array.getD_eq_getD_getElem?,Array.getElem?_setIfInBounds_self_of_lt (by omega)];exact hv0
  ·rw[if_neg h7,Array.getD_eq_getD_getElem?,Array.getElem?_setIfInBounds_ne (Ne.symm h7),← Array.getD_eq_getD_getElem?];by_cases h2:t=2
   ·subst h2; rw[if_pos rfl,htm]; exact .ptr _ _
   ·rw[if_neg h2]; exact .undef _
 ·refine gk ?_ (bR mo aa Eu (MV c k row) (e':=fun t=>if t=7 then .agg cs else if t=2 then .ptr b1 0 else .undef) ?_ h3)
  ·rintro x e1 s1 ⟨rfl,π1,g1,g2,g3⟩;have hl1:s1 l=some (.raw (.loop (eG fid tm D))):=by
    obtain⟨l',_,_,q1,q2⟩:=g3.obj 0 (.raw k) rfl;have e1:l=l':=by rw[g1 _ _ p1]at q1; cases q1; rfl
    subst e1;exact q2
   refine⟨rfl,hl1,?_⟩;have hd:=bi g3 0;have hno:∀ b o lc y,(DSt.del ⟨4,[(0,.raw k),(1,.box [.slc 2]),(2,.row 56 aS row),(3,.box (ak aS c))]⟩ 0).get b=some o→π1 b=some lc→lc.has y→y≠l:=fun b o lc y hb hlc hy e=>by
    subst e;rw[DSt.get_del]at hb;split at hb
    ·cases hb
    ·rename_i hne;exact hne (g3.inj' b 0 o (.raw k) lc _ _ hb rfl hlc (g1 _ _ p1) hy rfl)
   have hput:=di hd hno (some (.raw (.loop (busy (eG fid tm D)))));have hb2:=(MW c row).trans (by rw[hcap]; rfl:aq (bI 40 (row.length+1)) _=some _);refine gk ?_ (bR mo aa Ev hb2 g2 hput);rintro x e2 s2 ⟨rfl,π2,j1,j2,j3⟩;have hl2:s2 l=some (.raw (.loop (busy (eG fid tm D)))):=j3.frm l _ (aJ _ _ _);refine⟨hl2,?_⟩;have hback:=ka (Fr:=Fr) (m:=l) (b:=0) (x:=.raw (.loop (gI (busy (eG fid tm D)) none))) (y:=.raw (.loop (busy (eG fid tm D)))) (o:=.raw k) j3
    (fun q z hq=>⟨by rw[bQ _ _ (fun e=>by rw[e,hFl]at hq; cases hq)]; exact hq,fun e=>by rw[e,hFl]at hq; cases hq⟩) (aJ _ _ _) (j1 _ _ (g1 _ _ p1)) ⟨l,_,_,j1 _ _ (g1 _ _ p1),upd_same _ _ _⟩
   exact oz hback (show RelV π2 (ca true) (.bool true)from aE true) (I1 c k row) (fun i hi=>by
    have:i=0∨i=1:=by
     simp[shYa]at hi
     rcases hi with h | h
     ·left; exact h
     ·right; exact h
    rcases this with rfl | rfl
    ·exact⟨_,p1,j1 _ _ (g1 _ _ p1)⟩
    ·exact⟨_,p2,j1 _ _ (g1 _ _ p2)⟩)
  ·exact bf (by simp only[RelV]; exact⟨cs,rfl,hcs⟩) (bf (by simp only[RelV]; exact⟨_,_,_,p2,rfl⟩) (eD _))
def sh89:FSh:=⟨⟨[.emp,(.fn 80 [(.ptr 0 0)])],[(0,(.boxT (.sl (.pair (.int .i64) (.pair (.int .i64) (.pair (.int .i64) (.pair (.int .i64) (.int .i64))))))))]⟩,[(.sl (.pair (.int .i64) (.pair (.int .i64) (.pair (.int .i64) (.pair (.int .i64) (.int .i64))))))],1,⟨⟨[(.slc 1)],[(1,(.row 56 (.pair (.int .i64) (.pair (.int .i64) (.pair (.int .i64) (.pair (.int .i64) (.int .i64)))))))]⟩,[(.sl (.pair (.int .i64) (.pair (.int .i64) (.pair (.int .i64) (.pair (.int .i64) (.int .i64))))))],[],2⟩,false⟩
noncomputable def P89:List cB→Option (List cB):=fun x=>(Ee CJ (x,0,[])).bind fun r=>some r.2.2
theorem Ew (x:List cB):fillSt (fun k=>k) sh89.ins (ofDens sh89.ts x)=some ([.emp,.fn 80 [.ptr 0 0]],[(0,.box (ak (.sl aS) x))]):=by kernel_rfl
theorem I2 (x:List cB):bT [] (ann .n (cn Tryz.prog 13 [] MT)) (fun x e S=>some (x,e,S)) [(0,.emp),(1,.fn 80 [.ptr 0 0])] ⟨1,[(0,.box (ak (.sl aS) x))]⟩ =
  some (.normal,[(0,.emp),(1,.fn 80 [.ptr 0 0]),(2,.ptr 1 0),(4,.emp)],⟨2,[(0,.box (ak (.sl aS) x)),(1,.box [.emp])]⟩):=by kernel_rfl
theorem I3 (x:List cB):bT [] (ann .n (cn Tryz.prog 13 [] MU)) (fun x e S=>some (x,e,S)) [(0,.emp),(1,.fn 80 [.ptr 0 0]),(2,.ptr 1 0),(4,.emp)] ⟨2,[(0,.box (ak (.sl aS) x)),(1,.box [.emp])]⟩ =
  some (.normal,[(0,.emp),(1,.fn 80 [.ptr 0 0]),(2,.ptr 1 0),(4,.emp),(6,.fn 80 [.ptr 0 0])],⟨2,[(0,.box (ak (.sl aS) x)),(1,.box [.emp])]⟩):=by kernel_rfl
theorem wd (x:List cB)(F:List cB×Int×List cB→Option (List cB×Int×List cB)):ge [] [⟨80,tQ,F⟩] 80 [.fn 1048576 [.ptr 2 0,.ptr 1 0],.ptr 0 0] (DSt.new ⟨2,[(0,.box (ak (.sl aS) x)),(1,.box [.emp])]⟩ (.raw 0)) (fun d S=>some (d,S)) =
  (F (x,0,[])).bind fun r=>some (.tup [],⟨7,[(0,.box (ak (.sl aS) r.1)),(2,.raw r.2.1),(1,.box [.slc 6]),(6,.row 56 aS r.2.2)]⟩):=by kernel_rfl
theorem I4 (x row:List cB):bT [] (ann .n (cn Tryz.prog 13 [] Kd)) (fun x e S=>some (x,e,S)) [(2,.ptr 1 0)] ⟨7,[(0,.box (ak (.sl aS) x)),(1,.box [.slc 6]),(6,.row 56 aS row)]⟩ =
  some (.normal,[(2,.ptr 1 0),(12,.slc 6),(4,.slc 6)],⟨7,[(0,.box (ak (.sl aS) x)),(1,.box [.slc 6]),(6,.row 56 aS row)]⟩):=by kernel_rfl
theorem I5 (x row:List cB):(match iI none (⟨7,[(0,.box (ak (.sl aS) x)),(1,.box [.slc 6]),(6,.row 56 aS row)]⟩:DSt) sh89.out.st sh89.out.q [.slc 6] (jN sh89.out.ids)with
  | some (l,_)=>ct sh89.out.ts l
  | none=>none)=some row:=by kernel_rfl
theorem I6:(bC Tryz.prog 13 [] MT).isSome=true:=by kernel_rfl
theorem I7:(bC Tryz.prog 13 [] MU).isSome=true:=by kernel_rfl
theorem I8:(bC Tryz.prog 13 [] Kd).isSome=true:=by kernel_rfl
theorem I9:pc Tryz.prog Tryz.f89.results.toList=some [.t 4]:=by kernel_rfl
theorem Ja:Tryz.f89.ntmps=13:=by kernel_rfl
theorem name89 : (Tryz.f89.name == "runtime.NumGoroutine") = false := by kernel_rfl
theorem S6:DC Tryz.prog 89 sh89 P89:=by
 refine⟨fun _=>⟨Tryz.f89,Tryz.func89,name89,by rw[body89]; rfl⟩,?_⟩;rintro x r hr π Fr av s' ⟨ds,os,h1,h2,h3⟩;have h1:=(Ew x).symm.trans h1;cases h1;simp only[RelVs,RelV]at h2;obtain⟨a1,as1,rfl,rfl,a2,as2,rfl,⟨caps,rfl,a3,as3,rfl,⟨b0,cc1,nn1,p1,rfl⟩,rfl⟩,rfl⟩:=h2;rw[show mw 80 [AV.ptr b0 0] = .fn 80 [AV.ptr b0 0]from ew rfl];unfold P89 at hr;cases hP:Ee CJ (x,0,[])with
 | none=>rw[hP]at hr; cases hr
 | some y=>
 rw[hP]at hr;have hr:some y.2.2=some r:=hr;cases hr;refine pI (fn:=Tryz.f89) Tryz.func89 name89 body89 (by decide) (rs:=[.t 4]) (gT I9) (by rw[Ja]; simp) ?_;rw[Ja];intro a w hf hdf;refine L.wp_seq (L.wp_mono (bR mo aa I6 (I2 x) (bf (by simp only[RelV]; rfl) (bf (by simp only[RelV]; exact⟨_,(ew rfl).symm,aA (by simp only[RelV]; exact⟨_,_,_,p1,rfl⟩)⟩) (eD _))) h3 none a w hf) ?_);rintro ex a1 w1 ⟨e1,s1,⟨rfl,π1,g1,g2,g3⟩,hf1,m1,d1⟩;refine L.wp_seq (L.wp_seq (L.wp_mono (bR mo aa I7 (I3 x) g2 g3 none a1 w1 hf1) ?_));rintro ex a2 w2 ⟨e2,s2,⟨rfl,π2,j1,j2,j3⟩,hf2,m2,d2⟩;have he6:=j2 6 _ rfl;simp only[RelV,RelVs]at he6;obtain⟨_,he6,_,_,rfl,⟨b0',_,_,p1',rfl⟩,rfl⟩:=he6;have:b0'=b0:=by rw[j1 _ _ (g1 _ _ p1)]at p1'; cases p1'; rfl
 subst this;rw[ew rfl]at he6;have hgv:RV (own s2) w2 (.fn 80 [.ptr b0' 0]) (a2.eval (.tmp 6)):=by have:=hf2.env 6; rw[he6]at this; exact this
 have he2:=j2 2 _ rfl;simp only[RelV]at he2;obtain⟨b1,_,_,pb1,he2⟩:=he2;refine L.wp_block (nv hf2 (gf:=80) hgv (by decide) ?_);intro fid D l hDl hD hl;have hsz:a2.tmps.size=13:=hf2.sz;have htm:a2.tmps.getD 2 Go.undef = .pointer (some ⟨b1,0,none⟩):=by have:=hf2.env 2; rw[he2]at this; exact cE this
 have hn:∀ b o,(⟨2,[(0,.box (ak (.sl aS) x)),(1,.box [.emp])]⟩:DSt).get b=some o→pL o=true:=fun b o hb=>by
  simp only[DSt.get,fnd]at hb;cases h0:Nat.beq 0 b with
  | true=>rw[h0]at hb; cases hb; rfl
  | false=>
   rw[h0]at hb;cases h1:Nat.beq 1 b with
   | true=>rw[h1]at hb; cases hb; rfl
   | false=>rw[h1]at hb; cases hb
 have hno:∀ q,s2 q=none→∀ b o lc y,(⟨2,[(0,.box (ak (.sl aS) x)),(1,.box [.emp])]⟩:DSt).get b=some o→π2 b=some lc→lc.has y→y≠q:=fun q hq b o lc y hb hlc hy e=>by
  subst e; exact(j3.obj b o hb).some'' hlc hy hq
 have hFr:∀ q,s2 q=none→Fr q=none:=fun q hq=>by
  cases hc:Fr q with
  | none=>rfl
  | some z=>have:=j3.frm q z hc; rw[hq]at this; cases this
 have hput:=di j3 (hno D hD) (some (.raw kQ));have hn2:=j3.nx 2 (Nat.le_refl _);have pp0:=j1 _ _ (g1 _ _ p1);have hback:∀ {π5:Pi} {S5:DSt} {s5:Store},@RelS (yp123 fid a2.tmps D l b1) π5 (cx Fr D (some (.raw kQ))) S5 s5→(∀ b o,S5.get b=some o→pL o=true)→RelS π5 Fr S5 (upd s5 D (.raw (.deferred none))):=fun {π5 S5 s5} h hn5=>by
  have h:=oy _ YP.dflt hn5 h;refine jr (rZ h fun b z hz=>by rw[bQ _ _ (fun e=>by rw[e,hFr D hD]at hz; cases hz)]; exact hz) (hFr D hD) fun b o lc hb hlc hh=>?_;have:=h.out' b o lc D hb hlc hh;rw[aJ]at this; cases this
 have hsame:(yp123 fid a2.tmps D l b1).l=l:=rfl
 clear hf hf1 h3 g2 g3
 have hput1:=oy YP.dflt (yp123 fid a2.tmps D l b1) hn hput;have he2':∀ π5:Pi,Ext π2 π5→@RelE (yp123 fid a2.tmps D l b1) π5 [(2,.ptr 1 0)] e2:=fun π5 hx=>@bf (yp123 fid a2.tmps D l b1) _ _ _ _ _ (by simp only[RelV]; exact⟨_,_,_,hx _ _ pb1,he2⟩) (@eD (yp123 fid a2.tmps D l b1) _ _);have fin:∀ {π5:Pi} {d:DV} {v:AV},xE d=true→@RelV (yp123 fid a2.tmps D l b1) π5 d v→RelV π5 d v:=fun h1 h2=>qS _ _ _ h1 h2;have hout:∀ {π5:Pi} {s5:Store} {v:AV},RelS π5 Fr ⟨7,[(0,.box (ak (.sl aS) y.1)),(1,.box [.slc 6]),(6,.row 56 aS y.2.2)]⟩ s5→RelV π5 (.slc 6) v→∃ π6,E2 π π6 Fr sh89.out y.2.2 v s5:=fun h1 h2=>
  oz h1 h2 (I5 y.1 y.2.2) (fun k hk=>by cases hk)
 have hA:mw 1048576 [AV.ptr l 0,AV.ptr b1 0]=mw 1048576 [AV.ptr l 0,AV.ptr b1 0]:=rfl
 clear hA hput j3 j2
 letI y1:YP:=yp123 fid a2.tmps D l b1
 have hnew:RelS (addP π2 2 (.real l 0 0)) (cx Fr D (some (.raw kQ))) (DSt.new ⟨2,[(0,.box (ak (.sl aS) x)),(1,.box [.emp])]⟩ (.raw 0)) (upd (upd s2 D (.raw kQ)) l (.raw (.loop (eG fid a2.tmps D)))):=by
  refine bY (s1:=upd (upd s2 D (.raw kQ)) l (.raw (.loop (eG fid a2.tmps D)))) hput1 (.real l 0 0) (fun b o lc y hb hlc hy=>⟨ay _ _ (hno l hl b o lc y hb hlc hy),fun h=>hno l hl b o lc y hb hlc hy h⟩) (fun q z hq=>?_) (fun q h=>?_) ⟨l,0,0,addP_same _ _ _,upd_same _ _ _⟩
  ·have:q≠l:=fun e=>by
    rw[e,bQ _ _ (Ne.symm hDl),hFr l hl]at hq; cases hq
   rw[ay _ _ this];exact hput1.frm q z hq
  ·cases h;rw[bQ _ _ (Ne.symm hDl)]; exact hFr l hl
 have hx2:Ext π2 (addP π2 2 (.real l 0 0)):=aW hn2 _;have hT:am Tryz.prog [⟨80,tQ,Ee CJ⟩]:=bG (f:=80) (sh:=tQ) (F:=Ee CJ) (OH CJ (S4 fid a2.tmps D l b1 hsz htm)) (by kernel_rfl) aa;have hcd:=wd x (Ee CJ);rw[hP]at hcd;have hcall:=(fU (R:=fun _=>False) (RD:=[]) hnew ⟨fun b hb=>(by cases hb),fun b b' c n hb=>(by cases hb),fun b hb=>hb.elim⟩
  («as»:=[.yld l [.ptr l 0,.ptr b1 0] [.ptr l 0,.ptr b1 0],.ptr b0' 0])
  (RelVs_cons (by
   simp only[RelV];exact⟨_,(show AV.yld l [.ptr l 0,.ptr b1 0] [.ptr l 0,.ptr b1 0]=mw 1048576 [.ptr l 0,.ptr b1 0]from fnA_yb.symm),RelVs_cons (by simp only[RelV]; exact⟨_,_,_,addP_same _ _ _,rfl⟩) (aA (by simp only[RelV]; exact⟨_,_,_,hx2 _ _ pb1,rfl⟩))⟩)
   (aA (by simp only[RelV]; exact⟨_,_,_,hx2 _ _ pp0,rfl⟩))) hT hcd
  (K:=fun v s4=>∃ π4,Ext (addP π2 2 (.real l 0 0)) π4∧RelS π4 (cx Fr D (some (.raw kQ))) ⟨7,[(0,.box (ak (.sl aS) y.1)),(2,.raw y.2.1),(1,.box [.slc 6]),(6,.row 56 aS y.2.2)]⟩ s4) (fun d S1 v π1 s1 k1 k2 k3 k4 k5=>by
   cases k1; exact⟨π1,k3,k4⟩)).ac
 refine⟨[.ptr l 0,.ptr b1 0],_,hcall,?_⟩;rintro v s4 ⟨-,π4,k1,k2⟩;have hl4:s4 l=some (.raw (.loop (eG fid a2.tmps D))):=by
  obtain⟨l',_,_,q1,q2⟩:=k2.obj 2 (.raw y.2.1) rfl;rw[k1 _ _ (addP_same _ _ _)]at q1; cases q1;exact q2
 refine⟨eG fid a2.tmps D,hl4,by simp[eG,gH],fun w3 hst hm=>?_⟩;show L.cwp none Tryz.prog (.seq Kd .ret) _ _ w3;have hl5:cx Fr D (some (.raw kQ)) l=none:=by rw[bQ _ _ (Ne.symm hDl)]; exact hFr l hl
 have hS5:=jr (q:=l) (x:=.raw (.loop (gone (eG fid a2.tmps D)))) (bi k2 2) hl5 (fun b o lc hb hlc hh=>by
  rw[DSt.get_del]at hb;split at hb
  ·cases hb
  ·rename_i hne;exact hne (k2.inj' b 2 o (.raw y.2.1) lc _ l hb rfl hlc (k1 _ _ (addP_same _ _ _)) hh rfl))
 have hf3:Conf 13 (upd s4 l (.raw (.loop (gone (eG fid a2.tmps D))))) e2 {a2 with defers:=L.mark D::a2.defers } w3:=⟨hf2.sz,hst,fun t=>(hf2.env t).mv hm⟩
 refine L.wp_seq (L.wp_mono (bR mo aa I8 (I4 y.1 y.2.2) (he2' π4 (hx2.trans k1)) hS5 none _ w3 hf3) ?_);rintro ex a5 w5 ⟨e5,s5,⟨rfl,π5,n1,n2,n3⟩,hf5,m5,d5⟩;have hv:=n2 4 _ rfl;refine L.wp_ret ⟨e5,s5,D,e5 4,rfl,hf5,m1.trans (m2.trans (hm.trans m5)),?_,n3.frm D _ (aJ _ _ _),?_⟩
 ·rw[d5];show L.mark D::a2.defers=_;rw[d2,d1,hdf]
 ·refine hout (hback n3 fun b o hb=>?_) (fin rfl hv);simp only[DSt.get,fnd]at hb;cases h0:Nat.beq 0 b with
  | true=>rw[h0]at hb; cases hb; rfl
  | false=>
   rw[h0]at hb;cases h1:Nat.beq 1 b with
   | true=>rw[h1]at hb; cases hb; rfl
   | false=>
    rw[h1]at hb;cases h2:Nat.beq 6 b with
    | true=>rw[h2]at hb; cases hb; rfl
    | false=>rw[h2]at hb; cases hb
end Go.Proofs.YtdkaijofmigmbaaGreat.D
