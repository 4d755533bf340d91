import Derived.Test.YtdkaijofmigmbaaG0p
set_option linter.unusedVariables false
set_option linter.unusedSectionVars false
set_option maxRecDepth 100000
namespace Go.Proofs.Ytdkaijofmigmbaa.D
open Go Go.Proofs Go.Proofs.Ytdkaijofmigmbaa.L
abbrev aS:Ty:=.pair (.int .i64) (.pair (.int .i64) (.pair (.int .i64) (.pair (.int .i64) (.int .i64))))
abbrev cz:Type:=Int×Int×Int×Int×Int
def cl:Code→Code
 | .seq a _=>a
 | c=>c
def cr:Code→Code
 | .seq _ b=>b
 | c=>c
def cb:Code→Code
 | .block _ c=>c
 | c=>c
def ra:Code→Code
 | .rangeFunc _ _ a _=>a
 | c=>c
def rb:Code→Code
 | .rangeFunc _ _ _ b=>b
 | c=>c
noncomputable def w6:Code:=Try.f123.body.getD .skip
noncomputable def sP:Code:=ra (cb (cr (cl (cr w6))))
noncomputable def sQ:Code:=rb (cb (cr (cl (cr w6))))
noncomputable def E4:Code:=cl w6
noncomputable def E5:Code:=cl (cl (cr w6))
noncomputable def zV:Code:=cl (cr (cr w6))
theorem body123:Try.f123.body=some (.seq E4 (.seq (.seq E5 (.block 0 (.rangeFunc (.tmp 6) #[7] sP sQ))) (.seq zV .ret))):=by kernel_rfl
noncomputable def CD:cz×Int×List cz→Option (Bool×Int×List cz):=fun x=>au (cp 40 (x.2.2.length+1)) (some (true,x.2.1,x.2.2++[x.1]))
noncomputable def cP (fid:FuncId)(tm:Array Value)(D:Nat):Loop:=gu fid tm #[7] sP sQ D
@[reducible] noncomputable def yp123 (fid:FuncId) (tm:Array Value) (D l b1:Nat):YP:=⟨l,[.ptr l 0,.ptr b1 0],fun _=>.loop (cP fid tm D)⟩
theorem E6 (c:cz)(k:Int)(row:List cz):fillSt (fun k=>k) shYa.ins (ofDens shYa.ts (c,k,row))=some ([.agg (ak aS c),.fn 1048576 [.ptr 0 0,.ptr 1 0]],[(0,.raw k),(1,.box [.slc 2]),(2,.row 40 aS row)]):=by kernel_rfl
theorem Nh (c:cz)(k:Int)(row:List cz):bR [] (ann .n (cg Try.prog 13 [] sP)) (fun x e S=>some (x,e,S)) [(7,.agg (ak aS c)),(2,.ptr 1 0)] ⟨3,[(0,.raw k),(1,.box [.slc 2]),(2,.row 40 aS row)]⟩ =
  some (.normal,[(7,.agg (ak aS c)),(2,.ptr 1 0),(5,.ptr 3 0)],⟨4,[(0,.raw k),(1,.box [.slc 2]),(2,.row 40 aS row),(3,.box (ak aS c))]⟩):=by kernel_rfl
theorem Ni (c:cz)(row:List cz):bR [] (ann (.b (.r [.a 2 false aS,.a 3 false aS])) (cg Try.prog 13 [] sQ)) (fun x e S=>some (x,e,S)) [(7,.agg (ak aS c)),(2,.ptr 1 0),(5,.ptr 3 0)] ⟨4,[(1,.box [.slc 2]),(2,.row 40 aS row),(3,.box (ak aS c))]⟩ =
  au (cp 40 (row.length+1)) (some (.normal,[(7,.agg (ak aS c)),(2,.ptr 1 0),(5,.ptr 3 0),(8,.slc 2),(9,.agg (ak aS c)),(10,.slc 4),(11,.slc 5)],⟨6,[(1,.box [.slc 5]),(3,.box (ak aS c)),(4,.row 40 aS [c]),(5,.row 40 aS (row++[c]))]⟩)):=by kernel_rfl
theorem I2 (c:cz)(k:Int)(row:List cz):(match iq none (⟨6,[(1,.box [.slc 5]),(3,.box (ak aS c)),(4,.row 40 aS [c]),(5,.row 40 aS (row++[c])),(0,.raw k)]⟩:DSt) shYa.out.st shYa.out.q [b6 true] (jB shYa.out.ids)with
  | some (l,_)=>cj shYa.out.ts l
  | none=>none)=some (true,k,row++[c]):=by kernel_rfl
theorem zW:(bA Try.prog 13 [] sP).isSome=true:=by kernel_rfl
theorem zX:(bA Try.prog 13 [] sQ).isSome=true:=by kernel_rfl
theorem Sg (fid:FuncId)(tm:Array Value)(D l b1:Nat)(hsz:tm.size=13)(htm:tm.getD 2 Go.undef = .pointer (some ⟨b1,0,none⟩)):@DC (yp123 fid tm D l b1) Try.prog YB shYa CD:=by
 letI:=yp123 fid tm D l b1
 refine⟨fun h=>absurd rfl h,?_⟩;rintro⟨c,k,row⟩ r hr π Fr av s' ⟨ds,os,h1,h2,h3⟩;have h1:=(E6 c k row).symm.trans h1;cases h1;simp only[RelVs,RelV]at h2;obtain⟨a1,as1,rfl,⟨cs,rfl,hcs⟩,a2,as2,rfl,⟨caps,rfl,a3,as3,rfl,⟨bl,cc1,nn1,p1,rfl⟩,a4,as4,rfl,⟨bs,cc2,nn2,p2,rfl⟩,rfl⟩,rfl⟩:=h2;rw[show mj 1048576 [AV.ptr bl 0,AV.ptr bs 0] = .yld YP.l YP.pins [AV.ptr bl 0,AV.ptr bs 0]from fnA_yb];unfold CD at hr;simp only at hr;have hcap:cp 40 (row.length+1)=true:=by
  cases hc:cp 40 (row.length+1)with
  | true=>rfl
  | false=>rw[hc]at hr; cases hr
 rw[hcap]at hr;have hr:some (true,k,row++[c])=some r:=hr;cases hr;refine pv (xs:=[.agg cs]) (rc:=cP fid tm D) (n:=13) rfl rfl hsz ?_;intro hpin;have hpin:[AV.ptr bl 0,AV.ptr bs 0]=[.ptr l 0,.ptr b1 0]:=hpin;cases hpin;obtain⟨l',cc1',nn1',q1,q2⟩:=h3.obj 0 (.raw k) rfl;have e1:l=l':=by rw[p1]at q1; cases q1; rfl
 subst e1;have hl:s' l=some (.raw (.loop (cP fid tm D))):=q2;have hFl:Fr l=none:=h3.out' 0 (.raw k) _ l rfl p1 rfl;refine⟨hl,fun t=>if t=7 then .agg cs else if t=2 then .ptr b1 0 else .undef,fun o w vs hv t=>?_,?_⟩
 ·obtain⟨v,rfl⟩:∃ v,vs=[v]:=by
   match vs,hv.1 with
   | [v],_=>exact⟨v,rfl⟩
  have hv0:=hv.2 0 (by simp);show RV o w (if t=7 then .agg cs else if t=2 then .ptr b1 0 else .undef) ((tm.setIfInBounds 7 v).getD t Go.undef);by_cases h7:t=7
  ·subst h7;simp only[if_true];rw[Array.getD_eq_getD_getElem?,Array.getElem?_setIfInBounds_self_of_lt (by omega)];exact hv0
  ·rw[if_neg h7,Array.getD_eq_getD_getElem?,Array.getElem?_setIfInBounds_ne (Ne.symm h7),← Array.getD_eq_getD_getElem?];by_cases h2:t=2
   ·subst h2; rw[if_pos rfl,htm]; exact .ptr _ _
   ·rw[if_neg h2]; exact .undef _
 ·refine fX ?_ (bO me aa zW (Nh c k row) (e':=fun t=>if t=7 then .agg cs else if t=2 then .ptr b1 0 else .undef) ?_ h3)
  ·rintro x e1 s1 ⟨rfl,π1,g1,g2,g3⟩;have hl1:s1 l=some (.raw (.loop (cP fid tm D))):=by
    obtain⟨l',_,_,q1,q2⟩:=g3.obj 0 (.raw k) rfl;have e1:l=l':=by rw[g1 _ _ p1]at q1; cases q1; rfl
    subst e1;exact q2
   refine⟨rfl,hl1,?_⟩;have hd:=bi g3 0;have hno:∀ b o lc y,(DSt.del ⟨4,[(0,.raw k),(1,.box [.slc 2]),(2,.row 40 aS row),(3,.box (ak aS c))]⟩ 0).get b=some o→π1 b=some lc→lc.has y→y≠l:=fun b o lc y hb hlc hy e=>by
    subst e;rw[DSt.get_del]at hb;split at hb
    ·cases hb
    ·rename_i hne;exact hne (g3.inj' b 0 o (.raw k) lc _ _ hb rfl hlc (g1 _ _ p1) hy rfl)
   have hput:=dg hd hno (some (.raw (.loop (busy (cP fid tm D)))));have hb2:=(Ni c row).trans (by rw[hcap]; rfl:au (cp 40 (row.length+1)) _=some _);refine fX ?_ (bO me aa zX hb2 g2 hput);rintro x e2 s2 ⟨rfl,π2,j1,j2,j3⟩;have hl2:s2 l=some (.raw (.loop (busy (cP fid tm D)))):=j3.frm l _ (aI _ _ _);refine⟨hl2,?_⟩;have hback:=jP (Fr:=Fr) (m:=l) (b:=0) (x:=.raw (.loop (gv (busy (cP fid tm D)) none))) (y:=.raw (.loop (busy (cP fid tm D)))) (o:=.raw k) j3
    (fun q z hq=>⟨by rw[bN _ _ (fun e=>by rw[e,hFl]at hq; cases hq)]; exact hq,fun e=>by rw[e,hFl]at hq; cases hq⟩) (aI _ _ _) (j1 _ _ (g1 _ _ p1)) ⟨l,_,_,j1 _ _ (g1 _ _ p1),upd_same _ _ _⟩
   exact oh hback (show RelV π2 (b6 true) (.bool true)from aE true) (I2 c k row) (fun i hi=>by
    have:i=0∨i=1:=by
     simp[shYa]at hi
     rcases hi with h | h
     ·left; exact h
     ·right; exact h
    rcases this with rfl | rfl
    ·exact⟨_,p1,j1 _ _ (g1 _ _ p1)⟩
    ·exact⟨_,p2,j1 _ _ (g1 _ _ p2)⟩)
  ·exact bf (by simp only[RelV]; exact⟨cs,rfl,hcs⟩) (bf (by simp only[RelV]; exact⟨_,_,_,p2,rfl⟩) (eb _))
def sh123:FSh:=⟨⟨[.emp,(.fn 110 [(.ptr 0 0)])],[(0,(.boxT (.sl (.pair (.int .i64) (.pair (.int .i64) (.pair (.int .i64) (.pair (.int .i64) (.int .i64))))))))]⟩,[(.sl (.pair (.int .i64) (.pair (.int .i64) (.pair (.int .i64) (.pair (.int .i64) (.int .i64))))))],1,⟨⟨[(.slc 1)],[(1,(.row 40 (.pair (.int .i64) (.pair (.int .i64) (.pair (.int .i64) (.pair (.int .i64) (.int .i64)))))))]⟩,[(.sl (.pair (.int .i64) (.pair (.int .i64) (.pair (.int .i64) (.pair (.int .i64) (.int .i64))))))],[],2⟩,false⟩
noncomputable def P123:List cz→Option (List cz):=fun x=>(qN CD (x,0,[])).bind fun r=>some r.2.2
theorem zY (x:List cz):fillSt (fun k=>k) sh123.ins (ofDens sh123.ts x)=some ([.emp,.fn 110 [.ptr 0 0]],[(0,.box (ak (.sl aS) x))]):=by kernel_rfl
theorem I3 (x:List cz):bR [] (ann .n (cg Try.prog 13 [] E4)) (fun x e S=>some (x,e,S)) [(0,.emp),(1,.fn 110 [.ptr 0 0])] ⟨1,[(0,.box (ak (.sl aS) x))]⟩ =
  some (.normal,[(0,.emp),(1,.fn 110 [.ptr 0 0]),(2,.ptr 1 0),(4,.emp)],⟨2,[(0,.box (ak (.sl aS) x)),(1,.box [.emp])]⟩):=by kernel_rfl
theorem I4 (x:List cz):bR [] (ann .n (cg Try.prog 13 [] E5)) (fun x e S=>some (x,e,S)) [(0,.emp),(1,.fn 110 [.ptr 0 0]),(2,.ptr 1 0),(4,.emp)] ⟨2,[(0,.box (ak (.sl aS) x)),(1,.box [.emp])]⟩ =
  some (.normal,[(0,.emp),(1,.fn 110 [.ptr 0 0]),(2,.ptr 1 0),(4,.emp),(6,.fn 110 [.ptr 0 0])],⟨2,[(0,.box (ak (.sl aS) x)),(1,.box [.emp])]⟩):=by kernel_rfl
theorem w7 (x:List cz)(F:List cz×Int×List cz→Option (List cz×Int×List cz)):fS [] [⟨110,nl,F⟩] 110 [.fn 1048576 [.ptr 2 0,.ptr 1 0],.ptr 0 0] (DSt.new ⟨2,[(0,.box (ak (.sl aS) x)),(1,.box [.emp])]⟩ (.raw 0)) (fun d S=>some (d,S)) =
  (F (x,0,[])).bind fun r=>some (.tup [],⟨7,[(0,.box (ak (.sl aS) r.1)),(2,.raw r.2.1),(1,.box [.slc 6]),(6,.row 40 aS r.2.2)]⟩):=by kernel_rfl
theorem I5 (x row:List cz):bR [] (ann .n (cg Try.prog 13 [] zV)) (fun x e S=>some (x,e,S)) [(2,.ptr 1 0)] ⟨7,[(0,.box (ak (.sl aS) x)),(1,.box [.slc 6]),(6,.row 40 aS row)]⟩ =
  some (.normal,[(2,.ptr 1 0),(12,.slc 6),(4,.slc 6)],⟨7,[(0,.box (ak (.sl aS) x)),(1,.box [.slc 6]),(6,.row 40 aS row)]⟩):=by kernel_rfl
theorem E7 (x row:List cz):(match iq none (⟨7,[(0,.box (ak (.sl aS) x)),(1,.box [.slc 6]),(6,.row 40 aS row)]⟩:DSt) sh123.out.st sh123.out.q [.slc 6] (jB sh123.out.ids)with
  | some (l,_)=>cj sh123.out.ts l
  | none=>none)=some row:=by kernel_rfl
theorem E8:(bA Try.prog 13 [] E4).isSome=true:=by kernel_rfl
theorem E9:(bA Try.prog 13 [] E5).isSome=true:=by kernel_rfl
theorem Fa:(bA Try.prog 13 [] zV).isSome=true:=by kernel_rfl
theorem Fb:oW Try.prog Try.f123.results.toList=some [.t 4]:=by kernel_rfl
theorem CE:Try.f123.ntmps=13:=by kernel_rfl
theorem name123 : (Try.f123.name == "runtime.NumGoroutine") = false := by kernel_rfl
theorem Nj:DC Try.prog 123 sh123 P123:=by
 refine⟨fun _=>⟨Try.f123,Try.func123,name123,by rw[body123]; rfl⟩,?_⟩;rintro x r hr π Fr av s' ⟨ds,os,h1,h2,h3⟩;have h1:=(zY x).symm.trans h1;cases h1;simp only[RelVs,RelV]at h2;obtain⟨a1,as1,rfl,rfl,a2,as2,rfl,⟨caps,rfl,a3,as3,rfl,⟨b0,cc1,nn1,p1,rfl⟩,rfl⟩,rfl⟩:=h2;rw[show mj 110 [AV.ptr b0 0] = .fn 110 [AV.ptr b0 0]from dY rfl];unfold P123 at hr;cases hP:qN CD (x,0,[])with
 | none=>rw[hP]at hr; cases hr
 | some y=>
 rw[hP]at hr;have hr:some y.2.2=some r:=hr;cases hr;refine pu (fn:=Try.f123) Try.func123 name123 body123 (by decide) (rs:=[.t 4]) (gG Fb) (by rw[CE]; simp) ?_;rw[CE];intro a w hf hdf;refine L.wp_seq (L.wp_mono (bO me aa E8 (I3 x) (bf (by simp only[RelV]; rfl) (bf (by simp only[RelV]; exact⟨_,(dY rfl).symm,az (by simp only[RelV]; exact⟨_,_,_,p1,rfl⟩)⟩) (eb _))) h3 none a w hf) ?_);rintro ex a1 w1 ⟨e1,s1,⟨rfl,π1,g1,g2,g3⟩,hf1,m1,d1⟩;refine L.wp_seq (L.wp_seq (L.wp_mono (bO me aa E9 (I4 x) g2 g3 none a1 w1 hf1) ?_));rintro ex a2 w2 ⟨e2,s2,⟨rfl,π2,j1,j2,j3⟩,hf2,m2,d2⟩;have he6:=j2 6 _ rfl;simp only[RelV,RelVs]at he6;obtain⟨_,he6,_,_,rfl,⟨b0',_,_,p1',rfl⟩,rfl⟩:=he6;have:b0'=b0:=by rw[j1 _ _ (g1 _ _ p1)]at p1'; cases p1'; rfl
 subst this;rw[dY rfl]at he6;have hgv:RV (own s2) w2 (.fn 110 [.ptr b0' 0]) (a2.eval (.tmp 6)):=by have:=hf2.env 6; rw[he6]at this; exact this
 have he2:=j2 2 _ rfl;simp only[RelV]at he2;obtain⟨b1,_,_,pb1,he2⟩:=he2;refine L.wp_block (nj hf2 (gf:=110) hgv (by decide) ?_);intro fid D l hDl hD hl;have hsz:a2.tmps.size=13:=hf2.sz;have htm:a2.tmps.getD 2 Go.undef = .pointer (some ⟨b1,0,none⟩):=by have:=hf2.env 2; rw[he2]at this; exact cC this
 have hn:∀ b o,(⟨2,[(0,.box (ak (.sl aS) x)),(1,.box [.emp])]⟩:DSt).get b=some o→py o=true:=fun b o hb=>by
  simp only[DSt.get,fnd]at hb;cases h0:Nat.beq 0 b with
  | true=>rw[h0]at hb; cases hb; rfl
  | false=>
   rw[h0]at hb;cases h1:Nat.beq 1 b with
   | true=>rw[h1]at hb; cases hb; rfl
   | false=>rw[h1]at hb; cases hb
 have hno:∀ q,s2 q=none→∀ b o lc y,(⟨2,[(0,.box (ak (.sl aS) x)),(1,.box [.emp])]⟩:DSt).get b=some o→π2 b=some lc→lc.has y→y≠q:=fun q hq b o lc y hb hlc hy e=>by
  subst e; exact(j3.obj b o hb).some'' hlc hy hq
 have hFr:∀ q,s2 q=none→Fr q=none:=fun q hq=>by
  cases hc:Fr q with
  | none=>rfl
  | some z=>have:=j3.frm q z hc; rw[hq]at this; cases this
 have hput:=dg j3 (hno D hD) (some (.raw kE));have hn2:=j3.nx 2 (Nat.le_refl _);have pp0:=j1 _ _ (g1 _ _ p1);have hback:∀ {π5:Pi} {S5:DSt} {s5:Store},@RelS (yp123 fid a2.tmps D l b1) π5 (ct Fr D (some (.raw kE))) S5 s5→(∀ b o,S5.get b=some o→py o=true)→RelS π5 Fr S5 (upd s5 D (.raw (.deferred none))):=fun {π5 S5 s5} h hn5=>by
  have h:=og _ YP.dflt hn5 h;refine je (rQ h fun b z hz=>by rw[bN _ _ (fun e=>by rw[e,hFr D hD]at hz; cases hz)]; exact hz) (hFr D hD) fun b o lc hb hlc hh=>?_;have:=h.out' b o lc D hb hlc hh;rw[aI]at this; cases this
 have hsame:(yp123 fid a2.tmps D l b1).l=l:=rfl
 clear hf hf1 h3 g2 g3
 have hput1:=og YP.dflt (yp123 fid a2.tmps D l b1) hn hput;have he2':∀ π5:Pi,Ext π2 π5→@RelE (yp123 fid a2.tmps D l b1) π5 [(2,.ptr 1 0)] e2:=fun π5 hx=>@bf (yp123 fid a2.tmps D l b1) _ _ _ _ _ (by simp only[RelV]; exact⟨_,_,_,hx _ _ pb1,he2⟩) (@eb (yp123 fid a2.tmps D l b1) _ _);have fin:∀ {π5:Pi} {d:DV} {v:AV},yw d=true→@RelV (yp123 fid a2.tmps D l b1) π5 d v→RelV π5 d v:=fun h1 h2=>qK _ _ _ h1 h2;have hout:∀ {π5:Pi} {s5:Store} {v:AV},RelS π5 Fr ⟨7,[(0,.box (ak (.sl aS) y.1)),(1,.box [.slc 6]),(6,.row 40 aS y.2.2)]⟩ s5→RelV π5 (.slc 6) v→∃ π6,FH π π6 Fr sh123.out y.2.2 v s5:=fun h1 h2=>
  oh h1 h2 (E7 y.1 y.2.2) (fun k hk=>by cases hk)
 have hA:mj 1048576 [AV.ptr l 0,AV.ptr b1 0]=mj 1048576 [AV.ptr l 0,AV.ptr b1 0]:=rfl
 clear hA hput j3 j2
 letI y1:YP:=yp123 fid a2.tmps D l b1
 have hnew:RelS (addP π2 2 (.real l 0 0)) (ct Fr D (some (.raw kE))) (DSt.new ⟨2,[(0,.box (ak (.sl aS) x)),(1,.box [.emp])]⟩ (.raw 0)) (upd (upd s2 D (.raw kE)) l (.raw (.loop (cP fid a2.tmps D)))):=by
  refine bV (s1:=upd (upd s2 D (.raw kE)) l (.raw (.loop (cP fid a2.tmps D)))) hput1 (.real l 0 0) (fun b o lc y hb hlc hy=>⟨aq _ _ (hno l hl b o lc y hb hlc hy),fun h=>hno l hl b o lc y hb hlc hy h⟩) (fun q z hq=>?_) (fun q h=>?_) ⟨l,0,0,addP_same _ _ _,upd_same _ _ _⟩
  ·have:q≠l:=fun e=>by
    rw[e,bN _ _ (Ne.symm hDl),hFr l hl]at hq; cases hq
   rw[aq _ _ this];exact hput1.frm q z hq
  ·cases h;rw[bN _ _ (Ne.symm hDl)]; exact hFr l hl
 have hx2:Ext π2 (addP π2 2 (.real l 0 0)):=aW hn2 _;have hT:am Try.prog [⟨110,nl,qN CD⟩]:=ca (f:=110) (sh:=nl) (F:=qN CD) (Kk CD (Sg fid a2.tmps D l b1 hsz htm)) (by kernel_rfl) aa;have hcd:=w7 x (qN CD);rw[hP]at hcd;have hcall:=(fL (R:=fun _=>False) (RD:=[]) hnew ⟨fun b hb=>(by cases hb),fun b b' c n hb=>(by cases hb),fun b hb=>hb.elim⟩
  («as»:=[.yld l [.ptr l 0,.ptr b1 0] [.ptr l 0,.ptr b1 0],.ptr b0' 0])
  (RelVs_cons (by
   simp only[RelV];exact⟨_,(show AV.yld l [.ptr l 0,.ptr b1 0] [.ptr l 0,.ptr b1 0]=mj 1048576 [.ptr l 0,.ptr b1 0]from fnA_yb.symm),RelVs_cons (by simp only[RelV]; exact⟨_,_,_,addP_same _ _ _,rfl⟩) (az (by simp only[RelV]; exact⟨_,_,_,hx2 _ _ pb1,rfl⟩))⟩)
   (az (by simp only[RelV]; exact⟨_,_,_,hx2 _ _ pp0,rfl⟩))) hT hcd
  (K:=fun v s4=>∃ π4,Ext (addP π2 2 (.real l 0 0)) π4∧RelS π4 (ct Fr D (some (.raw kE))) ⟨7,[(0,.box (ak (.sl aS) y.1)),(2,.raw y.2.1),(1,.box [.slc 6]),(6,.row 40 aS y.2.2)]⟩ s4) (fun d S1 v π1 s1 k1 k2 k3 k4 k5=>by
   cases k1; exact⟨π1,k3,k4⟩)).ac
 refine⟨[.ptr l 0,.ptr b1 0],_,hcall,?_⟩;rintro v s4 ⟨-,π4,k1,k2⟩;have hl4:s4 l=some (.raw (.loop (cP fid a2.tmps D))):=by
  obtain⟨l',_,_,q1,q2⟩:=k2.obj 2 (.raw y.2.1) rfl;rw[k1 _ _ (addP_same _ _ _)]at q1; cases q1;exact q2
 refine⟨cP fid a2.tmps D,hl4,by simp[cP,gu],fun w3 hst hm=>?_⟩;show L.cwp none Try.prog (.seq zV .ret) _ _ w3;have hl5:ct Fr D (some (.raw kE)) l=none:=by rw[bN _ _ (Ne.symm hDl)]; exact hFr l hl
 have hS5:=je (q:=l) (x:=.raw (.loop (gone (cP fid a2.tmps D)))) (bi k2 2) hl5 (fun b o lc hb hlc hh=>by
  rw[DSt.get_del]at hb;split at hb
  ·cases hb
  ·rename_i hne;exact hne (k2.inj' b 2 o (.raw y.2.1) lc _ l hb rfl hlc (k1 _ _ (addP_same _ _ _)) hh rfl))
 have hf3:Conf 13 (upd s4 l (.raw (.loop (gone (cP fid a2.tmps D))))) e2 {a2 with defers:=L.mark D::a2.defers } w3:=⟨hf2.sz,hst,fun t=>(hf2.env t).mv hm⟩
 refine L.wp_seq (L.wp_mono (bO me aa Fa (I5 y.1 y.2.2) (he2' π4 (hx2.trans k1)) hS5 none _ w3 hf3) ?_);rintro ex a5 w5 ⟨e5,s5,⟨rfl,π5,n1,n2,n3⟩,hf5,m5,d5⟩;have hv:=n2 4 _ rfl;refine L.wp_ret ⟨e5,s5,D,e5 4,rfl,hf5,m1.trans (m2.trans (hm.trans m5)),?_,n3.frm D _ (aI _ _ _),?_⟩
 ·rw[d5];show L.mark D::a2.defers=_;rw[d2,d1,hdf]
 ·refine hout (hback n3 fun b o hb=>?_) (fin rfl hv);simp only[DSt.get,fnd]at hb;cases h0:Nat.beq 0 b with
  | true=>rw[h0]at hb; cases hb; rfl
  | false=>
   rw[h0]at hb;cases h1:Nat.beq 1 b with
   | true=>rw[h1]at hb; cases hb; rfl
   | false=>
    rw[h1]at hb;cases h2:Nat.beq 6 b with
    | true=>rw[h2]at hb; cases hb; rfl
    | false=>rw[h2]at hb; cases hb
end Go.Proofs.Ytdkaijofmigmbaa.D
