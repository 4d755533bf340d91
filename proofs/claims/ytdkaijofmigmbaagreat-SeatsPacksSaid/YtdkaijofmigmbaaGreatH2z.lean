import Derived.Test.YtdkaijofmigmbaaGreatH1z
set_option linter.unusedVariables false
set_option linter.unusedSectionVars false
set_option maxRecDepth 100000
namespace Go.Proofs.YtdkaijofmigmbaaGreat.D
open Go Go.Proofs Go.Proofs.YtdkaijofmigmbaaGreat.L
abbrev aI:Ty:=.pair (.int .i64) (.pair (.int .i64) (.pair (.int .i64) (.int .i64)))
abbrev cL:Type:=Int×Int×Int×Int
abbrev qZ:Ty:=.pair (.int .i64) (.pair (.int .i64) (.pair (.int .i64) (.pair (.int .i64) (.int .i64))))
abbrev we:Type:=Int×Int×Int×Int×Int×Int
noncomputable def Jb:Code:=Tryz.f28.body.getD .skip
noncomputable def zl:Code:=ra (cb (cr (cl (cr Jb))))
noncomputable def zm:Code:=rb (cb (cr (cl (cr Jb))))
noncomputable def MX:Code:=cl Jb
noncomputable def MY:Code:=cl (cl (cr Jb))
noncomputable def Ke:Code:=cl (cr (cr Jb))
theorem body28:Tryz.f28.body=some (.seq MX (.seq (.seq MY (.block 0 (.rangeFunc (.tmp 10) #[11,12] zl zm))) (.seq Ke .ret))):=by kernel_rfl
noncomputable def CK:cL×Bool×Int×cL×Bool→Option (Bool×Int×cL×Bool):=fun x=>
 aq (decide (x.2.2.1=0)) (cond (!x.2.1) (some (false,1,x.1,true)) (cond (!x.2.2.2.2) (some (true,0,x.1,true)) (some (true,0,x.2.2.2.1,true))))
noncomputable def eH (fid:FuncId)(tm:Array Value)(D:Nat):Loop:=gH fid tm #[11,12] zl zm D
noncomputable def wg (fid:FuncId)(tm:Array Value)(D:Nat)(k:Int):Obj:=.loop (if k=0 then eH fid tm D else gI (busy (eH fid tm D)) (some .ret))
@[reducible] noncomputable def yp46 (fid:FuncId) (tm:Array Value) (D l b1 b2:Nat):YP:=⟨l,[.ptr l 0,.ptr b1 0,.ptr b2 0],wg fid tm D⟩
theorem Ex (p:cL)(g:Bool)(k:Int)(f:cL)(b:Bool):fillSt (fun k=>k) shYb.ins (ofDens shYb.ts (p,g,k,f,b))=some ([.agg (ak aI p),ca g,.fn 1048576 [.ptr 0 0,.ptr 1 0,.ptr 2 0]],[(0,.raw k),(1,.box (ak aI f)),(2,.box [ca b])]):=by kernel_rfl
theorem MZ (p:cL)(g:Bool)(k:Int)(f:cL)(b:Bool):bT [] (ann .n (cn Tryz.prog 21 [] zl)) (fun x e S=>some (x,e,S)) [(11,.agg (ak aI p)),(12,ca g),(4,.ptr 1 0),(5,.ptr 2 0)] ⟨3,[(0,.raw k),(1,.box (ak aI f)),(2,.box [ca b])]⟩ =
  some (.normal,[(11,.agg (ak aI p)),(12,ca g),(4,.ptr 1 0),(5,.ptr 2 0),(6,.ptr 3 0),(7,ca g)],⟨4,[(0,.raw k),(1,.box (ak aI f)),(2,.box [ca b]),(3,.box (ak aI p))]⟩):=by kernel_rfl
theorem M0 (p:cL)(g:Bool)(f:cL)(b:Bool):∃ e1,bT [] (ann .n (cn Tryz.prog 21 [] zm)) (fun x e S=>some (x,e,S)) [(11,.agg (ak aI p)),(12,ca g),(4,.ptr 1 0),(5,.ptr 2 0),(6,.ptr 3 0),(7,ca g)] ⟨4,[(1,.box (ak aI f)),(2,.box [ca b]),(3,.box (ak aI p))]⟩ =
  some (bif g then .normal else .ret,e1,⟨4,[(1,.box (ak aI (bif g&&b then f else p))),(2,.box [ca true]),(3,.box (ak aI p))]⟩):=by
 cases g with
 | false=>exact⟨[(11,.agg (ak aI p)),(12,ca false),(4,.ptr 1 0),(5,.ptr 2 0),(6,.ptr 3 0),(7,ca false),(13,ca false),(14,ca true),(15,.agg (ak aI p))],by kernel_rfl⟩
 | true=>
  cases b with
  | false=>exact⟨[(11,.agg (ak aI p)),(12,ca true),(4,.ptr 1 0),(5,.ptr 2 0),(6,.ptr 3 0),(7,ca true),(13,ca true),(14,ca false),(16,ca false),(17,ca true),(18,.agg (ak aI p))],by kernel_rfl⟩
  | true=>exact⟨[(11,.agg (ak aI p)),(12,ca true),(4,.ptr 1 0),(5,.ptr 2 0),(6,.ptr 3 0),(7,ca true),(13,ca true),(14,ca false),(16,ca true),(17,ca false)],by kernel_rfl⟩
theorem Jc (p f:cL)(k:Int)(g:Bool):(match iI none (⟨4,[(1,.box (ak aI f)),(2,.box [ca true]),(3,.box (ak aI p)),(0,.raw k)]⟩:DSt) shYb.out.st shYb.out.q [ca g] (jN shYb.out.ids)with
  | some (l,_)=>ct shYb.out.ts l
  | none=>none)=some (g,k,f,true):=by kernel_rfl
theorem Ey:(bC Tryz.prog 21 [] zl).isSome=true:=by kernel_rfl
theorem Ez:(bC Tryz.prog 21 [] zm).isSome=true:=by kernel_rfl
theorem S7 (fid:FuncId)(tm:Array Value)(D l b1 b2:Nat)(hsz:tm.size=21)(htm:tm.getD 4 Go.undef = .pointer (some ⟨b1,0,none⟩))(htm2:tm.getD 5 Go.undef = .pointer (some ⟨b2,0,none⟩)):@DC (yp46 fid tm D l b1 b2) Tryz.prog YB shYb CK:=by
 letI:=yp46 fid tm D l b1 b2
 refine⟨fun h=>absurd rfl h,?_⟩;rintro⟨p,g,k,f,b⟩ r hr π Fr av s' ⟨ds,os,h1,h2,h3⟩;have h1:=(Ex p g k f b).symm.trans h1;cases h1;simp only[RelVs,RelV]at h2;obtain⟨a1,as1,rfl,⟨cs,rfl,hcs⟩,a2,as2,rfl,hg,a3,as3,rfl,⟨caps,rfl,a4,as4,rfl,⟨bl,cc1,nn1,p1,rfl⟩,a5,as5,rfl,⟨bs,cc2,nn2,p2,rfl⟩,a6,as6,rfl,⟨bt,cc3,nn3,p3,rfl⟩,rfl⟩,rfl⟩:=h2;have hg:a2 = .bool g:=by simpa only[ca,RelV,CR,List.cons.injEq,and_true]using hg
 subst hg;rw[show mw 1048576 [AV.ptr bl 0,AV.ptr bs 0,AV.ptr bt 0] = .yld YP.l YP.pins [AV.ptr bl 0,AV.ptr bs 0,AV.ptr bt 0]from fnA_yb];unfold CK at hr;simp only at hr;have hk:k=0:=by
  by_cases hc:k=0
  ·exact hc
  ·rw[show decide (k=0)=false from decide_eq_false hc]at hr; cases hr
 subst hk;have hr:some (g,(bif g then(0:Int)else 1),(bif g&&b then f else p),true)=some r:=by
  rw[← hr]; cases g <;> cases b <;> rfl
 cases hr;refine pJ (xs:=[.agg cs,.bool g]) (rc:=eH fid tm D) (n:=21) rfl rfl hsz ?_;intro hpin;have hpin:[AV.ptr bl 0,AV.ptr bs 0,AV.ptr bt 0]=[.ptr l 0,.ptr b1 0,.ptr b2 0]:=hpin;cases hpin;obtain⟨l',cc1',nn1',q1,q2⟩:=h3.obj 0 (.raw 0) rfl;have e1:l=l':=by rw[p1]at q1; cases q1; rfl
 subst e1;have hl:s' l=some (.raw (.loop (eH fid tm D))):=q2;have hFl:Fr l=none:=h3.out' 0 (.raw 0) _ l rfl p1 rfl;have hE:RelE π [(11,.agg (ak aI p)),(12,ca g),(4,.ptr 1 0),(5,.ptr 2 0)] (fun t=>if t=12 then .bool g else if t=11 then .agg cs else if t=4 then .ptr b1 0 else if t=5 then .ptr b2 0 else .undef):=
  bf (by simp only[RelV]; exact⟨cs,rfl,hcs⟩) (bf (aE g) (bf (by simp only[RelV]; exact⟨_,_,_,p2,rfl⟩) (bf (by simp only[RelV]; exact⟨_,_,_,p3,rfl⟩) (eD _))))
 refine⟨hl,fun t=>if t=12 then .bool g else if t=11 then .agg cs else if t=4 then .ptr b1 0 else if t=5 then .ptr b2 0 else .undef,fun o w vs hv t=>?_,?_⟩
 ·obtain⟨v,u,rfl⟩:∃ v u,vs=[v,u]:=by
   match vs,hv.1 with
   | [v,u],_=>exact⟨v,u,rfl⟩
  have hv0:=hv.2 0 (by simp);have hv1:=hv.2 1 (by simp);show RV o w (if t=12 then .bool g else if t=11 then .agg cs else if t=4 then .ptr b1 0 else if t=5 then .ptr b2 0 else .undef) (((tm.setIfInBounds 11 v).setIfInBounds 12 u).getD t Go.undef);by_cases h7:t=12
  ·subst h7;simp only[if_true];rw[Array.getD_eq_getD_getElem?,Array.getElem?_setIfInBounds_self_of_lt (by simp; omega)];exact hv1
  ·rw[if_neg h7,Array.getD_eq_getD_getElem?,Array.getElem?_setIfInBounds_ne (Ne.symm h7)];by_cases h6:t=11
   ·subst h6;simp only[if_true];rw[Array.getElem?_setIfInBounds_self_of_lt (by omega)];exact hv0
   ·rw[if_neg h6,Array.getElem?_setIfInBounds_ne (Ne.symm h6),← Array.getD_eq_getD_getElem?];by_cases h4:t=4
    ·subst h4; rw[if_pos rfl,htm]; exact .ptr _ _
    ·rw[if_neg h4];by_cases h5:t=5
     ·subst h5; rw[if_pos rfl,htm2]; exact .ptr _ _
     ·rw[if_neg h5]; exact .undef _
 ·refine gk ?_ (bR mo aa Ey (MZ p g 0 f b) hE h3);rintro x e1 s1 ⟨rfl,π1,g1,g2,g3⟩;have hl1:s1 l=some (.raw (.loop (eH fid tm D))):=by
   obtain⟨l',_,_,q1,q2⟩:=g3.obj 0 (.raw 0) rfl;have e1:l=l':=by rw[g1 _ _ p1]at q1; cases q1; rfl
   subst e1;exact q2
  refine⟨rfl,hl1,?_⟩;have hd:=bi g3 0;have hno:∀ b' o lc y,(DSt.del ⟨4,[(0,.raw 0),(1,.box (ak aI f)),(2,.box [ca b]),(3,.box (ak aI p))]⟩ 0).get b'=some o→π1 b'=some lc→lc.has y→y≠l:=fun b' o lc y hb hlc hy e=>by
   subst e;rw[DSt.get_del]at hb;split at hb
   ·cases hb
   ·rename_i hne;exact hne (g3.inj' b' 0 o (.raw 0) lc _ _ hb rfl hlc (g1 _ _ p1) hy rfl)
  have hput:=di hd hno (some (.raw (.loop (busy (eH fid tm D)))));obtain⟨e2D,hb2⟩:=M0 p g f b;refine gk ?_ (bR mo aa Ez hb2 g2 hput);rintro x e2 s2 ⟨rfl,π2,j1,j2,j3⟩;have hl2:s2 l=some (.raw (.loop (busy (eH fid tm D)))):=j3.frm l _ (aJ _ _ _);have fin:∀ (kk:Int) (gg:Bool) (ob:Obj),ob=wg fid tm D kk→∃ π3,E2 π π3 Fr shYb.out (gg,kk,(bif g&&b then f else p),true) (.bool gg) (upd s2 l (.raw ob)):=fun kk gg ob hob=>by
   have hback:=ka (Fr:=Fr) (m:=l) (b:=0) (x:=.raw ob) (y:=.raw (.loop (busy (eH fid tm D)))) (o:=.raw kk) j3
    (fun q z hq=>⟨by rw[bQ _ _ (fun e=>by rw[e,hFl]at hq; cases hq)]; exact hq,fun e=>by rw[e,hFl]at hq; cases hq⟩) (aJ _ _ _) (j1 _ _ (g1 _ _ p1)) ⟨l,_,_,j1 _ _ (g1 _ _ p1),by rw[upd_same,hob]; rfl⟩
   refine oz hback (aE gg) (Jc p (bif g&&b then f else p) kk gg) (fun i hi=>?_);have:i=0∨i=1∨i=2:=by
    simp[shYb]at hi
    exact hi
   rcases this with rfl | rfl | rfl
   ·exact⟨_,p1,j1 _ _ (g1 _ _ p1)⟩
   ·exact⟨_,p2,j1 _ _ (g1 _ _ p2)⟩
   ·exact⟨_,p3,j1 _ _ (g1 _ _ p3)⟩
  cases g with
  | true=>exact⟨hl2,fin 0 true _ rfl⟩
  | false=>exact⟨hl2,fin 1 false _ rfl⟩
def sh28:FSh:=⟨⟨[(.ptr 0 0),(.v (.int .i64))],[(0,(.box [(.v (.sl (.int .i64))),(.v (.int .i64)),(.slr 1),(.mp 2),(.slc 3)])),(1,(.rows 22 3 (.int .i64))),(2,(.pmap 4)),(3,(.row 3 (.int .i64))),(4,(.pool (.pair (.int .i64) (.pair (.int .i64) (.pair (.int .i64) (.pair (.int .i64) (.int .i64)))))))]⟩,[(.int .i64),(.sl (.int .i64)),(.int .i64),(.sl (.sl (.int .i64))),(.sl (.int .i64)),(.sl (.pair (.int .i64) (.pair (.int .i64) (.pair (.int .i64) (.pair (.int .i64) (.pair (.int .i64) (.int .i64)))))))],5,⟨⟨[(.tup [(.st (.pair (.int .i64) (.pair (.int .i64) (.pair (.int .i64) (.int .i64))))),(.v .bool)])],[(0,(.box [(.v (.sl (.int .i64))),(.v (.int .i64)),(.slr 1),(.mp 2),(.slc 3)])),(1,(.rows 22 3 (.int .i64))),(2,(.pmap 4)),(3,(.row 3 (.int .i64))),(4,(.pool (.pair (.int .i64) (.pair (.int .i64) (.pair (.int .i64) (.pair (.int .i64) (.int .i64)))))))]⟩,[(.pair (.int .i64) (.pair (.int .i64) (.pair (.int .i64) (.int .i64)))),.bool,(.sl (.int .i64)),(.int .i64),(.sl (.sl (.int .i64))),(.sl (.int .i64)),(.sl (.pair (.int .i64) (.pair (.int .i64) (.pair (.int .i64) (.pair (.int .i64) (.pair (.int .i64) (.int .i64)))))))],[0,1,2,3,4],5⟩,false⟩
noncomputable def uf:Int×(List Int)×Int×(List (List Int))×(List Int)×(List we)→Option (cL×Bool×(List Int)×Int×(List (List Int))×(List Int)×(List we)):=fun x=>
 (Eg CK (0,(0,0,0,0),false,x.1,x.2.1,x.2.2.1,x.2.2.2.1,x.2.2.2.2.1,x.2.2.2.2.2)).bind fun r=>some (r.2.1,r.2.2.1,r.2.2.2.2.1,r.2.2.2.2.2.1,r.2.2.2.2.2.2.1,r.2.2.2.2.2.2.2.1,r.2.2.2.2.2.2.2.2)
theorem EA (size:Int)(hold:Int)(rows vain:List Int)(seats:List (List Int))(pool:List we):fillSt (fun k=>k) sh28.ins (ofDens sh28.ts (size,rows,hold,seats,vain,pool))=some ([.ptr 0 0,cC .i64 size],[(0,.box [kL (.int .i64) rows,cC .i64 hold,.slr 1,.mp 2,.slc 3]),(1,.rows 22 3 (.int .i64) seats),(2,.pmap 4),(3,.row 3 (.int .i64) vain),(4,.pool qZ pool)]):=by kernel_rfl
theorem M1 (size:Int)(hold:Int)(rows vain:List Int)(seats:List (List Int))(pool:List we):bT [] (ann .n (cn Tryz.prog 21 [] MX)) (fun x e S=>some (x,e,S)) [(0,.ptr 0 0),(1,cC .i64 size)] ⟨5,[(0,.box [kL (.int .i64) rows,cC .i64 hold,.slr 1,.mp 2,.slc 3]),(1,.rows 22 3 (.int .i64) seats),(2,.pmap 4),(3,.row 3 (.int .i64) vain),(4,.pool qZ pool)]⟩ =
  some (.normal,[(0,.ptr 0 0),(1,cC .i64 size),(4,.ptr 5 0),(5,.ptr 6 0)],⟨7,[(0,.box [kL (.int .i64) rows,cC .i64 hold,.slr 1,.mp 2,.slc 3]),(1,.rows 22 3 (.int .i64) seats),(2,.pmap 4),(3,.row 3 (.int .i64) vain),(4,.pool qZ pool),(5,.box (ak aI (0,0,0,0))),(6,.box [ca false])]⟩):=by kernel_rfl
theorem M2 (size:Int)(hold:Int)(rows vain:List Int)(seats:List (List Int))(pool:List we):bT [⟨39,vR,Jy⟩] (ann .n (cn Tryz.prog 21 [] MY)) (fun x e S=>some (x,e,S)) [(0,.ptr 0 0),(1,cC .i64 size),(4,.ptr 5 0),(5,.ptr 6 0)] ⟨7,[(0,.box [kL (.int .i64) rows,cC .i64 hold,.slr 1,.mp 2,.slc 3]),(1,.rows 22 3 (.int .i64) seats),(2,.pmap 4),(3,.row 3 (.int .i64) vain),(4,.pool qZ pool),(5,.box (ak aI (0,0,0,0))),(6,.box [ca false])]⟩ =
  some (.normal,[(0,.ptr 0 0),(1,cC .i64 size),(4,.ptr 5 0),(5,.ptr 6 0),(8,.ptr 0 0),(9,cC .i64 size),(10,.fn 61 [.ptr 12 0,.ptr 13 0])],⟨14,[(5,.box (ak aI (0,0,0,0))),(6,.box [ca false]),(0,.box [kL (.int .i64) rows,cC .i64 hold,.slr 1,.mp 2,.slc 3]),(1,.rows 22 3 (.int .i64) seats),(2,.pmap 4),(3,.row 3 (.int .i64) vain),(4,.pool qZ pool),(12,.box [.ptr 0 0]),(13,.box [cC .i64 size])]⟩):=by kernel_rfl
theorem zn (size:Int)(hold:Int)(rows vain:List Int)(seats:List (List Int))(pool:List we)(F:Int×cL×Bool×Int×(List Int)×Int×(List (List Int))×(List Int)×(List we)→Option (Int×cL×Bool×Int×(List Int)×Int×(List (List Int))×(List Int)×(List we))):
  ge [] [⟨61,tR,F⟩] 61 [.fn 1048576 [.ptr 14 0,.ptr 5 0,.ptr 6 0],.ptr 12 0,.ptr 13 0] (DSt.new ⟨14,[(5,.box (ak aI (0,0,0,0))),(6,.box [ca false]),(0,.box [kL (.int .i64) rows,cC .i64 hold,.slr 1,.mp 2,.slc 3]),(1,.rows 22 3 (.int .i64) seats),(2,.pmap 4),(3,.row 3 (.int .i64) vain),(4,.pool qZ pool),(12,.box [.ptr 0 0]),(13,.box [cC .i64 size])]⟩ (.raw 0)) (fun d S=>some (d,S)) =
  (F (0,(0,0,0,0),false,size,rows,hold,seats,vain,pool)).bind fun r=>some (.tup [],⟨25,[(14,.raw r.1),(5,.box (ak aI r.2.1)),(6,.box [ca r.2.2.1]),(12,.box [.ptr 0 0]),(13,.box [cC .i64 r.2.2.2.1]),(0,.box [kL (.int .i64) r.2.2.2.2.1,cC .i64 r.2.2.2.2.2.1,.slr 1,.mp 2,.slc 3]),(1,.rows 22 3 (.int .i64) r.2.2.2.2.2.2.1),(2,.pmap 4),(3,.row 3 (.int .i64) r.2.2.2.2.2.2.2.1),(4,.pool qZ r.2.2.2.2.2.2.2.2)]⟩):=by kernel_rfl
theorem M3 (size:Int)(fst:cL)(fnd:Bool)(hold:Int)(rows vain:List Int)(seats:List (List Int))(pool:List we):bT [] (ann .n (cn Tryz.prog 21 [(8,{ch:=[0,1,0,1],rs:=[5] })] Ke)) (fun x e S=>some (x,e,S)) [(4,.ptr 5 0),(5,.ptr 6 0)] ⟨25,[(5,.box (ak aI fst)),(6,.box [ca fnd]),(12,.box [.ptr 0 0]),(13,.box [cC .i64 size]),(0,.box [kL (.int .i64) rows,cC .i64 hold,.slr 1,.mp 2,.slc 3]),(1,.rows 22 3 (.int .i64) seats),(2,.pmap 4),(3,.row 3 (.int .i64) vain),(4,.pool qZ pool)]⟩ =
  some (.normal,[(4,.ptr 5 0),(5,.ptr 6 0),(19,.agg (ak aI fst)),(20,ca fnd)],⟨25,[(5,.box (ak aI fst)),(6,.box [ca fnd]),(12,.box [.ptr 0 0]),(13,.box [cC .i64 size]),(0,.box [kL (.int .i64) rows,cC .i64 hold,.slr 1,.mp 2,.slc 3]),(1,.rows 22 3 (.int .i64) seats),(2,.pmap 4),(3,.row 3 (.int .i64) vain),(4,.pool qZ pool)]⟩):=by kernel_rfl
theorem EB (size:Int)(fst:cL)(fnd:Bool)(hold:Int)(rows vain:List Int)(seats:List (List Int))(pool:List we):vr [(4,.ptr 5 0),(5,.ptr 6 0)] ⟨25,[(5,.box (ak aI fst)),(6,.box [ca fnd]),(12,.box [.ptr 0 0]),(13,.box [cC .i64 size]),(0,.box [kL (.int .i64) rows,cC .i64 hold,.slr 1,.mp 2,.slc 3]),(1,.rows 22 3 (.int .i64) seats),(2,.pmap 4),(3,.row 3 (.int .i64) vain),(4,.pool qZ pool)]⟩ [.cell 4 true 4,.cell 5 false 1]=some (.tup [.agg (ak aI fst),ca fnd]):=by kernel_rfl
theorem Jd (size:Int)(fst:cL)(fnd:Bool)(hold:Int)(rows vain:List Int)(seats:List (List Int))(pool:List we):(match iI none (⟨25,[(5,.box (ak aI fst)),(6,.box [ca fnd]),(12,.box [.ptr 0 0]),(13,.box [cC .i64 size]),(0,.box [kL (.int .i64) rows,cC .i64 hold,.slr 1,.mp 2,.slc 3]),(1,.rows 22 3 (.int .i64) seats),(2,.pmap 4),(3,.row 3 (.int .i64) vain),(4,.pool qZ pool)]⟩:DSt) sh28.out.st sh28.out.q [.tup [.agg (ak aI fst),ca fnd]] (jN sh28.out.ids)with
  | some (l,_)=>ct sh28.out.ts l
  | none=>none)=some (fst,fnd,rows,hold,seats,vain,pool):=by kernel_rfl
theorem Je:(bC Tryz.prog 21 [] MX).isSome=true:=by kernel_rfl
theorem Jf:(bC Tryz.prog 21 [] MY).isSome=true:=by kernel_rfl
theorem Jg:(bC Tryz.prog 21 [(8,{ch:=[0,1,0,1],rs:=[5] })] Ke).isSome=true:=by kernel_rfl
theorem Jh:pc Tryz.prog Tryz.f28.results.toList=some [.cell 4 true 4,.cell 5 false 1]:=by kernel_rfl
theorem Ji:Tryz.f28.ntmps=21:=by kernel_rfl
theorem name28 : (Tryz.f28.name == "runtime.NumGoroutine") = false := by kernel_rfl
theorem wh {S:DSt}(h:S.m.all (fun p=>pL p.2)=true):∀ b o,S.get b=some o→pL o=true:=by
 obtain⟨nx,m⟩:=S;intro b o hb;simp only[DSt.get]at hb
 induction m with
 | nil=>cases hb
 | cons p m ih=>
  obtain⟨c,q⟩:=p;simp only[List.all_cons,Bool.and_eq_true]at h;simp only[D.fnd]at hb;cases hc:Nat.beq c b with
  | true=>rw[hc]at hb; cases hb; exact h.1
  | false=>rw[hc]at hb; exact ih h.2 hb
theorem OA:DC Tryz.prog 28 sh28 uf:=by
 refine⟨fun _=>⟨Tryz.f28,Tryz.func28,name28,by rw[body28]; rfl⟩,?_⟩;rintro⟨size,rows,hold,seats,vain,pool⟩ r hr π Fr av s' ⟨ds,os,h1,h2,h3⟩;have h1:=(EA size hold rows vain seats pool).symm.trans h1;cases h1;simp only[RelVs]at h2;obtain⟨a1,as1,rfl,ha1,a2,as2,rfl,ha2,rfl⟩:=h2;unfold uf at hr;cases hP:Eg CK (0,(0,0,0,0),false,size,rows,hold,seats,vain,pool)with
 | none=>rw[hP]at hr; cases hr
 | some y=>
 rw[hP]at hr;obtain⟨k,fst,fnd,size',rows',hold',seats',vain',pool'⟩:=y;have hr:some (fst,fnd,rows',hold',seats',vain',pool')=some r:=hr;cases hr;refine pI (fn:=Tryz.f28) Tryz.func28 name28 body28 (by decide) (rs:=[.cell 4 true 4,.cell 5 false 1]) (gT Jh) (by rw[Ji]; simp) ?_;rw[Ji];intro a w hf hdf;refine L.wp_seq (L.wp_mono (bR mo aa Je (M1 size hold rows vain seats pool) (bf ha1 (bf ha2 (eD _))) h3 none a w hf) ?_);rintro ex a1' w1 ⟨e1,s1,⟨rfl,π1,g1,g2,g3⟩,hf1,m1,d1⟩;refine L.wp_seq (L.wp_seq (L.wp_mono (bR mo (bG (f:=39) (sh:=vR) (F:=Jy) O0 (by kernel_rfl) aa) Jf (M2 size hold rows vain seats pool) g2 g3 none a1' w1 hf1) ?_));rintro ex a2' w2 ⟨e2,s2,⟨rfl,π2,j1,j2,j3⟩,hf2,m2,d2⟩;have he10:=j2 10 _ rfl;simp only[RelV,RelVs]at he10;obtain⟨_,he10,_,_,rfl,⟨bx,_,_,px,rfl⟩,_,_,rfl,⟨bz,_,_,pz,rfl⟩,rfl⟩:=he10;rw[ew rfl]at he10;have hgv:RV (own s2) w2 (.fn 61 [.ptr bx 0,.ptr bz 0]) (a2'.eval (.tmp 10)):=by have:=hf2.env 10; rw[he10]at this; exact this
 have he4:=j2 4 _ rfl;simp only[RelV]at he4;obtain⟨b1,_,_,pb1,he4⟩:=he4;have he5:=j2 5 _ rfl;simp only[RelV]at he5;obtain⟨b2,_,_,pb2,he5⟩:=he5;refine L.wp_block (nv hf2 (gf:=61) hgv (by decide) ?_);intro fid D l hDl hD hl;have hsz:a2'.tmps.size=21:=hf2.sz;have htm:a2'.tmps.getD 4 Go.undef = .pointer (some ⟨b1,0,none⟩):=by have:=hf2.env 4; rw[he4]at this; exact cE this
 have htm2:a2'.tmps.getD 5 Go.undef = .pointer (some ⟨b2,0,none⟩):=by have:=hf2.env 5; rw[he5]at this; exact cE this
 have hno:∀ q,s2 q=none→∀ b o lc y,DSt.get ⟨14,[(5,.box (ak aI (0,0,0,0))),(6,.box [ca false]),(0,.box [kL (.int .i64) rows,cC .i64 hold,.slr 1,.mp 2,.slc 3]),(1,.rows 22 3 (.int .i64) seats),(2,.pmap 4),(3,.row 3 (.int .i64) vain),(4,.pool qZ pool),(12,.box [.ptr 0 0]),(13,.box [cC .i64 size])]⟩ b=some o→π2 b=some lc→lc.has y→y≠q:=fun q hq b o lc y hb hlc hy e=>by
  subst e; exact(j3.obj b o hb).some'' hlc hy hq
 have hFr:∀ q,s2 q=none→Fr q=none:=fun q hq=>by
  cases hc:Fr q with
  | none=>rfl
  | some z=>have:=j3.frm q z hc; rw[hq]at this; cases this
 have hput:=di j3 (hno D hD) (some (.raw kQ));have hn2:=j3.nx 14 (Nat.le_refl _);have hback:∀ {π5:Pi} {S5:DSt} {s5:Store},@RelS (yp46 fid a2'.tmps D l b1 b2) π5 (cx Fr D (some (.raw kQ))) S5 s5→(∀ b o,S5.get b=some o→pL o=true)→RelS π5 Fr S5 (upd s5 D (.raw (.deferred none))):=fun {π5 S5 s5} h hn5=>by
  have h:=oy _ YP.dflt hn5 h;refine jr (rZ h fun b z hz=>by rw[bQ _ _ (fun e=>by rw[e,hFr D hD]at hz; cases hz)]; exact hz) (hFr D hD) fun b o lc hb hlc hh=>?_;have:=h.out' b o lc D hb hlc hh;rw[aJ]at this; cases this
 have hput1:=oy YP.dflt (yp46 fid a2'.tmps D l b1 b2) (wh (by rfl)) hput;have he':∀ π5:Pi,Ext π2 π5→@RelE (yp46 fid a2'.tmps D l b1 b2) π5 [(4,.ptr 5 0),(5,.ptr 6 0)] e2:=fun π5 hx=>
  @bf (yp46 fid a2'.tmps D l b1 b2) _ _ _ _ _ (by simp only[RelV]; exact⟨_,_,_,hx _ _ pb1,he4⟩) (@bf (yp46 fid a2'.tmps D l b1 b2) _ _ _ _ _ (by simp only[RelV]; exact⟨_,_,_,hx _ _ pb2,he5⟩) (@eD (yp46 fid a2'.tmps D l b1 b2) _ _))
 have hloc:∀ k,sh28.out.ids.any (Nat.beq k)=true→∃ lc,π k=some lc:=fun k hk=>by
  have:k=0∨k=1∨k=2∨k=3∨k=4:=by simpa [sh28]using hk
  rcases this with rfl | rfl | rfl | rfl | rfl <;> exact(h3.obj _ _ rfl).loc
 have hend:∀ {π5:Pi} {s5:Store} {e5:Env},Ext π2 π5→@RelS (yp46 fid a2'.tmps D l b1 b2) π5 (cx Fr D (some (.raw kQ))) ⟨25,[(5,.box (ak aI fst)),(6,.box [ca fnd]),(12,.box [.ptr 0 0]),(13,.box [cC .i64 size']),(0,.box [kL (.int .i64) rows',cC .i64 hold',.slr 1,.mp 2,.slc 3]),(1,.rows 22 3 (.int .i64) seats'),(2,.pmap 4),(3,.row 3 (.int .i64) vain'),(4,.pool qZ pool')]⟩ s5→(∃ c n,e5 4 = .ptr b1 0∧π5 5=some (.real b1 c n))→(∃ c n,e5 5 = .ptr b2 0∧π5 6=some (.real b2 c n)) →
   ∃ rr,gm e5 (upd s5 D (.raw (.deferred none))) [.cell 4 true 4,.cell 5 false 1]=some rr∧∃ π6,E2 π π6 Fr sh28.out (fst,fnd,rows',hold',seats',vain',pool') rr (upd s5 D (.raw (.deferred none))):=fun {π5 s5 e5} hx h5 h4 h6=>by
  obtain⟨_,_,h4,h4'⟩:=h4;obtain⟨_,_,h6,h6'⟩:=h6;have hb:=hback h5 (wh (by rfl));obtain⟨rr,q1,q2⟩:=pG (e':=e5) (bf (by simp only[RelV]; exact⟨_,_,_,h4',h4⟩) (bf (by simp only[RelV]; exact⟨_,_,_,h6',h6⟩) (eD _))) hb (EB size' fst fnd hold' rows' vain' seats' pool');exact⟨rr,q1,oz hb q2 (Jd size' fst fnd hold' rows' vain' seats' pool') (fun k hk=>let ⟨lc,hlc⟩:=hloc k hk; ⟨lc,hlc,hx _ _ (j1 _ _ (g1 _ _ hlc))⟩)⟩
 clear hput j3 j2 h3 g2 g3 ha1 ha2
 letI y1:YP:=yp46 fid a2'.tmps D l b1 b2
 have hnew:RelS (addP π2 14 (.real l 0 0)) (cx Fr D (some (.raw kQ))) (DSt.new ⟨14,[(5,.box (ak aI (0,0,0,0))),(6,.box [ca false]),(0,.box [kL (.int .i64) rows,cC .i64 hold,.slr 1,.mp 2,.slc 3]),(1,.rows 22 3 (.int .i64) seats),(2,.pmap 4),(3,.row 3 (.int .i64) vain),(4,.pool qZ pool),(12,.box [.ptr 0 0]),(13,.box [cC .i64 size])]⟩ (.raw 0)) (upd (upd s2 D (.raw kQ)) l (.raw (.loop (eH fid a2'.tmps D)))):=by
  refine bY (s1:=upd (upd s2 D (.raw kQ)) l (.raw (.loop (eH fid a2'.tmps D)))) hput1 (.real l 0 0) (fun b o lc y hb hlc hy=>⟨ay _ _ (hno l hl b o lc y hb hlc hy),fun h=>hno l hl b o lc y hb hlc hy h⟩) (fun q z hq=>?_) (fun q h=>?_) ⟨l,0,0,addP_same _ _ _,upd_same _ _ _⟩
  ·have:q≠l:=fun e=>by
    rw[e,bQ _ _ (Ne.symm hDl),hFr l hl]at hq; cases hq
   rw[ay _ _ this];exact hput1.frm q z hq
  ·cases h;rw[bQ _ _ (Ne.symm hDl)]; exact hFr l hl
 have hx2:Ext π2 (addP π2 14 (.real l 0 0)):=aW hn2 _;have hT:am Tryz.prog [⟨61,tR,Eg CK⟩]:=bG (f:=61) (sh:=tR) (F:=Eg CK) (OV CK (S7 fid a2'.tmps D l b1 b2 hsz htm htm2)) (by kernel_rfl) aa;have hcd:=zn size hold rows vain seats pool (Eg CK);rw[hP]at hcd;have hcall:=(fU (R:=fun _=>False) (RD:=[]) hnew ⟨fun b hb=>(by cases hb),fun b b' c n hb=>(by cases hb),fun b hb=>hb.elim⟩
  («as»:=[.yld l [.ptr l 0,.ptr b1 0,.ptr b2 0] [.ptr l 0,.ptr b1 0,.ptr b2 0],.ptr bx 0,.ptr bz 0])
  (RelVs_cons (by
   simp only[RelV];exact⟨_,(show AV.yld l [.ptr l 0,.ptr b1 0,.ptr b2 0] [.ptr l 0,.ptr b1 0,.ptr b2 0]=mw 1048576 [.ptr l 0,.ptr b1 0,.ptr b2 0]from fnA_yb.symm),RelVs_cons (by simp only[RelV]; exact⟨_,_,_,addP_same _ _ _,rfl⟩) (RelVs_cons (by simp only[RelV]; exact⟨_,_,_,hx2 _ _ pb1,rfl⟩) (aA (by simp only[RelV]; exact⟨_,_,_,hx2 _ _ pb2,rfl⟩)))⟩)
   (RelVs_cons (by simp only[RelV]; exact⟨_,_,_,hx2 _ _ px,rfl⟩) (aA (by simp only[RelV]; exact⟨_,_,_,hx2 _ _ pz,rfl⟩)))) hT hcd
  (K:=fun v s4=>∃ π4,Ext (addP π2 14 (.real l 0 0)) π4∧RelS π4 (cx Fr D (some (.raw kQ))) ⟨25,[(14,.raw k),(5,.box (ak aI fst)),(6,.box [ca fnd]),(12,.box [.ptr 0 0]),(13,.box [cC .i64 size']),(0,.box [kL (.int .i64) rows',cC .i64 hold',.slr 1,.mp 2,.slc 3]),(1,.rows 22 3 (.int .i64) seats'),(2,.pmap 4),(3,.row 3 (.int .i64) vain'),(4,.pool qZ pool')]⟩ s4) (fun d S1 v π1 s1 k1 k2 k3 k4 k5=>by
   cases k1; exact⟨π1,k3,k4⟩)).ac
 refine⟨[.ptr l 0,.ptr b1 0,.ptr b2 0],_,hcall,?_⟩;rintro v s4 ⟨-,π4,k1,k2⟩;have hl4:s4 l=some (.raw (wg fid a2'.tmps D k)):=by
  obtain⟨l',_,_,q1,q2⟩:=k2.obj 14 (.raw k) rfl;rw[k1 _ _ (addP_same _ _ _)]at q1; cases q1;exact q2
 have hl5:cx Fr D (some (.raw kQ)) l=none:=by rw[bQ _ _ (Ne.symm hDl)]; exact hFr l hl
 have hS5:=fun x=>jr (q:=l) (x:=x) (bi k2 14) hl5 (fun b o lc hb hlc hh=>by
  rw[DSt.get_del]at hb;split at hb
  ·cases hb
  ·rename_i hne;exact hne (k2.inj' b 14 o (.raw k) lc _ l hb rfl hlc (k1 _ _ (addP_same _ _ _)) hh rfl))
 have hx4:Ext π2 π4:=hx2.trans k1;by_cases hk:k=0
 ·refine⟨eH fid a2'.tmps D,by rw[hl4]; simp only[wg,if_pos hk],by simp[eH,gH],fun w3 hst hm=>?_⟩;show L.cwp none Tryz.prog (.seq Ke .ret) _ _ w3;have hf3:Conf 21 (upd s4 l (.raw (.loop (gone (eH fid a2'.tmps D))))) e2 {a2' with defers:=L.mark D::a2'.defers } w3:=⟨hf2.sz,hst,fun t=>(hf2.env t).mv hm⟩
  refine L.wp_seq (L.wp_mono (bR mo aa Jg (M3 size' fst fnd hold' rows' vain' seats' pool') (he' π4 hx4) (hS5 _) none _ w3 hf3) ?_);rintro ex a5 w5 ⟨e5,s5,⟨rfl,π5,n1,n2,n3⟩,hf5,m5,d5⟩;have hv4:=n2 4 _ rfl;have hv5:=n2 5 _ rfl;simp only[RelV]at hv4 hv5;obtain⟨bb1,_,_,i1,i2⟩:=hv4;obtain⟨bb2,_,_,i3,i4⟩:=hv5;have e41:bb1=b1:=by rw[n1 _ _ (hx4 _ _ pb1)]at i1; cases i1; rfl
  have e51:bb2=b2:=by rw[n1 _ _ (hx4 _ _ pb2)]at i3; cases i3; rfl
  subst e41 e51;obtain⟨rr,o1,o2⟩:=hend (hx4.trans n1) n3 ⟨_,_,i2,i1⟩ ⟨_,_,i4,i3⟩;refine L.wp_ret ⟨e5,s5,D,rr,o1,hf5,m1.trans (m2.trans (hm.trans m5)),?_,n3.frm D _ (aJ _ _ _),o2⟩;rw[d5];show L.mark D::a2'.defers=_;rw[d2,d1,hdf]
 ·refine⟨gI (busy (eH fid a2'.tmps D)) (some .ret),by rw[hl4]; simp only[wg,if_neg hk],by simp[gI],fun w3 hst hm=>?_⟩;show L.cwp none Tryz.prog .ret _ _ w3;have h5:=hS5 (.raw (.loop (gone (gI (busy (eH fid a2'.tmps D)) (some .ret)))));obtain⟨rr,o1,o2⟩:=hend (e5:=e2) hx4 h5 ⟨_,_,he4,hx4 _ _ pb1⟩ ⟨_,_,he5,hx4 _ _ pb2⟩;refine L.wp_ret ⟨e2,_,D,rr,o1,⟨hf2.sz,hst,fun t=>(hf2.env t).mv hm⟩,m1.trans (m2.trans hm),?_,h5.frm D _ (aJ _ _ _),o2⟩;show L.mark D::a2'.defers=_;rw[d2,d1,hdf]
end Go.Proofs.YtdkaijofmigmbaaGreat.D
