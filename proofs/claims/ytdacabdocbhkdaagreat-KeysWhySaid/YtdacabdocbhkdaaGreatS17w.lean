/- Cut down from a longer text. -/
import Derived.Test.YtdacabdocbhkdaaGreatS16w
set_option linter.unusedVariables false
set_option linter.unusedSimpArgs false
set_option linter.unusedSectionVars false
namespace Go.Proofs.YtdacabdocbhkdaaGreat.D
open Go Go.Proofs Go.Proofs.YtdacabdocbhkdaaGreat.L
structure FarK (l:LT) (c:CT) (s:VT) (x f:Int):Prop where
  le:x≤f
  ex:f=x∨∃ k∈l.2.2.2.1,(opB s.2.1 k&&ownB l c k)=true∧k.2.2.2.1≤x∧k.2.2.2.2+1=f
  all:∀ k∈l.2.2.2.1,(opB s.2.1 k&&ownB l c k)=true→k.2.2.2.1≤x→k.2.2.2.2+1≤f
theorem FarK.uniq {l:LT}{c:CT}{s:VT}{x f g:Int}(h:FarK l c s x f)(h':FarK l c s x g):f=g:=by
  have a:f≤g:=by
    rcases h.ex with e | ⟨k,k1,k2,k3,k4⟩
    · have:=h'.le; omega
    · have:=h'.all k k1 k2 k3; omega
  have b:g≤f:=by
    rcases h'.ex with e | ⟨k,k1,k2,k3,k4⟩
    · have:=h.le; omega
    · have:=h.all k k1 k2 k3; omega
  omega
inductive Steps (l:LT) (c:CT) (s:VT) (e:Int):Int→Nat→Prop where
  | done {x:Int} (h:c.2.2.2.2.2.1=false∨e≤x):Steps l c s e x 0
  | step {x f:Int} {k:Nat} (hl:c.2.2.2.2.2.1=true) (hx:x < e) (hf:FarK l c s x f) (h:Steps l c s e f k):Steps l c s e x (k+1)
theorem Steps.uniq {l:LT}{c:CT}{s:VT}{e:Int}:∀ {x:Int} {k j:Nat},Steps l c s e x k→Steps l c s e x j→k=j
  | _,_,_,.done h,.done _=>rfl
  | _,_,_,.done h,.step hl hx _ _=>by
    rcases h with h | h
    · rw[hl]at h; cases h
    · omega
  | _,_,_,.step hl hx _ _,.done h=>by
    rcases h with h | h
    · rw[hl]at h; cases h
    · omega
  | _,_,_,.step _ _ hf h,.step _ _ hf' h'=>by
    have:=hf.uniq hf'
    subst this
    rw[Steps.uniq h h']
theorem far_gt {l:LT}{c:CT}{s:VT}{x f:Int}(hl:c.2.2.2.2.2.1=true)(ho:openM l c s x)(h:FarK l c s x f):x < f:=by
  rcases ho.2.2 with q | ⟨k,k1,k2,k3,k4⟩
  · rw[hl]at q; cases q
  · have:=h.all k k1 k2 k3; omega
theorem P16_eq {l:LT}(hz:szL l)(x y n:Int):(errV l x y n≠0→P16 (l,x,y,n)=some (0,errV l x y n))∧∀ c s,AskOk l x y n c s→(¬ canM l c s n→P16 (l,x,y,n)=some (0,3))∧(canM l c s n→∃ k:Nat,P16 (l,x,y,n)=some ((k:Int),0)∧Steps l c s (n+c.2.2.2.2.1) n k):=by
  constructor
  · intro h
    simp only[P16,p16,q16,ask_no hz h,bind_some',decide_eq_false h,Bool.not_false,cond_true]
  · intro c s h
    obtain⟨sums,ks,sp,p1,p2⟩:=ask_ok hz h
    have hput:=put_of hz h p2
    have hn1:=h.n.1
    have hn2:=h.n.2
    have hm1:=hput.mn.1
    have hm2:=hput.mn.2
    obtain⟨b,b1,b2⟩:=P44_eq hput (n:=n) (by omega)
    have f1:fits .i64 (n+c.2.2.2.2.1)=true:=fits_of (by omega) (by omega)
    constructor
    · intro hc
      have:b=false:=by cases b; rfl; exact absurd (b2.1 rfl) hc
      simp only[P16,p16,q16,p1,bind_some',decide_true,Bool.not_true,cond_false,b1,this,Bool.not_false,cond_true]
    · intro hc
      have hb:b=true:=b2.2 hc
      obtain⟨ts,t1,t2⟩:=P45v1_eq (mkP c s sums ks sp) hput.ds p2.ksok
      have t2':TmOk s.2.1 ks ts:=t2
      have htl:ts.length≤20:=by have:=t2'.len; have:=p2.ksok.len; omega
      have hfar:∀ (w at_:Int),0≤at_→at_≤20000→∃ f,L16_1 (n,some (mkP c s sums ks sp),w,at_,at_,(ts.length:Int),0,ts)=some (n,some (mkP c s sums ks sp),w,f,ts)∧FarK l c s at_ f∧f≤max at_ 10000:=by
        intro w x hx1 hx2
        have key:∃ yy,L16_1 (n,some (mkP c s sums ks sp),w,x,x,(ts.length:Int),0,ts)=some yy∧∃ f,yy=(n,some (mkP c s sums ks sp),w,f,ts)∧FarK l c s x f∧f≤max x 10000:=by
          refine while_inv ts.length (fun k st=>∃ f,st=(n,some (mkP c s sums ks sp),w,x,f,(ts.length:Int),(k:Int),ts)∧x≤f∧f≤max x 10000∧(f=x∨∃ j,j < k∧(gt ts j).1≤x∧(gt ts j).2+1=f)∧∀ j,j < k→(gt ts j).1≤x→(gt ts j).2+1≤f) _ ⟨x,rfl,by omega,by omega,.inl rfl,fun j hj=>by omega⟩ (by omega) ?_ ?_
          · rintro k st hk ⟨f,rfl,q1,q2,q3,q4⟩
            obtain⟨kk,k1,k2,k3⟩:=(t2'.mem _).1 (gt_mem hk)
            have hb:=p2.ksok.tm kk k1
            rw[← k3]at hb
            have ff:fits .i64 ((gt ts k).2+1)=true:=fits_of (by omega) (by omega)
            by_cases hle:(gt ts k).1≤x
            · simp(disch:=omega) only[p16_1,q16_1,ltN,dT,cond_true,inR_nat,chk_t,ix_gt,dT hle,ff,fitK,a1]
              refine⟨_,rfl,max f ((gt ts k).2+1),rfl,by omega,by omega,?_,fun j hj q=>?_⟩
              · by_cases e:f≤(gt ts k).2+1
                · exact .inr ⟨k,by omega,hle,by omega⟩
                · rcases q3 with q3 | ⟨j,j1,j2,j3⟩
                  · exact .inl (by omega)
                  · exact .inr ⟨j,by omega,j2,by omega⟩
              · by_cases e:j=k
                · subst e; omega
                · have:=q4 j (by omega) q; omega
            · simp(disch:=omega) only[p16_1,q16_1,ltN,dT,cond_true,inR_nat,chk_t,ix_gt,dF hle,cond_false,fitK,a1]
              refine⟨_,rfl,f,rfl,q1,q2,?_,fun j hj q=>?_⟩
              · rcases q3 with q3 | ⟨j,j1,j2,j3⟩
                · exact .inl q3
                · exact .inr ⟨j,by omega,j2,j3⟩
              · by_cases e:j=k
                · subst e; exact absurd q hle
                · exact q4 j (by omega) q
          · rintro st ⟨f,rfl,q1,q2,q3,q4⟩
            simp(disch:=omega) only[p16_1,q16_1,ltN,dF,cond_false]
            refine⟨_,rfl,f,rfl,⟨q1,?_,fun k k1 k2 k3=>?_⟩,q2⟩
            · rcases q3 with q3 | ⟨j,j1,j2,j3⟩
              · exact .inl q3
              · obtain⟨kk,k1,k2,k3⟩:=(t2'.mem _).1 (gt_mem j1)
                obtain⟨g1,g2⟩:=(p2.mem kk).1 k1
                exact .inr ⟨kk,g1,by rw[k2,g2]; rfl,by rw[← k3]; exact j2,by rw[← k3]; exact j3⟩
            · rw[Bool.and_eq_true]at k2
              obtain⟨j,hj,e⟩:=mem_gt ((t2'.mem k.2.2.2).2 ⟨k,(p2.mem k).2 ⟨k1,k2.2⟩,k2.1,rfl⟩)
              have:=q4 j hj (by rw[e]; exact k3)
              rw[e]at this; exact this
        obtain⟨yy,y1,f,rfl,y2,y3⟩:=key
        exact⟨f,y1,y2,y3⟩
      have key:∃ r,L16_0 (n,some (mkP c s sums ks sp),0,n)=some r∧∃ k:Nat,r=(k:Int)∧Steps l c s (n+c.2.2.2.2.1) n k:=by
        refine while_relE (fun st t=>∃ (w:Nat) (x:Int),st=(n,some (mkP c s sums ks sp),(w:Int),x)∧t=(n+c.2.2.2.2.1-x).toNat∧n≤x∧x≤10400∧w+t≤1000∧∀ j,Steps l c s (n+c.2.2.2.2.1) x j→Steps l c s (n+c.2.2.2.2.1) n (w+j)) _
          ⟨0,n,rfl,rfl,by omega,by omega,by omega,fun j hj=>by rw[Nat.zero_add]; exact hj⟩ (by omega) ?_
        rintro st t ⟨w,x,rfl,rfl,q1,q2,q3,q4⟩
        simp only[p16_0,q16_0]
        dsimp only[dof,Option.getD_some,Option.isSome_some,mk_lk,mk_mn]
        simp only[chk_t,f1]
        cases hlk:c.2.2.2.2.2.1
        · left
          exact⟨_,rfl,w,rfl,by have:=q4 0 (.done (.inl hlk)); rwa [Nat.add_zero]at this⟩
        · by_cases hlt:x < n+c.2.2.2.2.1
          · right
            obtain⟨f,g1,g2,g3⟩:=hfar (w:Int) x (by omega) (by omega)
            have hgt:=far_gt hlk (hc.2 x q1 hlt) g2
            refine⟨_,(n+c.2.2.2.2.1-f).toNat,(congrArg (fun b=>cond b _ _) (dT hlt)).trans ?_,⟨w+1,f,rfl,rfl,by omega,by omega,by omega,fun j hj=>by rw[show w+1+j=w+(j+1)by omega]; exact q4 _ (.step hlk hlt g2 hj)⟩,by omega⟩
            simp(disch:=omega) only[cond_true,t1,bind_some',g1,fitK,a1,chk_t]
          · left
            exact⟨_,congrArg (fun b=>cond b _ _) (dF hlt),w,rfl,by have:=q4 0 (.done (.inr (by omega))); rwa [Nat.add_zero]at this⟩
      obtain⟨r,r1,k,rfl,r2⟩:=key
      exact⟨k,by simp only[P16,p16,q16,p1,bind_some',decide_true,Bool.not_true,cond_false,b1,hb,r1],r2⟩
theorem P36_eq {l:LT}(hz:szL l)(x y n:Int):(errV l x y n≠0→P36 (l,x,y,n)=some (0,errV l x y n))∧∀ c s,AskOk l x y n c s→(¬ canM l c s n→P36 (l,x,y,n)=some (0,3))∧(canM l c s n→∃ k:Nat,P36 (l,x,y,n)=some ((k:Int),0)∧Steps l c s (n+c.2.2.2.2.1) n k):=by
  have zc:=hz.c
  have zs:=hz.s
  have zk:=hz.k
  have zr:=hz.r
  constructor
  · intro h
    simp only[P36,p36,q36,P53_eq hz,bind_some',decide_eq_false h,Bool.not_false,cond_true]
  · intro c s h
    have hok:=lib_ok h.lib
    have hmn:=(comp_ok (hok.comp c h.cm).1).1
    have zd:s.2.1.length≤1000:=by have:=(serv_ok (hok.serv s h.sm).1).2.1; omega
    have hn1:=h.n.1
    have hn2:=h.n.2
    have hm1:=hmn.1
    have hm2:=hmn.2
    obtain⟨rw_,r1,r2⟩:=P58_eq hz h
    have hcan:=r2.can hm1
    have f1:fits .i64 (n+c.2.2.2.2.1)=true:=fits_of (by omega) (by omega)
    constructor
    · intro hc
      have:decide (rw_.1=0)=false:=decide_eq_false fun q=>hc (hcan.1 q)
      simp(disch:=omega) only[P36,p36,q36,P53_eq hz,bind_some',h.t,decide_true,Bool.not_true,cond_false,P19_eq,P20_eq,h.c,h.s,compV,servV,r1,this,Bool.not_false,cond_true]
    · intro hc
      have hd:decide (rw_.1=0)=true:=decide_eq_true (hcan.2 hc)
      have hfar:∀ (w x:Int),0≤x→x≤20000→∃ f,L36_1 (n,w,x,x,0,l,c,s)=some (n,w,f,l,c,s)∧FarK l c s x f∧f≤max x 10000:=by
        intro w x hx1 hx2
        have key:∃ yy,L36_1 (n,w,x,x,0,l,c,s)=some yy∧∃ f,yy=(n,w,f,l,c,s)∧FarK l c s x f∧f≤max x 10000:=by
          refine while_inv l.2.2.2.1.length (fun k st=>∃ f,st=(n,w,x,f,(k:Int),l,c,s)∧x≤f∧f≤max x 10000∧(f=x∨∃ j,j < k∧(opB s.2.1 (gt l.2.2.2.1 j)&&ownB l c (gt l.2.2.2.1 j))=true∧(gt l.2.2.2.1 j).2.2.2.1≤x∧(gt l.2.2.2.1 j).2.2.2.2+1=f)∧∀ j,j < k→(opB s.2.1 (gt l.2.2.2.1 j)&&ownB l c (gt l.2.2.2.1 j))=true→(gt l.2.2.2.1 j).2.2.2.1≤x→(gt l.2.2.2.1 j).2.2.2.2+1≤f) _ ⟨x,rfl,by omega,by omega,.inl rfl,fun j hj=>by omega⟩ (by omega) ?_ ?_
          · rintro k st hk ⟨f,rfl,q1,q2,q3,q4⟩
            have hb:=(key_tm (hok.key _ (gt_mem hk))).1
            have hkd:=hz.kd _ (gt_mem hk)
            have ff:fits .i64 ((gt l.2.2.2.1 k).2.2.2.2+1)=true:=fits_of (by omega) (by omega)
            have h59:=P59_eq (l:=l) (k:=gt l.2.2.2.1 k) (c:=c) (s:=s) (by omega) zd (by omega)
            have skip:((opB s.2.1 (gt l.2.2.2.1 k)&&ownB l c (gt l.2.2.2.1 k))=true→¬ (gt l.2.2.2.1 k).2.2.2.1≤x)→((f=x∨∃ j,j < k+1∧(opB s.2.1 (gt l.2.2.2.1 j)&&ownB l c (gt l.2.2.2.1 j))=true∧(gt l.2.2.2.1 j).2.2.2.1≤x∧(gt l.2.2.2.1 j).2.2.2.2+1=f)∧∀ j,j < k+1→(opB s.2.1 (gt l.2.2.2.1 j)&&ownB l c (gt l.2.2.2.1 j))=true→(gt l.2.2.2.1 j).2.2.2.1≤x→(gt l.2.2.2.1 j).2.2.2.2+1≤f):=fun hs=>by
              refine⟨?_,fun j hj q q'=>?_⟩
              · rcases q3 with q3 | ⟨j,j1,j2⟩
                · exact .inl q3
                · exact .inr ⟨j,by omega,j2⟩
              · by_cases e:j=k
                · subst e; exact absurd q' (hs q)
                · exact q4 j (by omega) q q'
            cases ho:(opB s.2.1 (gt l.2.2.2.1 k)&&ownB l c (gt l.2.2.2.1 k))
            · obtain⟨s1,s2⟩:=skip fun q=>by rw[ho]at q; cases q
              simp(disch:=omega) only[p36_1,q36_1,ltN,dT,cond_true,inR_nat,chk_t,ix_gt,h59,ho,bind_some',cond_false,fitK,a1]
              exact⟨_,rfl,f,rfl,q1,q2,s1,s2⟩
            · by_cases hle:(gt l.2.2.2.1 k).2.2.2.1≤x
              · simp(disch:=omega) only[p36_1,q36_1,ltN,dT,cond_true,inR_nat,chk_t,ix_gt,h59,ho,bind_some',dT hle,ff,fitK,a1]
                refine⟨_,rfl,max f ((gt l.2.2.2.1 k).2.2.2.2+1),rfl,by clear q3; omega,by clear q3; omega,?_,fun j hj q q'=>?_⟩
                · by_cases e:f≤(gt l.2.2.2.1 k).2.2.2.2+1
                  · have e2:(gt l.2.2.2.1 k).2.2.2.2+1=max f ((gt l.2.2.2.1 k).2.2.2.2+1):=by clear q3; omega
                    exact .inr ⟨k,by omega,ho,hle,e2⟩
                  · have e2:max f ((gt l.2.2.2.1 k).2.2.2.2+1)=f:=by clear q3; omega
                    rw[e2]
                    rcases q3 with q3 | ⟨j,j1,j2,j3,j4⟩
                    · exact .inl q3
                    · exact .inr ⟨j,by omega,j2,j3,j4⟩
                · by_cases e:j=k
                  · subst e; omega
                  · have:=q4 j (by omega) q q'; omega
              · obtain⟨s1,s2⟩:=skip fun _=>hle
                simp(disch:=omega) only[p36_1,q36_1,ltN,dT,cond_true,inR_nat,chk_t,ix_gt,h59,ho,bind_some',dF hle,cond_false,fitK,a1]
                exact⟨_,rfl,f,rfl,q1,q2,s1,s2⟩
          · rintro st ⟨f,rfl,q1,q2,q3,q4⟩
            simp(disch:=omega) only[p36_1,q36_1,ltN,dF,cond_false]
            refine⟨_,rfl,f,rfl,⟨q1,?_,fun k k1 k2 k3=>?_⟩,q2⟩
            · rcases q3 with q3 | ⟨j,j1,j2,j3,j4⟩
              · exact .inl q3
              · exact .inr ⟨_,gt_mem j1,j2,j3,j4⟩
            · obtain⟨j,hj,rfl⟩:=mem_gt k1
              exact q4 j hj k2 k3
        obtain⟨yy,y1,f,rfl,y2,y3⟩:=key
        exact⟨f,y1,y2,y3⟩
      have key:∃ r,L36_0 (n,0,n,l,c,s)=some r∧∃ k:Nat,r=((k:Int),l,c,s)∧Steps l c s (n+c.2.2.2.2.1) n k:=by
        refine while_relE (fun st t=>∃ (w:Nat) (x:Int),st=(n,(w:Int),x,l,c,s)∧t=(n+c.2.2.2.2.1-x).toNat∧n≤x∧x≤10400∧w+t≤1000∧∀ j,Steps l c s (n+c.2.2.2.2.1) x j→Steps l c s (n+c.2.2.2.2.1) n (w+j)) _
          ⟨0,n,rfl,rfl,by omega,by omega,by omega,fun j hj=>by rw[Nat.zero_add]; exact hj⟩ (by omega) ?_
        rintro st t ⟨w,x,rfl,rfl,q1,q2,q3,q4⟩
        simp only[p36_0,q36_0,f1,chk_t]
        by_cases hlt:x < n+c.2.2.2.2.1
        · cases hlk:c.2.2.2.2.2.1
          · left
            simp only[dT hlt,cond_true,cond_false]
            exact⟨_,rfl,w,rfl,by have:=q4 0 (.done (.inl hlk)); rwa [Nat.add_zero]at this⟩
          · right
            obtain⟨f,g1,g2,g3⟩:=hfar (w:Int) x (by omega) (by omega)
            have hgt:=far_gt hlk (hc.2 x q1 hlt) g2
            simp(disch:=omega) only[dT hlt,cond_true,g1,bind_some',fitK,a1,chk_t]
            exact⟨_,(n+c.2.2.2.2.1-f).toNat,rfl,⟨w+1,f,rfl,rfl,by omega,by omega,by omega,fun j hj=>by rw[show w+1+j=w+(j+1)by omega]; exact q4 _ (.step hlk hlt g2 hj)⟩,by omega⟩
        · left
          simp only[dF hlt,cond_false]
          exact⟨_,rfl,w,rfl,by have:=q4 0 (.done (.inr (by omega))); rwa [Nat.add_zero]at this⟩
      obtain⟨r,r3,k,rfl,r4⟩:=key
      refine⟨k,?_,r4⟩
      simp(disch:=omega) only[P36,p36,q36,P53_eq hz,bind_some',h.t,decide_true,Bool.not_true,cond_false,P19_eq,P20_eq,h.c,h.s,compV,servV,r1,hd,r3]
theorem Pure.KeysWhy' (l:LT)(x:Int×Int×Int):P10 (l,x)=some true:=by
  obtain⟨a,b,n⟩:=x
  simp only[P10,p10,q10,P27_eq,bind_some',works]
  cases hf:farV l
  · have hz:=far_sz hf
    have fin:∀ (r4:Int×Int×Int) (r6 r8:Int×Int),P17 (l,a,b,n)=some r4→P34 (l,a,b,n)=some r4→P33 (l,a,b,n)=some r6→P35 (l,a,b,n)=some r6→P16 (l,a,b,n)=some r8→P36 (l,a,b,n)=some r8 →
        (cond false (some true) ((P25 l).bind fun r3=>(P17 (r3,a,b,n)).bind fun r4=>(P34 (l,a,b,n)).bind fun r5=>(P33 (r3,a,b,n)).bind fun r6=>(P35 (l,a,b,n)).bind fun r7=>(P16 (r3,a,b,n)).bind fun r8=>(P36 (l,a,b,n)).bind fun r9=>cond (decide (r4.1=r5.1)) (cond (decide (r4.2.1=r5.2.1)) (cond (decide (r4.2.2=r5.2.2)) (cond (decide (r6.1=r7.1)) (cond (decide (r6.2=r7.2)) (cond (decide (r8.1=r9.1)) (cond (decide (r8.2=r9.2)) (some true) (some false)) (some false)) (some false)) (some false)) (some false)) (some false)) (some false)))=some true:=by
      intro r4 r6 r8 k1 k2 k3 k4 k5 k6
      simp only[cond_false,P25_eq hz,bind_some',k1,k2,k3,k4,k5,k6,decide_true,cond_true]
    by_cases h:errV l a b n=0
    · obtain⟨c,s,hk⟩:=errV_iff.1 h
      obtain⟨r,r1,r2⟩:=(P17_eq hz a b n).2 c s hk
      obtain⟨r',r3,r4⟩:=(P34_eq hz a b n).2 c s hk
      have e1:=r2.uniq hk.nc r4
      subst e1
      obtain⟨q,q1,q2⟩:=(P33_eq hz a b n).2 c s hk
      obtain⟨q',q3,q4⟩:=(P35_eq hz a b n).2 c s hk
      have e2:=q2.uniq q4
      subst e2
      obtain⟨n1,n2⟩:=(P16_eq hz a b n).2 c s hk
      obtain⟨m1,m2⟩:=(P36_eq hz a b n).2 c s hk
      by_cases hc:canM l c s n
      · obtain⟨k,k1,k2⟩:=n2 hc
        obtain⟨j,j1,j2⟩:=m2 hc
        have e3:=k2.uniq j2
        subst e3
        exact fin _ _ _ r1 r3 q1 q3 k1 j1
      · exact fin _ _ _ r1 r3 q1 q3 (n1 hc) (m1 hc)
    · exact fin _ _ _ ((P17_eq hz a b n).1 h) ((P34_eq hz a b n).1 h) ((P33_eq hz a b n).1 h) ((P35_eq hz a b n).1 h) ((P16_eq hz a b n).1 h) ((P36_eq hz a b n).1 h)
  · rfl
theorem Pure.KeysWhy (l:LT)(_:Wf TyL l)(x:Int×Int×Int)(_:Wf TyA x):P10 (l,x)=some true:=Pure.KeysWhy' l x
end Go.Proofs.YtdacabdocbhkdaaGreat.D
