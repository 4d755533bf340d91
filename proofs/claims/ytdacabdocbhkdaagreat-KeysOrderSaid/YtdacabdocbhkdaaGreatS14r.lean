/- Cut down from a longer text. -/
import Derived.Test.YtdacabdocbhkdaaGreatS13r
set_option linter.unusedVariables false
set_option linter.unusedSimpArgs false
set_option linter.unusedSectionVars false
namespace Go.Proofs.YtdacabdocbhkdaaGreat.D
open Go Go.Proofs Go.Proofs.YtdacabdocbhkdaaGreat.L
def opens (l:LT)(c:CT)(s:VT):Prop:=c.2.2.2.2.2.1=false∨∃ k∈l.2.2.2.1,ownB l c k=true∧opB s.2.1 k=true
inductive WhyR (l:LT) (c:CT) (s:VT) (n:Int):Int×Int→Prop where
 | file (h:missV l c s≠[]):WhyR l c s n (1,gt (missV l c s) 0)
 | key (h:missV l c s=[]) (hl:c.2.2.2.2.2.1=true) (hk:∀ k∈l.2.2.2.1,ownB l c k=false):WhyR l c s n (2,-1)
 | foreign (h:missV l c s=[]) (hl:c.2.2.2.2.2.1=true) (k:KT) (hk:k∈l.2.2.2.1) (ho:ownB l c k=true) (hm:∀ k'∈l.2.2.2.1,ownB l c k'=true→k.1≤k'.1) (hn:∀ k'∈l.2.2.2.1,ownB l c k'=true→opB s.2.1 k'=false)
   (j:Nat) (hj:j < s.2.1.length) (hd:inB k.2.2.1 (gt s.2.1 j)=false) (hf:∀ i,i < j→inB k.2.2.1 (gt s.2.1 i)=true):WhyR l c s n (3,gt s.2.1 j)
 | shut (h:missV l c s=[]) (ho:opens l c s) (m:Int) (h1:n≤m) (h2:m < n+c.2.2.2.2.1) (h3:¬ openM l c s m) (h4:∀ i,n≤i→i < m→openM l c s i):WhyR l c s n (4,m)
 | none (h:missV l c s=[]) (ho:opens l c s) (h4:∀ i,n≤i→i < n+c.2.2.2.2.1→openM l c s i):WhyR l c s n (0,n+c.2.2.2.2.1-1)
theorem not_opens {l:LT}{c:CT}{s:VT}(hl:c.2.2.2.2.2.1=true)(h:∀ k∈l.2.2.2.1,ownB l c k=true→opB s.2.1 k=false):¬ opens l c s:=by
 rintro(q | ⟨k,hk,h1,h2⟩)
 ·rw[hl]at q; cases q
 ·rw[h k hk h1]at h2; cases h2
theorem WhyR.uniq {l:LT}{c:CT}{s:VT}{n:Int}{x y:Int×Int}(hnc:ncB l.2.2.2.1=true)(h:WhyR l c s n x)(h':WhyR l c s n y):x=y:=by
 have hno:∀ {k:KT},k∈l.2.2.2.1→ownB l c k=true→(∀ k∈l.2.2.2.1,ownB l c k=false)→False:=fun hk ho h=>by rw[h _ hk]at ho; cases ho
 cases h with
 | file h=>cases h' <;> first | rfl | contradiction
 | key h hl hk=>
  have no:¬ opens l c s:=not_opens hl fun k q1 q2=>absurd q2 (by rw[hk k q1]; simp)
  cases h' with
  | file h'=>contradiction
  | key=>rfl
  | foreign _ _ k q1 q2=>exact(hno q1 q2 hk).elim
  | shut _ ho=>exact absurd ho no
  | none _ ho=>exact absurd ho no
 | foreign h hl k hk ho hm hn j hj hd hf=>
  have no:¬ opens l c s:=not_opens hl hn
  cases h' with
  | file h'=>contradiction
  | key _ _ q=>exact(hno hk ho q).elim
  | foreign _ _ k' hk' ho' hm' _ j' hj' hd' hf'=>
   have e:k=k':=ncB_iff.1 hnc k hk k' hk' (by have:=hm k' hk' ho'; have:=hm' k hk ho; omega)
   subst e
   rcases Nat.lt_trichotomy j j' with q | q | q
   ·rw[hf' j q]at hd; cases hd
   ·rw[q]
   ·rw[hf j' q]at hd'; cases hd'
  | shut _ ho=>exact absurd ho no
  | none _ ho=>exact absurd ho no
 | shut h ho m h1 h2 h3 h4=>
  cases h' with
  | file h'=>contradiction
  | key _ hl hk=>exact absurd ho (not_opens hl fun k q1 q2=>absurd q2 (by rw[hk k q1]; simp))
  | foreign _ hl _ _ _ _ hn=>exact absurd ho (not_opens hl hn)
  | shut _ _ m' g1 g2 g3 g4=>
   rcases Int.lt_trichotomy m m' with q | q | q
   ·exact absurd (g4 m h1 q) h3
   ·rw[q]
   ·exact absurd (h4 m' g1 q) g3
  | none _ _ g4=>exact absurd (g4 m h1 h2) h3
 | none h ho h4=>
  cases h' with
  | file h'=>contradiction
  | key _ hl hk=>exact absurd ho (not_opens hl fun k q1 q2=>absurd q2 (by rw[hk k q1]; simp))
  | foreign _ hl _ _ _ _ hn=>exact absurd ho (not_opens hl hn)
  | shut _ _ m' g1 g2 g3 g4=>exact absurd (h4 m' g1 g2) g3
  | none=>rfl
def canM (l:LT)(c:CT)(s:VT)(n:Int):Prop:=missV l c s=[]∧∀ i,n≤i→i < n+c.2.2.2.2.1→openM l c s i
theorem P81_eq {p:PT}{P:Int→Prop}(h:SpOk p.2.2.2.2.2.2.2.2.2.2.2.2 P)(n:Int):∃ m,P81 (some p,n)=some m∧n≤m∧m≤max n 10000∧(∀ i,n≤i→i < m→P i)∧¬ P m:=by
 have hl:=h.len
 generalize hsp:p.2.2.2.2.2.2.2.2.2.2.2.2=sp at *
 rcases while_find (step:=fun x=>p81_0 x.1 x.2.1 x.2.2.1 x.2.2.2) sp.length (fun k=>(n,sp,(sp.length:Int),(k:Int))) (fun k=>wi n (gt sp k).1 (gt sp k).2) (fun k=>.inl ((gt sp k).2+1)) (.inr n) (fun k hk _=>by
   have hb:=h.bd _ (gt_mem hk)
   have f:fits .i64 ((gt sp k).2+1)=true:=fits_of (by omega) (by omega)
   simp(disch:=omega) only[p81_0,q81_0,ltN,dT,cond_true,inR_nat,chk_t,ix_gt,P63_eq,bind_some',f,fitK,a1]
   cases wi n (gt sp k).1 (gt sp k).2 <;> rfl) (fun _=>by simp(disch:=omega) only[p81_0,q81_0,ltN,dF,cond_false]) (by omega)with⟨k,hk,h1,h2,h3⟩ | ⟨h1,h2⟩
 ·have e:L81_0 (n,sp,(sp.length:Int),0)=some (.inl ((gt sp k).2+1)):=h3
  have hb:=h.bd _ (gt_mem hk)
  rw[wi_iff]at h1
  refine⟨(gt sp k).2+1,by simp only[P81,p81,q81,Option.isSome_some,chk_t,dof,Option.getD_some,hsp,e,bind_some',elim_inl],by omega,by omega,fun i q1 q2=>(h.mem i).2 ⟨_,gt_mem hk,by omega,by omega⟩,fun q=>?_⟩
  obtain⟨y,hy,y1,y2⟩:=(h.mem _).1 q
  obtain⟨i,hi,rfl⟩:=mem_gt hy
  have hp:=List.pairwise_iff_getElem.1 h.pw
  rcases Nat.lt_trichotomy i k with r | r | r
  ·have:=hp i k hi hk r
   rw[← gt_lt hi,← gt_lt hk]at this; omega
  ·subst r; omega
  ·have:=hp k i hk hi r
   rw[← gt_lt hi,← gt_lt hk]at this; omega
 ·have e:L81_0 (n,sp,(sp.length:Int),0)=some (.inr n):=h2
  refine⟨n,by simp only[P81,p81,q81,Option.isSome_some,chk_t,dof,Option.getD_some,hsp,e,bind_some',elim_inr],by omega,by omega,fun i q1 q2=>by omega,fun q=>?_⟩
  obtain⟨y,hy,y1,y2⟩:=(h.mem _).1 q
  obtain⟨i,hi,rfl⟩:=mem_gt hy
  have:=h1 i hi
  rw[wi_iff.2 ⟨y1,y2⟩]at this; cases this
theorem P80v2_eq (p:PT){ds:List Int}(hk:0 < p.2.2.2.2.2.2.2.2.2.2.2.1.length)(hd:ds.length≤1000)(hkd:(gt p.2.2.2.2.2.2.2.2.2.2.2.1 0).2.2.1.length≤1000):P80v2 (ds,some p)=some (fix ds fun d=>!inB (gt p.2.2.2.2.2.2.2.2.2.2.2.1 0).2.2.1 d):=by
 have h0:∀ d:Int,P78 (d,some p)=some (!inB (gt p.2.2.2.2.2.2.2.2.2.2.2.1 0).2.2.1 d):=fun d=>by
  have i0:inR 0 p.2.2.2.2.2.2.2.2.2.2.2.1.length=true:=inR_nat hk
  have g0:ix p.2.2.2.2.2.2.2.2.2.2.2.1 0=gt p.2.2.2.2.2.2.2.2.2.2.2.1 0:=ix_gt _ 0
  simp only[P78,p78,q78,Option.isSome_some,chk_t,dof,Option.getD_some,i0,g0,P79_eq d hkd,bind_some']
 obtain⟨r,r1,r2⟩:=while_fix (step:=fun x=>p80v2_0 x.1 x.2.1 x.2.2.1 x.2.2.2) ds (fun i=>(ds,some p,(ds.length:Int),(i:Int))) (fun d=>!inB (gt p.2.2.2.2.2.2.2.2.2.2.2.1 0).2.2.1 d) (fun k=>.inl (k:Int)) (.inr ())
  (fun i hi _=>by
   simp(disch:=omega) only[p80v2_0,q80v2_0,ltN,dT,cond_true,inR_nat,chk_t,ix_gt,h0,bind_some',fitK,a1]
   cases inB (gt p.2.2.2.2.2.2.2.2.2.2.2.1 0).2.2.1 (gt ds i) <;> rfl) (by simp(disch:=omega) only[p80v2_0,q80v2_0,ltN,dF,cond_false]) (by omega) (fun y=>Sum.elim (fun y=>some y) (fun _=>some (-1)) y) (fun z=>some z) (fun _ _ _=>rfl) rfl
 have e:L80v2_0 (ds,some p,(ds.length:Int),0)=some r:=r1
 simp only[P80v2,p80v2,q80v2,e,bind_some']
 exact r2
structure Put (l:LT) (c:CT) (s:VT) (sums:List AT) (ks:List KT) (sp:List Sp):Prop where
 ok:LibOk l
 put:PutOk l c s sums ks sp
 ds:s.2.1.length≤1000
 fs:s.2.2.length≤1000
 fu:Uq s.2.2
 ca:c.2.2.2.2.2.2.length≤1000
 mn:1≤c.2.2.2.2.1∧c.2.2.2.2.1≤400
theorem put_of {l:LT}(hz:szL l){x y n:Int}{c:CT}{s:VT}{sums:List AT}{ks:List KT}{sp:List Sp}(h:AskOk l x y n c s)(hp:PutOk l c s sums ks sp):Put l c s sums ks sp:=by
 have hok:=lib_ok h.lib
 have q:=serv_ok (hok.serv s h.sm).1
 have z:=hz.ca c h.cm
 exact⟨hok,hp,by omega,by omega,q.2.2.2.2,by omega,(comp_ok (hok.comp c h.cm).1).1⟩
theorem mk_lk (c:CT)(s:VT)(u:List AT)(ks:List KT)(sp:List Sp):(mkP c s u ks sp).2.2.2.2.2.1=c.2.2.2.2.2.1:=rfl
theorem mk_mn (c:CT)(s:VT)(u:List AT)(ks:List KT)(sp:List Sp):(mkP c s u ks sp).2.2.2.2.1=c.2.2.2.2.1:=rfl
theorem mk_ds (c:CT)(s:VT)(u:List AT)(ks:List KT)(sp:List Sp):(mkP c s u ks sp).2.2.2.2.2.2.2.2.1=s.2.1:=rfl
theorem mk_ks (c:CT)(s:VT)(u:List AT)(ks:List KT)(sp:List Sp):(mkP c s u ks sp).2.2.2.2.2.2.2.2.2.2.2.1=ks:=rfl
theorem mk_sp (c:CT)(s:VT)(u:List AT)(ks:List KT)(sp:List Sp):(mkP c s u ks sp).2.2.2.2.2.2.2.2.2.2.2.2=sp:=rfl
theorem P46_eq {l:LT}{c:CT}{s:VT}{sums:List AT}{ks:List KT}{sp:List Sp}(h:Put l c s sums ks sp){n:Int}(hn:0≤n∧n≤100000):∃ x,P46 (some (mkP c s sums ks sp),n)=some x∧WhyR l c s n x:=by
 have hp:=h.put
 have e47:=P47_eq h.ok.au h.fu h.fs h.ca hp
 have hm1:=h.mn.1
 have hm2:=h.mn.2
 have f1:fits .i64 (n+c.2.2.2.2.1)=true:=fits_of (by omega) (by omega)
 have f2:fits .i64 (n+c.2.2.2.2.1-1)=true:=fits_of (by omega) (by omega)
 by_cases hmiss:missV l c s=[]
 ·have d0:decide ((0:Int) < ((missV l c s).length:Int))=false:=by rw[hmiss]; rfl
  have hsh:opens l c s→∃ x,((P81 (some (mkP c s sums ks sp),n)).bind fun r4=>chk (fits .i64 (n+c.2.2.2.2.1)) (cond (decide (r4 < n+c.2.2.2.2.1)) (some ((4:Int),r4)) (chk (fits .i64 (n+c.2.2.2.2.1)) (chk (fits .i64 (n+c.2.2.2.2.1-1)) (some ((0:Int),n+c.2.2.2.2.1-1))))))=some x∧WhyR l c s n x:=fun ho=>by
   obtain⟨m,m1,m2,m3,m4,m5⟩:=P81_eq (p:=mkP c s sums ks sp) hp.spM n
   by_cases hlt:m < n+c.2.2.2.2.1
   ·exact⟨(4,m),by simp only[m1,bind_some',f1,chk_t,decide_eq_true hlt,cond_true],.shut hmiss ho m m2 hlt m5 m4⟩
   ·exact⟨_,by simp only[m1,bind_some',f1,f2,chk_t,decide_eq_false hlt,cond_false],.none hmiss ho fun i q1 q2=>m4 i q1 (by omega)⟩
  cases hlk:c.2.2.2.2.2.1
  ·obtain⟨x,x1,x2⟩:=hsh (.inl hlk)
   refine⟨x,?_,x2⟩
   simp only[P46,p46,q46,e47,bind_some',d0,cond_false,Option.isSome_some,chk_t,dof,Option.getD_some,mk_lk,mk_mn,mk_ds,mk_ks,mk_sp,hlk]
   exact x1
  ·have hks:=hp.ksok.len
   by_cases hk0:ks=[]
   ·subst hk0
    refine⟨(2,-1),?_,.key hmiss hlk fun k hk=>?_⟩
    ·simp only[P46,p46,q46,e47,bind_some',d0,cond_false,Option.isSome_some,chk_t,dof,Option.getD_some,mk_lk,mk_mn,mk_ds,mk_ks,mk_sp,hlk,cond_true]
     rfl
    ·cases ho:ownB l c k
     ·rfl
     ·have:=(hp.mem k).2 ⟨hk,ho⟩
      simp at this
   ·have hkl:0 < ks.length:=List.length_pos_iff.2 hk0
    have d1:∀ i:Decidable (((mkP c s sums ks sp).2.2.2.2.2.2.2.2.2.2.2.1.length:Int)=0),@decide _ i=false:=fun i=>@dF _ i (by show ¬ (ks.length:Int)=0; omega)
    obtain⟨ts,t1,t2⟩:=P45v1_eq (mkP c s sums ks sp) h.ds hp.ksok
    by_cases ht:ts=[]
    ·subst ht
     have hnone:∀ k'∈l.2.2.2.1,ownB l c k'=true→opB s.2.1 k'=false:=fun k' h1 h2=>by
      cases ho:opB s.2.1 k'
      ·rfl
      ·have:=(t2.mem k'.2.2.2).2 ⟨k',(hp.mem k').2 ⟨h1,h2⟩,ho,rfl⟩
       simp at this
     have hk0m:=(hp.mem _).1 (gt_mem hkl)
     have hkd:=hp.ksok.dl _ (gt_mem hkl)
     have e80:P80v2 (s.2.1,some (mkP c s sums ks sp))=some (fix s.2.1 fun d=>!inB (gt ks 0).2.2.1 d):=P80v2_eq (mkP c s sums ks sp) (ds:=s.2.1) hkl h.ds (show(gt ks 0).2.2.1.length≤1000 by omega)
     have hno:=hnone _ hk0m.1 hk0m.2
     rcases fix_cases s.2.1 fun d=>!inB (gt ks 0).2.2.1 d with⟨j,hj,h1,h2,h3,h4,h5⟩ | ⟨h1,h2,h3,h4⟩
     ·refine⟨(3,gt s.2.1 j),?_,.foreign hmiss hlk (gt ks 0) hk0m.1 hk0m.2 (fun k' q1 q2=>?_) hnone j hj (by simpa using h1) fun i hi=>by simpa using h2 i hi⟩
      ·have d2:decide ((([]:List Sp).length:Int)=0)=true:=rfl
       simp only[P46,p46,q46]
       dsimp only[dof,Option.getD_some,Option.isSome_some,mk_lk,mk_mn,mk_ds]
       simp(disch:=omega) only[hlk,e47,bind_some',d0,cond_false,chk_t,cond_true,t1,d2,e80,h3,inR_nat,ix_gt]
       exact congrArg (fun b=>cond b (some ((2:Int),(-1:Int))) (some ((3:Int),gt s.2.1 j))) (d1 _)
      ·have hk':=(hp.mem k').2 ⟨q1,q2⟩
       obtain⟨i,hi,rfl⟩:=mem_gt hk'
       have hpw:=List.pairwise_iff_getElem.1 hp.sd
       rcases Nat.eq_zero_or_pos i with r | r
       ·subst r; omega
       ·have:=hpw 0 i hkl hi r
        rw[← gt_lt hkl,← gt_lt hi]at this; exact this
     ·have:opB s.2.1 (gt ks 0)=true:=by
       unfold opB
       rw[← all_eq,allB_true]
       exact fun i hi=>by simpa using h1 i hi
      rw[hno]at this; cases this
    ·have htl:0 < ts.length:=List.length_pos_iff.2 ht
     obtain⟨k,k1,k2,k3⟩:=(t2.mem _).1 (gt_mem htl)
     have hkm:=(hp.mem k).1 k1
     obtain⟨x,x1,x2⟩:=hsh (.inr ⟨k,hkm.1,hkm.2,k2⟩)
     have d2:decide ((ts.length:Int)=0)=false:=decide_eq_false (by omega)
     refine⟨x,?_,x2⟩
     simp only[P46,p46,q46]
     dsimp only[dof,Option.getD_some,Option.isSome_some,mk_lk,mk_mn,mk_ds]
     simp only[hlk,e47,bind_some',d0,cond_false,chk_t,cond_true,t1,d2]
     exact(congrArg (fun b=>cond b (some ((2:Int),(-1:Int))) _) (d1 _)).trans x1
 ·have hpos:0 < (missV l c s).length:=List.length_pos_iff.2 hmiss
  have d0:decide ((0:Int) < ((missV l c s).length:Int))=true:=decide_eq_true (by omega)
  have i0:inR 0 (missV l c s).length=true:=inR_nat hpos
  have g0:ix (missV l c s) 0=gt (missV l c s) 0:=ix_gt _ 0
  exact⟨_,by simp only[P46,p46,q46,e47,bind_some',d0,cond_true,i0,chk_t,g0],.file hmiss⟩
theorem P17_eq {l:LT}(hz:szL l)(x y n:Int):(errV l x y n≠0→P17 (l,x,y,n)=some (0,0,errV l x y n))∧∀ c s,AskOk l x y n c s→∃ r,P17 (l,x,y,n)=some (r.1,r.2,0)∧WhyR l c s n r:=by
 constructor
 ·intro h
  simp only[P17,p17,q17,ask_no hz h,bind_some',decide_eq_false h,Bool.not_false,cond_true]
 ·intro c s h
  obtain⟨sums,ks,sp,p1,p2⟩:=ask_ok hz h
  have hn:=h.n
  obtain⟨r,r1,r2⟩:=P46_eq (put_of hz h p2) (n:=n) (by omega)
  exact⟨r,by simp only[P17,p17,q17,p1,bind_some',decide_true,Bool.not_true,cond_false,r1],r2⟩
end Go.Proofs.YtdacabdocbhkdaaGreat.D
