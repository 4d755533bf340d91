/- Cut down from a longer text. -/
import Derived.Test.YtdacabdocbhkdaaGreatS32r
set_option linter.unusedVariables false
set_option linter.unusedSimpArgs false
set_option linter.unusedSectionVars false
namespace Go.Proofs.YtdacabdocbhkdaaGreat.D
open Go Go.Proofs Go.Proofs.YtdacabdocbhkdaaGreat.L
abbrev withKR (l:LT)(K:List KT)(R:List Int):LT:=(l.1,l.2.1,l.2.2.1,K,R)
theorem subKR {l:LT}(hz:szL l)(h:chkV l=0){K:List KT}{R:List Int}(hK:∀ k∈K,k∈l.2.2.2.1)(hR:∀ r∈R,r∈l.2.2.2.2)(hn:K.length≤20)(hm:R.length≤20):szL (withKR l K R)∧chkV (withKR l K R)=0:=by
 refine⟨⟨hz.a,hz.c,hz.s,Nat.le_trans hn (by omega),Nat.le_trans hm (by omega),hz.ca,hz.sd,hz.sf,fun k hk=>hz.kd k (hK k hk)⟩,?_⟩
 obtain⟨h1,h2⟩:=chkV_iff.1 h
 refine chkV_iff.2 ⟨?_,ncB_iff.2 fun k hk k' hk'=>ncB_iff.1 h2 k (hK k hk) k' (hK k' hk')⟩
 unfold libB sizB at h1 ⊢
 simp only[Bool.and_eq_true,List.all_eq_true,lenB,decide_eq_true_eq]at h1 ⊢
 obtain⟨⟨g1,g2,g3,g4,g5⟩,⟨g6,g7⟩,g8⟩:=h1
 exact⟨⟨g1,g2,g3,hn,hm⟩,⟨fun k hk=>g6 k (hK k hk),fun r hr=>g7 r (hR r hr)⟩,g8⟩
theorem WhyR.congr {l:LT}{K:List KT}{R:List Int}(hK:∀ k,k∈K↔k∈l.2.2.2.1)(hR:∀ r,r∈R↔r∈l.2.2.2.2){c:CT}{s:VT}{n:Int}{x:Int×Int}(h:WhyR (withKR l K R) c s n x):WhyR l c s n x:=by
 have ow:∀ k,ownB (withKR l K R) c k=ownB l c k:=fun k=>by
  unfold ownB
  congr 2
  rw[Bool.eq_iff_iff,inB_iff,inB_iff]; exact hR k.1
 have om:∀ i,openM (withKR l K R) c s i↔openM l c s i:=fun i=>by
  unfold openM
  refine and_congr Iff.rfl (and_congr Iff.rfl (or_congr Iff.rfl ⟨?_,?_⟩))
  ·rintro⟨k,k1,k2,k3⟩; rw[ow]at k2; exact⟨k,(hK k).1 k1,k2,k3⟩
  ·rintro⟨k,k1,k2,k3⟩; rw[← ow]at k2; exact⟨k,(hK k).2 k1,k2,k3⟩
 have op:opens (withKR l K R) c s→opens l c s:=by
  rintro(q | ⟨k,k1,k2,k3⟩)
  ·exact .inl q
  ·rw[ow]at k2; exact .inr ⟨k,(hK k).1 k1,k2,k3⟩
 cases h with
 | file h=>exact .file h
 | key h hl hk=>exact .key (show missV l c s=[]from h) hl fun k q=>by rw[← ow]; exact hk k ((hK k).2 q)
 | foreign h hl k hk ho hm hn j hj hd hf=>exact .foreign (show missV l c s=[]from h) hl k ((hK k).1 hk) (by rw[← ow]; exact ho) (fun k' q q'=>hm k' ((hK k').2 q) (by rw[ow]; exact q')) (fun k' q q'=>hn k' ((hK k').2 q) (by rw[ow]; exact q')) j hj hd hf
 | shut h ho m h1 h2 h3 h4=>exact .shut (show missV l c s=[]from h) (op ho) m h1 h2 (fun q=>h3 ((om m).2 q)) fun i i1 i2=>(om i).1 (h4 i i1 i2)
 | none h ho h4=>exact .none (show missV l c s=[]from h) (op ho) fun i i1 i2=>(om i).1 (h4 i i1 i2)
theorem tmod_nat {i b n:Nat}(hn:0 < n):Int.tmod ((i:Int)+(b:Int)) (n:Int)=(((i+b) % n:Nat):Int):=by
 rw[← Int.natCast_add]; rfl
theorem turn_surj {b n j:Nat}(hj:j < n):∃ i,i < n∧(i+b) % n=j:=by
 refine⟨(j+n*b-b) % n,Nat.mod_lt _ (by omega),?_⟩
 have h1:b≤n*b:=Nat.le_mul_of_pos_left b (by omega)
 rw[Nat.mod_add_mod,show j+n*b-b+b=j+n*b by omega,Nat.add_mul_mod_self_left,Nat.mod_eq_of_lt hj]
theorem L12_0_eq {l:LT}(hz:szL l)(x:Int×Int×Int)(b:Nat)(hb:b≤100)(cut:Int)(A:List AT)(B:List CT)(V:List VT):∃ T,L12_0 (0,l,x,((b:Int),cut),A,B,V,[])=some (l,x,((b:Int),cut),A,B,V,T)∧T.length=l.2.2.2.1.length∧∀ k,k∈T↔k∈l.2.2.2.1:=by
 have zk:=hz.k
 have key:∃ y,L12_0 (0,l,x,((b:Int),cut),A,B,V,[])=some y∧∃ T:List KT,y=(l,x,((b:Int),cut),A,B,V,T)∧T.length=l.2.2.2.1.length∧∀ k,k∈T↔∃ i,i < l.2.2.2.1.length∧gt l.2.2.2.1 ((i+b) % l.2.2.2.1.length)=k:=by
  refine while_inv l.2.2.2.1.length (fun t st=>∃ T:List KT,st=((t:Int),l,x,((b:Int),cut),A,B,V,T)∧T.length=t∧∀ k,k∈T↔∃ i,i < t∧gt l.2.2.2.1 ((i+b) % l.2.2.2.1.length)=k) _ ⟨[],rfl,rfl,fun k=>⟨fun h=>(by cases h),fun⟨i,h,_⟩=>(by omega)⟩⟩ (by omega) ?_ ?_
  ·rintro t st ht ⟨T,rfl,t1,t2⟩
   have hlt:=Nat.mod_lt (t+b) (show l.2.2.2.1.length > 0 by omega)
   have f1:fits .i64 ((t:Int)+(b:Int))=true:=fits_of (by omega) (by omega)
   have d1:decide ((l.2.2.2.1.length:Int)≠0)=true:=decide_eq_true (by omega)
   have c3:capOk 56 (T.length+([gt l.2.2.2.1 ((t+b) % l.2.2.2.1.length)]:List KT).length)=true:=capOk_sm (by omega) (by simp only[List.length_cons,List.length_nil]; omega)
   have hd:=hz.kd _ (gt_mem hlt)
   refine⟨_,?_,T++[gt l.2.2.2.1 ((t+b) % l.2.2.2.1.length)],rfl,by rw[List.length_append]; simp[t1],fun k=>?_⟩
   ·simp(disch:=omega) only[p12_0,q12_0,ltN,dT,cond_true,f1,d1,chk_t,tmod_nat,inR_nat,ix_gt,P39_eq,bind_some',c3,fitK,a1]
   ·rw[List.mem_append,List.mem_singleton,t2]
    constructor
    ·rintro(⟨i,h1,h2⟩ | h)
     ·exact⟨i,by omega,h2⟩
     ·exact⟨t,by omega,h.symm⟩
    ·rintro⟨i,h1,h2⟩
     by_cases e:i=t
     ·subst e; exact .inr h2.symm
     ·exact .inl ⟨i,by omega,h2⟩
  ·rintro st ⟨T,rfl,t1,t2⟩
   exact⟨_,by simp(disch:=omega) only[p12_0,q12_0,ltN,dF,cond_false],T,rfl,t1,t2⟩
 obtain⟨y,y1,T,rfl,y2,y3⟩:=key
 refine⟨T,y1,y2,fun k=>(y3 k).trans ⟨fun⟨i,h1,h2⟩=>h2▸gt_mem (Nat.mod_lt _ (by omega)),fun h=>?_⟩⟩
 obtain⟨j,hj,rfl⟩:=mem_gt h
 obtain⟨i,hi,e⟩:=turn_surj (b:=b) hj
 exact⟨i,hi,by rw[e]⟩
theorem L12_1_eq {l:LT}(hz:szL l)(x:Int×Int×Int)(b:Nat)(hb:b≤100)(cut:Int)(A:List AT)(B:List CT)(V:List VT)(K:List KT):∃ T,L12_1 (0,l,x,((b:Int),cut),A,B,V,K,[])=some (l,x,((b:Int),cut),A,B,V,K,T)∧T.length=2*l.2.2.2.2.length∧∀ k,k∈T↔k∈l.2.2.2.2:=by
 have zk:=hz.r
 have key:∃ y,L12_1 (0,l,x,((b:Int),cut),A,B,V,K,[])=some y∧∃ T:List Int,y=(l,x,((b:Int),cut),A,B,V,K,T)∧T.length=2*l.2.2.2.2.length∧(∀ k∈T,k∈l.2.2.2.2)∧∀ i,i < l.2.2.2.2.length→gt l.2.2.2.2 i∈T:=by
  refine while_inv l.2.2.2.2.length (fun t st=>∃ T:List Int,st=((t:Int),l,x,((b:Int),cut),A,B,V,K,T)∧T.length=2*t∧(∀ k∈T,k∈l.2.2.2.2)∧∀ i,i < t→gt l.2.2.2.2 i∈T) _ ⟨[],rfl,rfl,fun k h=>(by cases h),fun i h=>(by omega)⟩ (by omega) ?_ ?_
  ·rintro t st ht ⟨T,rfl,t1,t2,t3⟩
   have hlt:=Nat.mod_lt (t+b) (show l.2.2.2.2.length > 0 by omega)
   have f1:fits .i64 ((t:Int)+(b:Int))=true:=fits_of (by omega) (by omega)
   have d1:decide ((l.2.2.2.2.length:Int)≠0)=true:=decide_eq_true (by omega)
   have c3:capOk 8 (T.length+([gt l.2.2.2.2 ((t+b) % l.2.2.2.2.length),gt l.2.2.2.2 t]:List Int).length)=true:=capOk_sm (by omega) (by simp only[List.length_cons,List.length_nil]; omega)
   refine⟨_,?_,T++[gt l.2.2.2.2 ((t+b) % l.2.2.2.2.length),gt l.2.2.2.2 t],rfl,by rw[List.length_append]; simp only[List.length_cons,List.length_nil]; omega,fun k hk=>?_,fun i hi=>?_⟩
   ·simp(disch:=omega) only[p12_1,q12_1,ltN,dT,cond_true,f1,d1,chk_t,tmod_nat,inR_nat,ix_gt,c3,fitK,a1]
   ·rcases List.mem_append.1 hk with h | h
    ·exact t2 k h
    ·rcases List.mem_cons.1 h with h | h
     ·rw[h]; exact gt_mem hlt
     ·rw[List.mem_singleton.1 h]; exact gt_mem ht
   ·by_cases e:i=t
    ·subst e; exact List.mem_append_right _ (by simp)
    ·exact List.mem_append_left _ (t3 i (by omega))
  ·rintro st ⟨T,rfl,t1,t2,t3⟩
   exact⟨_,by simp(disch:=omega) only[p12_1,q12_1,ltN,dF,cond_false],T,rfl,t1,t2,t3⟩
 obtain⟨y,y1,T,rfl,y2,y3,y4⟩:=key
 refine⟨T,y1,y2,fun k=>⟨y3 k,fun h=>?_⟩⟩
 obtain⟨j,hj,rfl⟩:=mem_gt h
 exact y4 j hj
theorem cut0 {α:Type}(l:List α)(u:Nat):cutL l 0 (u:Int)=l.take u:=by simp[cutL]
theorem cut1 {α:Type}(l:List α)(u:Nat):cutL l (u:Int) (l.length:Int)=l.drop u:=by
 simp only[cutL,Int.toNat_natCast]
 rw[show((l.length:Int)-(u:Int)).toNat=l.length-u by omega,← List.length_drop,List.take_length]
theorem merge_ok {l:LT}{mo:List KT}{rc:List Int}(hz:szL l)(hz2:szL (l.1,l.2.1,l.2.2.1,mo,rc))(h:chkV l=0)(h2:chkV (l.1,l.2.1,l.2.2.1,mo,rc)=0)(hn:ncB (l.2.2.2.1++mo)=true)(hk:(l.2.2.2.1++mo).length≤20)(hr:(l.2.2.2.2++rc).length≤12):
  ∃ o R,P40 (l,mo,rc)=some (l.1,0,l.2.1,l.2.2.1,o,R)∧OnceOk (l.2.2.2.1++mo) o∧RecOk (l.2.2.2.2++rc) R:=by
 obtain⟨r,r1,r2⟩:=P40_eq hz hz2 hr
 cases r2 with
 | bad h'=>contradiction
 | own _ h'=>contradiction
 | big _ _ o R ho hR hb=>have:=ho.len; have:=hR.len; omega
 | clash _ _ o R ho hR hb hn'=>rw[hn]at hn'; cases hn'
 | ok _ _ o R ho hR hb hn'=>exact⟨o,R,r1,ho,hR⟩
theorem Pure.KeysOrder' (l:LT)(x:Int×Int×Int)(t:Int×Int):P12 (l,x,t)=some true:=by
 obtain⟨a,b,n⟩:=x
 obtain⟨by_,cut⟩:=t
 obtain⟨v,v1,v2⟩:=P14_eq l a b n
 cases v
 ·simp only[P12,p12,q12,v1,bind_some',Bool.not_false,cond_true,works]
 ·obtain⟨hz,c,s,h⟩:=v2 rfl
  by_cases g1:(9:Int) < (l.2.2.2.1.length:Int)
  ·simp only[P12,p12,q12,v1,bind_some',Bool.not_true,cond_false,dT g1,cond_true,works]
  by_cases g2:(9:Int) < (l.2.2.2.2.length:Int)
  ·simp only[P12,p12,q12,v1,bind_some',Bool.not_true,cond_false,dF g1,dT g2,cond_true,works]
  by_cases g3:by_ < 0
  ·simp only[P12,p12,q12,v1,bind_some',Bool.not_true,cond_false,dF g1,dF g2,dT g3,cond_true,works]
  by_cases g4:100 < by_
  ·simp only[P12,p12,q12,v1,bind_some',Bool.not_true,cond_false,dF g1,dF g2,dF g3,dT g4,cond_true,works]
  by_cases g5:cut < 0
  ·simp only[P12,p12,q12,v1,bind_some',Bool.not_true,cond_false,dF g1,dF g2,dF g3,dF g4,dT g5,cond_true,works]
  by_cases g6:(l.2.2.2.1.length:Int) < cut
  ·simp only[P12,p12,q12,v1,bind_some',Bool.not_true,cond_false,dF g1,dF g2,dF g3,dF g4,dF g5,dT g6,cond_true,works]
  obtain⟨bn,rfl⟩:∃ bn:Nat,by_=(bn:Int):=⟨by_.toNat,by omega⟩
  obtain⟨u,rfl⟩:∃ u:Nat,cut=(u:Int):=⟨cut.toNat,by omega⟩
  obtain⟨T,T1,T2,T3⟩:=L12_0_eq hz (a,b,n) bn (by omega) (u:Int) l.1 l.2.1 l.2.2.1
  obtain⟨Q,Q1,Q2,Q3⟩:=L12_1_eq hz (a,b,n) bn (by omega) (u:Int) l.1 l.2.1 l.2.2.1 (T++T)
  have TT:∀ k,k∈T++T↔k∈l.2.2.2.1:=fun k=>by rw[List.mem_append,or_self]; exact T3 k
  have c1:capOk 56 (T.length+T.length)=true:=capOk_sm (by omega) (by omega)
  obtain⟨oz,oc⟩:=subKR hz h.v (K:=T++T) (R:=Q) (fun k hk=>(TT k).1 hk) (fun r hr=>(Q3 r).1 hr) (by rw[List.length_append]; omega) (by omega)
  have ho:AskOk (withKR l (T++T) Q) a b n c s:=⟨oc,h.c,h.s,h.n⟩
  obtain⟨r,r1,r2⟩:=(P17_eq hz a b n).2 c s h
  obtain⟨r',r1',r2'⟩:=(P17_eq oz a b n).2 c s ho
  obtain rfl:r=r':=r2.uniq h.nc (r2'.congr TT Q3)
  obtain⟨e1,e2⟩:=subKR hz h.v (K:=[]) (R:=[]) (fun k hk=>by cases hk) (fun r hr=>by cases hr) (by simp) (by simp)
  obtain⟨o,R,m1,m2,m3⟩:=merge_ok hz e1 h.v e2 (by rw[List.append_nil]; exact h.nc) (by rw[List.append_nil]; omega) (by rw[List.append_nil]; omega)
  rw[List.append_nil]at m2 m3
  obtain⟨f1,f2⟩:=subKR hz h.v (K:=l.2.2.2.1.take u) (R:=[]) (fun k hk=>List.mem_of_mem_take hk) (fun r hr=>by cases hr) (by rw[List.length_take]; omega) (by simp)
  obtain⟨w1,w2⟩:=subKR hz h.v (K:=l.2.2.2.1.drop u) (R:=l.2.2.2.2) (fun k hk=>List.mem_of_mem_drop hk) (fun r hr=>hr) (by rw[List.length_drop]; omega) (by omega)
  obtain⟨o',R',m1',m2',m3'⟩:=merge_ok (l:=withKR l (l.2.2.2.1.take u) []) (mo:=l.2.2.2.1.drop u) (rc:=l.2.2.2.2) f1 w1 f2 w2 (by rw[List.take_append_drop]; exact h.nc) (by rw[List.take_append_drop]; omega) (by rw[List.nil_append]; omega)
  rw[List.take_append_drop]at m2'
  rw[List.nil_append]at m3'
  obtain rfl:o=o':=m2.eq m2' h.nc
  obtain rfl:R=R':=m3.eq m3'
  have z3:szL (l.1,l.2.1,l.2.2.1,o,R):=by
   refine⟨hz.a,hz.c,hz.s,?_,?_,hz.ca,hz.sd,hz.sf,fun k hk=>hz.kd k ((m2.mem k).1 hk)⟩
   ·have:=m2.len; show o.length≤100; omega
   ·have:=m3.len; show R.length≤100; omega
  have k0:decide ((0:Int)≤0)=true:=by decide
  have k1:decide ((0:Int)≤(u:Int))=true:=decide_eq_true (by omega)
  have k2:decide ((u:Int)≤(l.2.2.2.1.length:Int))=true:=decide_eq_true (by omega)
  have k3:decide ((l.2.2.2.1.length:Int)≤(l.2.2.2.1.length:Int))=true:=decide_eq_true (by omega)
  simp only[P12,p12,q12,v1,bind_some',Bool.not_true,cond_false,dF g1,dF g2,dF g3,dF g4,dF g5,dF g6,P25_eq hz,T1,c1,chk_t,Q1,r1,r1',m1,k0,k1,k2,k3,cut0,cut1,m1',decide_true,cond_true,P32_refl z3,works]
theorem Pure.KeysOrder (l:LT)(_:Wf TyL l)(x:Int×Int×Int)(_:Wf TyA x)(t:Int×Int)(_:Wf (.pair (.int .i64) (.int .i64)) t):P12 (l,x,t)=some true:=Pure.KeysOrder' l x t
end Go.Proofs.YtdacabdocbhkdaaGreat.D
