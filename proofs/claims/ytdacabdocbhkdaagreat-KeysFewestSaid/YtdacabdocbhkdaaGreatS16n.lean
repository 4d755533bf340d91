/- Cut down from a longer text. -/
import Derived.Test.YtdacabdocbhkdaaGreatS15n
set_option linter.unusedVariables false
set_option linter.unusedSimpArgs false
set_option linter.unusedSectionVars false
namespace Go.Proofs.YtdacabdocbhkdaaGreat.D
open Go Go.Proofs Go.Proofs.YtdacabdocbhkdaaGreat.L
theorem P44_eq {l:LT}{c:CT}{s:VT}{sums:List AT}{ks:List KT}{sp:List Sp}(h:Put l c s sums ks sp){n:Int}(hn:0≤n∧n≤100000):∃ b,P44 (some (mkP c s sums ks sp),n)=some b∧(b=true↔canM l c s n):=by
  obtain⟨x,x1,x2⟩:=P46_eq h hn
  exact⟨decide (x.1=0),by simp only[P44,p44,q44,x1,bind_some'],by rw[decide_eq_true_eq]; exact x2.can h.mn.1⟩
inductive NextR (l:LT) (c:CT) (s:VT) (n:Int):Int×Int→Prop where
  | at(t:Int) (h1:n≤t) (h2:canM l c s t) (h3:∀ i,n≤i→i < t→¬ canM l c s i):NextR l c s n (t,0)
  | no (h:∀ i,n≤i→¬ canM l c s i):NextR l c s n (0,3)
theorem can_open {l:LT}{c:CT}{s:VT}{n:Int}(h:canM l c s n)(hm:1≤c.2.2.2.2.1):openM l c s n:=h.2 n (by omega) (by omega)
theorem P33_eq {l:LT}(hz:szL l)(x y n:Int):(errV l x y n≠0→P33 (l,x,y,n)=some (0,errV l x y n))∧∀ c s,AskOk l x y n c s→∃ r,P33 (l,x,y,n)=some r∧NextR l c s n r:=by
  constructor
  · intro h
    simp only[P33,p33,q33,ask_no hz h,bind_some',decide_eq_false h,Bool.not_false,cond_true]
  · intro c s h
    obtain⟨sums,ks,sp,p1,p2⟩:=ask_ok hz h
    have hput:=put_of hz h p2
    have hn:=h.n
    have hmn:=hput.mn
    have hsp:=p2.spM
    have hlen:=hsp.len
    have hq:∀ t,n≤t→canM l c s t→∃ j,j < sp.length∧max n (gt sp j).1≤(gt sp j).2∧max n (gt sp j).1≤t∧canM l c s (max n (gt sp j).1):=fun t h1 h2=>by
      obtain⟨y,hy,y1,y2⟩:=(hsp.mem t).1 (can_open h2 hmn.1)
      obtain⟨j,hj,rfl⟩:=mem_gt hy
      refine⟨j,hj,by omega,by omega,h2.1,fun i q1 q2=>?_⟩
      by_cases e:i≤t
      · exact(hsp.mem i).2 ⟨_,gt_mem hj,by omega,by omega⟩
      · exact h2.2 i (by omega) (by omega)
    have hex:∀ k,∃ b:Bool,(k < sp.length→P44 (some (mkP c s sums ks sp),max n (gt sp k).1)=some b)∧(k < sp.length→(b=true↔canM l c s (max n (gt sp k).1))):=fun k=>by
      by_cases hk:k < sp.length
      · have hb:=hsp.bd _ (gt_mem hk)
        obtain⟨b,b1,b2⟩:=P44_eq hput (n:=max n (gt sp k).1) (by omega)
        exact⟨b,fun _=>b1,fun _=>b2⟩
      · exact⟨false,fun q=>absurd q hk,fun q=>absurd q hk⟩
    let bf:Nat→Bool:=fun k=>Classical.choose (hex k)
    have hbf:∀ k,k < sp.length→P44 (some (mkP c s sums ks sp),max n (gt sp k).1)=some (bf k)∧(bf k=true↔canM l c s (max n (gt sp k).1)):=fun k hk=>⟨(Classical.choose_spec (hex k)).1 hk,(Classical.choose_spec (hex k)).2 hk⟩
    rcases while_find (step:=fun x=>p33_0 x.1 x.2.1 x.2.2.1 x.2.2.2.1 x.2.2.2.2) sp.length (fun k=>(n,some (mkP c s sums ks sp),sp,(sp.length:Int),(k:Int))) (fun k=>decide (max n (gt sp k).1≤(gt sp k).2)&&bf k) (fun k=>.inl (max n (gt sp k).1,0)) (.inr ()) (fun k hk _=>by
        simp(disch:=omega) only[p33_0,q33_0,ltN,dT,cond_true,inR_nat,chk_t,ix_gt,(hbf k hk).1,bind_some',fitK,a1]
        cases decide (max n (gt sp k).1≤(gt sp k).2)
        · rfl
        · cases bf k <;> rfl) (fun _=>by simp(disch:=omega) only[p33_0,q33_0,ltN,dF,cond_false]) (by omega)with⟨k,hk,h1,h2,h3⟩ | ⟨h1,h2⟩
    · have e:L33_0 (n,some (mkP c s sums ks sp),sp,(sp.length:Int),0)=some (.inl (max n (gt sp k).1,0)):=h3
      rw[Bool.and_eq_true,decide_eq_true_eq]at h1
      refine⟨(max n (gt sp k).1,0),?_,.at _ (by omega) ((hbf k hk).2.1 h1.2) fun i q1 q2 hc=>?_⟩
      · simp only[P33,p33,q33,p1,bind_some',decide_true,Bool.not_true,cond_false]
        dsimp only[dof,Option.getD_some,Option.isSome_some,mk_sp]
        simp only[chk_t,e,bind_some',elim_inl]
      · obtain⟨j,hj,j1,j2,j3⟩:=hq i q1 hc
        have hbk:=hsp.bd _ (gt_mem hk)
        have hp:=List.pairwise_iff_getElem.1 hsp.pw
        rcases Nat.lt_trichotomy j k with r | r | r
        · have:=h2 j r
          rw[decide_eq_true j1,(hbf j hj).2.2 j3]at this; cases this
        · subst r; omega
        · have:=hp k j hk hj r
          rw[← gt_lt hk,← gt_lt hj]at this; omega
    · have e:L33_0 (n,some (mkP c s sums ks sp),sp,(sp.length:Int),0)=some (.inr ()):=h2
      refine⟨(0,3),?_,.no fun i q1 hc=>?_⟩
      · simp only[P33,p33,q33,p1,bind_some',decide_true,Bool.not_true,cond_false]
        dsimp only[dof,Option.getD_some,Option.isSome_some,mk_sp]
        simp only[chk_t,e,bind_some',elim_inr]
      · obtain⟨j,hj,j1,j2,j3⟩:=hq i q1 hc
        have:=h1 j hj
        rw[decide_eq_true j1,(hbf j hj).2.2 j3]at this; cases this
end Go.Proofs.YtdacabdocbhkdaaGreat.D
