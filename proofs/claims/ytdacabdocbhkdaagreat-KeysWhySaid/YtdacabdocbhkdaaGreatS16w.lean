/- Cut down from a longer text. -/
import Derived.Test.YtdacabdocbhkdaaGreatS15w
set_option linter.unusedVariables false
set_option linter.unusedSimpArgs false
set_option linter.unusedSectionVars false
namespace Go.Proofs.YtdacabdocbhkdaaGreat.D
open Go Go.Proofs Go.Proofs.YtdacabdocbhkdaaGreat.L
theorem P44_eq {l:LT}{c:CT}{s:VT}{sums:List AT}{ks:List KT}{sp:List Sp}(h:Put l c s sums ks sp){n:Int}(hn:0≤n∧n≤100000):∃ b,P44 (some (mkP c s sums ks sp),n)=some b∧(b=true↔canM l c s n):=by
  obtain⟨x,x1,x2⟩:=P46_eq h hn
  exact⟨decide (x.1=0),by simp only[P44,p44,q44,x1,bind_some'],by rw[decide_eq_true_eq]; exact x2.can h.mn.1⟩
inductive NextR (l:LT) (c:CT) (s:VT) (n:Int):Int×Int→Prop where
  | at(t:Int) (h1:n≤t) (h2:canM l c s t) (h3:∀ i,n≤i→i < t→¬ canM l c s i):NextR l c s n (t,0)
  | no (h:∀ i,n≤i→¬ canM l c s i):NextR l c s n (0,3)
theorem NextR.uniq {l:LT}{c:CT}{s:VT}{n:Int}{x y:Int×Int}(h:NextR l c s n x)(h':NextR l c s n y):x=y:=by
  cases h with
  | «at» t h1 h2 h3=>
    cases h' with
    | «at» t' g1 g2 g3=>
      rcases Int.lt_trichotomy t t' with q | q | q
      · exact absurd h2 (g3 t h1 q)
      · rw[q]
      · exact absurd g2 (h3 t' g1 q)
    | no g=>exact absurd h2 (g t h1)
  | no h=>
    cases h' with
    | «at» t' g1 g2 g3=>exact absurd g2 (h t' g1)
    | no g=>rfl
theorem can_open {l:LT}{c:CT}{s:VT}{n:Int}(h:canM l c s n)(hm:1≤c.2.2.2.2.1):openM l c s n:=h.2 n (by omega) (by omega)
theorem P33_eq {l:LT}(hz:szL l)(x y n:Int):(errV l x y n≠0→P33 (l,x,y,n)=some (0,errV l x y n))∧∀ c s,AskOk l x y n c s→∃ r,P33 (l,x,y,n)=some r∧NextR l c s n r:=by
  constructor
  · intro h
    simp only[P33,p33,q33,ask_no hz h,bind_some',decide_eq_false h,Bool.not_false,cond_true]
  · intro c s h
    obtain⟨sums,ks,sp,p1,p2⟩:=ask_ok hz h
    have hput:=put_of hz h p2
    have hn:=h.n
    have hmn:=hput.mn
    have hsp:=p2.spM
    have hlen:=hsp.len
    have hq:∀ t,n≤t→canM l c s t→∃ j,j < sp.length∧max n (gt sp j).1≤(gt sp j).2∧max n (gt sp j).1≤t∧canM l c s (max n (gt sp j).1):=fun t h1 h2=>by
      obtain⟨y,hy,y1,y2⟩:=(hsp.mem t).1 (can_open h2 hmn.1)
      obtain⟨j,hj,rfl⟩:=mem_gt hy
      refine⟨j,hj,by omega,by omega,h2.1,fun i q1 q2=>?_⟩
      by_cases e:i≤t
      · exact(hsp.mem i).2 ⟨_,gt_mem hj,by omega,by omega⟩
      · exact h2.2 i (by omega) (by omega)
    have hex:∀ k,∃ b:Bool,(k < sp.length→P44 (some (mkP c s sums ks sp),max n (gt sp k).1)=some b)∧(k < sp.length→(b=true↔canM l c s (max n (gt sp k).1))):=fun k=>by
      by_cases hk:k < sp.length
      · have hb:=hsp.bd _ (gt_mem hk)
        obtain⟨b,b1,b2⟩:=P44_eq hput (n:=max n (gt sp k).1) (by omega)
        exact⟨b,fun _=>b1,fun _=>b2⟩
      · exact⟨false,fun q=>absurd q hk,fun q=>absurd q hk⟩
    let bf:Nat→Bool:=fun k=>Classical.choose (hex k)
    have hbf:∀ k,k < sp.length→P44 (some (mkP c s sums ks sp),max n (gt sp k).1)=some (bf k)∧(bf k=true↔canM l c s (max n (gt sp k).1)):=fun k hk=>⟨(Classical.choose_spec (hex k)).1 hk,(Classical.choose_spec (hex k)).2 hk⟩
    rcases while_find (step:=fun x=>p33_0 x.1 x.2.1 x.2.2.1 x.2.2.2.1 x.2.2.2.2) sp.length (fun k=>(n,some (mkP c s sums ks sp),sp,(sp.length:Int),(k:Int))) (fun k=>decide (max n (gt sp k).1≤(gt sp k).2)&&bf k) (fun k=>.inl (max n (gt sp k).1,0)) (.inr ()) (fun k hk _=>by
        simp(disch:=omega) only[p33_0,q33_0,ltN,dT,cond_true,inR_nat,chk_t,ix_gt,(hbf k hk).1,bind_some',fitK,a1]
        cases decide (max n (gt sp k).1≤(gt sp k).2)
        · rfl
        · cases bf k <;> rfl) (fun _=>by simp(disch:=omega) only[p33_0,q33_0,ltN,dF,cond_false]) (by omega)with⟨k,hk,h1,h2,h3⟩ | ⟨h1,h2⟩
    · have e:L33_0 (n,some (mkP c s sums ks sp),sp,(sp.length:Int),0)=some (.inl (max n (gt sp k).1,0)):=h3
      rw[Bool.and_eq_true,decide_eq_true_eq]at h1
      refine⟨(max n (gt sp k).1,0),?_,.at _ (by omega) ((hbf k hk).2.1 h1.2) fun i q1 q2 hc=>?_⟩
      · simp only[P33,p33,q33,p1,bind_some',decide_true,Bool.not_true,cond_false]
        dsimp only[dof,Option.getD_some,Option.isSome_some,mk_sp]
        simp only[chk_t,e,bind_some',elim_inl]
      · obtain⟨j,hj,j1,j2,j3⟩:=hq i q1 hc
        have hbk:=hsp.bd _ (gt_mem hk)
        have hp:=List.pairwise_iff_getElem.1 hsp.pw
        rcases Nat.lt_trichotomy j k with r | r | r
        · have:=h2 j r
          rw[decide_eq_true j1,(hbf j hj).2.2 j3]at this; cases this
        · subst r; omega
        · have:=hp k j hk hj r
          rw[← gt_lt hk,← gt_lt hj]at this; omega
    · have e:L33_0 (n,some (mkP c s sums ks sp),sp,(sp.length:Int),0)=some (.inr ()):=h2
      refine⟨(0,3),?_,.no fun i q1 hc=>?_⟩
      · simp only[P33,p33,q33,p1,bind_some',decide_true,Bool.not_true,cond_false]
        dsimp only[dof,Option.getD_some,Option.isSome_some,mk_sp]
        simp only[chk_t,e,bind_some',elim_inr]
      · obtain⟨j,hj,j1,j2,j3⟩:=hq i q1 hc
        have:=h1 j hj
        rw[decide_eq_true j1,(hbf j hj).2.2 j3]at this; cases this
theorem P35_eq {l:LT}(hz:szL l)(x y n:Int):(errV l x y n≠0→P35 (l,x,y,n)=some (0,errV l x y n))∧∀ c s,AskOk l x y n c s→∃ r,P35 (l,x,y,n)=some r∧NextR l c s n r:=by
  have zc:=hz.c
  have zs:=hz.s
  constructor
  · intro h
    simp only[P35,p35,q35,P53_eq hz,bind_some',decide_eq_false h,Bool.not_false,cond_true]
  · intro c s h
    obtain⟨z1,z2,z3,z4⟩:=ask_sz hz h
    have hok:=lib_ok h.lib
    have hmn:=(comp_ok (hok.comp c h.cm).1).1
    have hn1:=h.n.1
    have hn2:=h.n.2
    have e54:=P54_eq z1 z2 z3 z4
    by_cases hmiss:missV l c s=[]
    · have d0:decide ((0:Int) < ((missV l c s).length:Int))=false:=by rw[hmiss]; rfl
      obtain⟨b,b1,b2,b3⟩:=P55_eq hz h.lib (c:=c) h.sm
      have key:∃ r,L35_0 (0,n,c,b)=some r∧NextR l c s n (Sum.elim (fun y7=>(y7.1,y7.2.1)) (fun _=>(0,3)) r):=by
        generalize hM:c.2.2.2.2.1=M at *
        refine while_relE (fun st t=>∃ (m:Nat) (row:Int),st=(row,(m:Int),c,b)∧t=10000-m∧n≤m∧m≤10000∧0≤row∧row < M∧n≤(m:Int)-row∧((m:Int)-row=n∨¬ openM l c s ((m:Int)-row-1))∧(∀ i,(m:Int)-row≤i→i < (m:Int)→openM l c s i)∧∀ i,n≤i→i+M≤(m:Int)→¬ canM l c s i) _
          ⟨n.toNat,0,by rw[show((n.toNat:Nat):Int)=n by omega],rfl,by omega,by omega,by omega,by omega,by omega,.inl (by omega),fun i q1 q2=>by omega,fun i q1 q2=>by omega⟩ (by omega) ?_
        rintro st t ⟨m,row,rfl,rfl,g1,g2,g3,g4,g5,g8,g6,g7⟩
        simp only[p35_0,q35_0]
        have fr:fits .i64 (row+1)=true:=fits_of (by omega) (by omega)
        have fm1:fits .i64 ((m:Int)-M)=true:=fits_of (by omega) (by omega)
        have fm2:fits .i64 ((m:Int)-M+1)=true:=fits_of (by omega) (by omega)
        by_cases hm:m < 10000
        · cases hb:gt b m
          · right
            have hno:¬ openM l c s (m:Int):=fun q=>by rw[(b3 m hm).2 q]at hb; cases hb
            have d1:decide (M≤0)=false:=decide_eq_false (by omega)
            simp(disch:=omega) only[ltN,b2,dT,cond_true,fr,chk_t,inR_nat,ix_gt,hb,Bool.not_false,hM,d1,cond_false,fitK,a1]
            refine⟨_,10000-(m+1),rfl,⟨m+1,0,rfl,rfl,by omega,by omega,by omega,by omega,by omega,.inr (by rw[show((m+1:Nat):Int)-0-1=(m:Int)by omega]; exact hno),fun i q1 q2=>by omega,fun i q1 q2 hc=>?_⟩,by omega⟩
            by_cases e:i+M≤(m:Int)
            · exact g7 i q1 e hc
            · exact hno (hc.2 m (by omega) (by omega))
          · have hyes:=(b3 m hm).1 hb
            by_cases hr:M≤row+1
            · left
              simp(disch:=omega) only[ltN,b2,dT,cond_true,fr,chk_t,inR_nat,ix_gt,hb,Bool.not_true,cond_false,hM,dT hr,fm1,fm2]
              refine⟨_,rfl,.at _ (by omega) ⟨hmiss,fun i q1 q2=>?_⟩ fun i q1 q2 hc=>g7 i q1 (by omega) hc⟩
              by_cases e:i=(m:Int)
              · rw[e]; exact hyes
              · exact g6 i (by omega) (by omega)
            · right
              simp(disch:=omega) only[ltN,b2,dT,cond_true,fr,chk_t,inR_nat,ix_gt,hb,Bool.not_true,cond_false,hM,dF hr,fitK,a1]
              refine⟨_,10000-(m+1),rfl,⟨m+1,row+1,rfl,rfl,by omega,by omega,by omega,by omega,by omega,by rw[show((m+1:Nat):Int)-(row+1)=(m:Int)-row by omega]; exact g8,fun i q1 q2=>?_,fun i q1 q2 hc=>?_⟩,by omega⟩
              · by_cases e:i=(m:Int)
                · rw[e]; exact hyes
                · exact g6 i (by omega) (by omega)
              · by_cases e:i+M≤(m:Int)
                · exact g7 i q1 e hc
                · by_cases e2:i+M=(m:Int)+1
                  · rcases g8 with g8 | g8
                    · omega
                    · exact g8 (hc.2 _ (by omega) (by omega))
                  · omega
        · left
          have hme:m=10000:=by omega
          subst hme
          have d1:decide (((10000:Nat):Int) < ((b.length:Nat):Int))=false:=by rw[b2]; rfl
          simp only[d1,cond_false]
          refine⟨_,rfl,.no fun i q1 hc=>?_⟩
          have:=(hc.2 (i+M-1) (by omega) (by omega)).2.1
          exact g7 i q1 (by omega) hc
      obtain⟨r,r1,r2⟩:=key
      refine⟨_,?_,r2⟩
      simp(disch:=omega) only[P35,p35,q35,P53_eq hz,bind_some',h.t,decide_true,Bool.not_true,cond_false,P19_eq,P20_eq,h.c,h.s,compV,servV,e54,d0,b1,r1]
      cases r <;> rfl
    · have hpos:0 < (missV l c s).length:=List.length_pos_iff.2 hmiss
      have d0:decide ((0:Int) < ((missV l c s).length:Int))=true:=decide_eq_true (by omega)
      refine⟨(0,3),?_,.no fun i q1 hc=>hmiss hc.1⟩
      simp(disch:=omega) only[P35,p35,q35,P53_eq hz,bind_some',h.t,decide_true,Bool.not_true,cond_false,P19_eq,P20_eq,h.c,h.s,compV,servV,e54,d0,cond_true]
end Go.Proofs.YtdacabdocbhkdaaGreat.D
