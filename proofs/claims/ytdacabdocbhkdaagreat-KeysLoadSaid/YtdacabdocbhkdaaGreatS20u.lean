/- Cut down from a longer text. -/
import Derived.Test.YtdacabdocbhkdaaGreatS18u
set_option linter.unusedVariables false
set_option linter.unusedSimpArgs false
set_option linter.unusedSectionVars false
namespace Go.Proofs.YtdacabdocbhkdaaGreat.D
open Go Go.Proofs Go.Proofs.YtdacabdocbhkdaaGreat.L
theorem open_in {l : LT} (hz : szL l) {x y n : Int} {c : CT} {s : VT} (h : AskOk l x y n c s) : ∃ sp, P21 (l, x, y) = some (sp, 0) ∧ SpOk sp (openM l c s) ∧ sp.length ≤ 20 ∧ P23 (sp, n) = some (inSB sp n) ∧ (inSB sp n = true ↔ openM l c s n) := by
  obtain ⟨sums, ks, sp, s1, s2⟩ := (P21_eq hz x y).2 c s (h.at (m := 0) (by omega))
  have s3 := s2.spl
  exact ⟨sp, s1, s2.spM, s3, P23_eq n (by omega), by rw [inSB_iff]; exact (s2.spM.mem n).symm⟩
theorem Pure.KeysMore' (l:LT)(k:KT)(x:Int×Int×Int):P5 (l,k,x)=some true:=by
  obtain⟨a,b,n⟩:=x
  obtain⟨v,v1,v2⟩:=P14_eq l a b n
  cases v
  · simp only[P5,p5,q5,v1,bind_some',Bool.not_false,cond_true,works]
  · obtain⟨hz,c,s,h⟩:=v2 rfl
    by_cases g1:(50:Int) < (k.2.2.1.length:Int)
    · simp only[P5,p5,q5,v1,bind_some',Bool.not_true,cond_false,dT g1,cond_true,works]
    by_cases g2:(20:Int)≤(l.2.2.2.1.length:Int)
    · simp only[P5,p5,q5,v1,bind_some',Bool.not_true,cond_false,dF g1,dT g2,cond_true,works]
    by_cases g3:(20:Int)≤(l.2.2.2.2.length:Int)
    · simp only[P5,p5,q5,v1,bind_some',Bool.not_true,cond_false,dF g1,dF g2,dT g3,cond_true,works]
    have hz1:szL (l.1,l.2.1,l.2.2.1,l.2.2.2.1++[k],l.2.2.2.2):=⟨hz.a,hz.c,hz.s,by simp only[List.length_append,List.length_cons,List.length_nil]; omega,hz.r,hz.ca,hz.sd,hz.sf,fun k' hk'=>by
      rcases List.mem_append.1 hk' with q | q
      · exact hz.kd k' q
      · rw[List.mem_singleton.1 q]; omega⟩
    have hz2:szL (l.1,l.2.1,l.2.2.1,l.2.2.2.1,l.2.2.2.2++[k.1]):=⟨hz.a,hz.c,hz.s,hz.k,by simp only[List.length_append,List.length_cons,List.length_nil]; omega,hz.ca,hz.sd,hz.sf,hz.kd⟩
    have k1:capOk 56 (l.2.2.2.1.length+([k]:List KT).length)=true:=capOk_sm (by omega) (by simp only[List.length_cons,List.length_nil]; omega)
    have k2:capOk 8 (l.2.2.2.2.length+([k.1]:List Int).length)=true:=capOk_sm (by omega) (by simp only[List.length_cons,List.length_nil]; omega)
    by_cases c1:chkV (l.1,l.2.1,l.2.2.1,l.2.2.2.1++[k],l.2.2.2.2)=0
    · by_cases c2:chkV (l.1,l.2.1,l.2.2.1,l.2.2.2.1,l.2.2.2.2++[k.1])=0
      · have h1:AskOk (l.1,l.2.1,l.2.2.1,l.2.2.2.1++[k],l.2.2.2.2) a b n c s:=⟨c1,h.c,h.s,h.n⟩
        have h2:AskOk (l.1,l.2.1,l.2.2.1,l.2.2.2.1,l.2.2.2.2++[k.1]) a b n c s:=⟨c2,h.c,h.s,h.n⟩
        have o1:∀ i,openM l c s i→openM (l.1,l.2.1,l.2.2.1,l.2.2.2.1++[k],l.2.2.2.2) c s i:=by
          rintro i ⟨i1,i2,i3⟩
          refine⟨i1,i2,?_⟩
          rcases i3 with i3 | ⟨k',k1,k2⟩
          · exact .inl i3
          · exact .inr ⟨k',List.mem_append_left _ k1,k2⟩
        have o2:∀ i,openM (l.1,l.2.1,l.2.2.1,l.2.2.2.1,l.2.2.2.2++[k.1]) c s i→openM l c s i:=by
          rintro i ⟨i1,i2,i3⟩
          refine⟨i1,i2,?_⟩
          rcases i3 with i3 | ⟨k',k1,k2,k3⟩
          · exact .inl i3
          · refine .inr ⟨k',k1,?_,k3⟩
            rw[Bool.and_eq_true]at k2 ⊢
            refine⟨k2.1,?_⟩
            have k4:=k2.2
            unfold ownB at k4 ⊢
            rw[Bool.and_eq_true]at k4 ⊢
            refine⟨k4.1,?_⟩
            cases hi:inB l.2.2.2.2 k'.1
            · rfl
            · have:inB (l.2.2.2.2++[k.1]) k'.1=true:=inB_iff.2 (List.mem_append_left _ (inB_iff.1 hi))
              exact absurd k4.2 (by dsimp only; rw[this]; simp)
        obtain⟨u,u1,u2⟩:=why_can hz h
        obtain⟨u',u1',u2'⟩:=why_can hz1 h1
        obtain⟨u'',u1'',u2''⟩:=why_can hz2 h2
        obtain⟨sp,s1,-,-,s4,s5⟩:=open_in hz h
        obtain⟨sp',s1',-,-,s4',s5'⟩:=open_in hz1 h1
        obtain⟨sp'',s1'',-,-,s4'',s5''⟩:=open_in hz2 h2
        have A:inSB sp n=true→inSB sp' n=true:=fun q=>s5'.2 (o1 n (s5.1 q))
        have B:inSB sp'' n=true→inSB sp n=true:=fun q=>s5.2 (o2 n (s5''.1 q))
        have C:decide (u.1=0)=true→decide (u'.1=0)=true:=fun q=>by
          rw[decide_eq_true_eq]at q ⊢
          have q:=u2.1 q
          exact u2'.2 ⟨q.1,fun i i1 i2=>o1 i (q.2 i i1 i2)⟩
        have D:decide (u''.1=0)=true→decide (u.1=0)=true:=fun q=>by
          rw[decide_eq_true_eq]at q ⊢
          have q:=u2''.1 q
          exact u2.2 ⟨q.1,fun i i1 i2=>o2 i (q.2 i i1 i2)⟩
        simp only[P5,p5,q5,v1,bind_some',Bool.not_true,cond_false,dF g1,dF g2,dF g3,P25_eq hz,k1,k2,chk_t,P26_eq _ hz1,P26_eq _ hz2,c1,c2,decide_true,u1,u1',u1'',s1,s1',s1'',s4,s4',s4'',works]
        revert A B C D
        generalize inSB sp n=b1
        generalize inSB sp' n=b2
        generalize inSB sp'' n=b3
        generalize decide (u.1=0)=d1
        generalize decide (u'.1=0)=d2
        generalize decide (u''.1=0)=d3
        intro A B C D
        cases b1 <;> cases b2 <;> cases b3 <;> cases d1 <;> cases d2 <;> cases d3 <;> first | rfl | exact Bool.noConfusion (A rfl) | exact Bool.noConfusion (B rfl) | exact Bool.noConfusion (C rfl) | exact Bool.noConfusion (D rfl)
      · simp only[P5,p5,q5,v1,bind_some',Bool.not_true,cond_false,dF g1,dF g2,dF g3,P25_eq hz,k1,k2,chk_t,P26_eq _ hz1,P26_eq _ hz2,c1,dF c2,decide_true,Bool.not_false,cond_true,works]
    · simp only[P5,p5,q5,v1,bind_some',Bool.not_true,cond_false,dF g1,dF g2,dF g3,P25_eq hz,k1,k2,chk_t,P26_eq _ hz1,dF c1,Bool.not_false,cond_true,works]
theorem Pure.KeysMore (l:LT)(_:Wf TyL l)(k:KT)(_:Wf (.pair (.int .i64) (.pair (.int .i64) (.pair (.sl (.int .i64)) (.pair (.int .i64) (.int .i64))))) k)(x:Int×Int×Int)(_:Wf TyA x):P5 (l,k,x)=some true:=Pure.KeysMore' l k x
end Go.Proofs.YtdacabdocbhkdaaGreat.D
