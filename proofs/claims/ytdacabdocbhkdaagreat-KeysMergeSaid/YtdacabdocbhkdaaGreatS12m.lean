/- Cut down from a longer text. -/
import Derived.Test.YtdacabdocbhkdaaGreatS11m
set_option linter.unusedVariables false
set_option linter.unusedSimpArgs false
namespace Go.Proofs.YtdacabdocbhkdaaGreat.D
open Go Go.Proofs L
theorem P31_refl {l:List Int}(hl:l.length≤100000):P31 (l,l)=some true:=by
 have e:L31_0 (l,l,0)=some (.inr ()):=
  while_run (step:=fun x=>p31_0 x.1 x.2.1 x.2.2) l.length (fun k=>(l,l,(k:Int))) _ (fun k hk=>by
   simp(disch:=omega) only[p31_0,q31_0,ltN,dT,cond_true,inR_nat,chk_t,ix_gt,decide_true,Bool.not_true,cond_false,fitK,a1]) (by simp(disch:=omega) only[p31_0,q31_0,ltN,dF,cond_false]) (by omega)
 simp only[P31,p31,q31,decide_true,Bool.not_true,cond_false,e,bind_some',elim_inr]
theorem P56_refl {l:List AT}(hl:l.length≤100000):P56 (l,l)=some true:=by
 have e:L56_0 (l,l,0)=some (.inr ()):=
  while_run (step:=fun x=>p56_0 x.1 x.2.1 x.2.2) l.length (fun k=>(l,l,(k:Int))) _ (fun k hk=>by
   simp(disch:=omega) only[p56_0,q56_0,ltN,dT,cond_true,inR_nat,chk_t,ix_gt,decide_true,Bool.and_self,Bool.not_true,cond_false,fitK,a1]) (by simp(disch:=omega) only[p56_0,q56_0,ltN,dF,cond_false]) (by omega)
 simp only[P56,p56,q56,decide_true,Bool.not_true,cond_false,e,bind_some',elim_inr]
theorem P57_refl {l:List KT}(hl:l.length≤1000)(hd:∀ k∈l,k.2.2.1.length≤1000):P57 (l,l)=some true:=by
 have e:L57_0 (l,l,0)=some (.inr ()):=
  while_run (step:=fun x=>p57_0 x.1 x.2.1 x.2.2) l.length (fun k=>(l,l,(k:Int))) _ (fun k hk=>by
   simp(disch:=omega) only[p57_0,q57_0,ltN,dT,cond_true,inR_nat,chk_t,ix_gt,P86_eq _ _ (hd _ (gt_mem hk)) (hd _ (gt_mem hk)),bind_some',decide_true,Bool.not_true,cond_false,fitK,a1]) (by simp(disch:=omega) only[p57_0,q57_0,ltN,dF,cond_false]) (by omega)
 simp only[P57,p57,q57,decide_true,Bool.not_true,cond_false,e,bind_some',elim_inr]
theorem P32_refl {l:LT}(hz:szL l):P32 (l,l)=some true:=by
 have za:=hz.a
 have zc:=hz.c
 have zs:=hz.s
 have zk:=hz.k
 have zr:=hz.r
 have e0:L32_0 (0,l,l)=some (.inr (l,l)):=
  while_run (step:=fun x=>p32_0 x.1 x.2.1 x.2.2) l.2.1.length (fun k=>((k:Int),l,l)) _ (fun k hk=>by
   have:=hz.ca _ (gt_mem hk)
   simp(disch:=omega) only[p32_0,q32_0,ltN,dT,cond_true,inR_nat,chk_t,ix_gt,decide_true,bne_self_eq_false,P31_refl,bind_some',Bool.not_true,cond_false,fitK,a1]) (by simp(disch:=omega) only[p32_0,q32_0,ltN,dF,cond_false]) (by omega)
 have e1:L32_1 (0,l,l)=some (.inr (l,l)):=
  while_run (step:=fun x=>p32_1 x.1 x.2.1 x.2.2) l.2.2.1.length (fun k=>((k:Int),l,l)) _ (fun k hk=>by
   have:=hz.sd _ (gt_mem hk)
   have:=hz.sf _ (gt_mem hk)
   simp(disch:=omega) only[p32_1,q32_1,ltN,dT,cond_true,inR_nat,chk_t,ix_gt,decide_true,P31_refl,P56_refl,bind_some',Bool.not_true,cond_false,fitK,a1]) (by simp(disch:=omega) only[p32_1,q32_1,ltN,dF,cond_false]) (by omega)
 simp(disch:=omega) only[P32,p32,q32,P56_refl,bind_some',decide_true,Bool.not_true,cond_false,P57_refl (show l.2.2.2.1.length≤1000 by omega) (fun k hk=>Nat.le_trans (hz.kd k hk) (by omega)),P31_refl,e0,elim_inr,e1]
theorem P39_eq (k:KT)(h:k.2.2.1.length≤1000):P39 k=some k:=by
 have c:capOk 8 (([]:List Int).length+k.2.2.1.length)=true:=capOk_sm (by omega) (by simp; omega)
 simp only[P39,p39,q39,c,chk_t,append_self]
theorem P25_eq {l:LT}(hz:szL l):P25 l=some l:=by
 have za:=hz.a
 have zc:=hz.c
 have zs:=hz.s
 have zk:=hz.k
 have zr:=hz.r
 have e0:L25_0 (0,l,l.1,[],l.2.2.2.2)=some (l,l.1,l.2.2.2.2,l.2.1.map id):=
  while_map (step:=fun x=>p25_0 x.1 x.2.1 x.2.2.1 x.2.2.2.1 x.2.2.2.2) l.2.1 id (fun k out=>((k:Int),l,l.1,out,l.2.2.2.2)) (fun out=>(l,l.1,l.2.2.2.2,out)) (fun k out hk ho=>by
   have:=hz.ca _ (gt_mem hk)
   have c:capOk 8 (([]:List Int).length+(gt l.2.1 k).2.2.2.2.2.2.length)=true:=capOk_sm (by omega) (by simp; omega)
   simp(disch:=omega) only[p25_0,q25_0,ltN,dT,cond_true,inR_nat,chk_t,ix_gt,c,List.length_singleton,capOk_sm,append_self,fitK,a1,id]) (fun out ho=>by simp(disch:=omega) only[p25_0,q25_0,ltN,dF,cond_false]) (by omega)
 have e1:L25_1 (0,l,l.1,l.2.1,[],l.2.2.2.2)=some (l,l.1,l.2.1,l.2.2.2.2,l.2.2.1.map id):=
  while_map (step:=fun x=>p25_1 x.1 x.2.1 x.2.2.1 x.2.2.2.1 x.2.2.2.2.1 x.2.2.2.2.2) l.2.2.1 id (fun k out=>((k:Int),l,l.1,l.2.1,out,l.2.2.2.2)) (fun out=>(l,l.1,l.2.1,l.2.2.2.2,out)) (fun k out hk ho=>by
   have:=hz.sd _ (gt_mem hk)
   have:=hz.sf _ (gt_mem hk)
   simp(disch:=omega) only[p25_1,q25_1,ltN,dT,cond_true,inR_nat,chk_t,ix_gt,List.length_singleton,capOk_sm,fitK,a1,id]) (fun out ho=>by simp(disch:=omega) only[p25_1,q25_1,ltN,dF,cond_false]) (by omega)
 have e2:L25_2 (0,l,l.1,l.2.1,l.2.2.1,[],l.2.2.2.2)=some (l,l.1,l.2.1,l.2.2.1,l.2.2.2.2,l.2.2.2.1.map id):=
  while_map (step:=fun x=>p25_2 x.1 x.2.1 x.2.2.1 x.2.2.2.1 x.2.2.2.2.1 x.2.2.2.2.2.1 x.2.2.2.2.2.2) l.2.2.2.1 id (fun k out=>((k:Int),l,l.1,l.2.1,l.2.2.1,out,l.2.2.2.2)) (fun out=>(l,l.1,l.2.1,l.2.2.1,l.2.2.2.2,out)) (fun k out hk ho=>by
   have:=hz.kd _ (gt_mem hk)
   simp(disch:=omega) only[p25_2,q25_2,ltN,dT,cond_true,inR_nat,chk_t,ix_gt,P39_eq,bind_some',List.length_singleton,capOk_sm,fitK,a1,id]) (fun out ho=>by simp(disch:=omega) only[p25_2,q25_2,ltN,dF,cond_false]) (by omega)
 rw[List.map_id]at e0 e1 e2
 simp(disch:=omega) only[P25,p25,q25,capOk_sm,chk_t,e0,bind_some',e1,e2]
def farV (l:LT):Bool:=!lenB l.1.length 50||(!lenB l.2.1.length 30||(!lenB l.2.2.1.length 30||(!lenB l.2.2.2.1.length 50||(!lenB l.2.2.2.2.length 50||(!(l.2.1.all fun c=>lenB c.2.2.2.2.2.2.length 50)||(!(l.2.2.1.all fun s=>lenB s.2.1.length 50&&lenB s.2.2.length 50)||!(l.2.2.2.1.all fun k=>lenB k.2.2.1.length 50)))))))
theorem gt50 (n:Nat):decide ((50:Int) < (n:Int))=!lenB n 50:=gtN n 50
theorem gt30 (n:Nat):decide ((30:Int) < (n:Int))=!lenB n 30:=gtN n 30
theorem P27_eq (l:LT):P27 l=some (farV l):=by
 unfold farV
 simp only[P27,p27,q27,gt50,gt30]
 cases lenB l.1.length 50
 ·rfl
 cases h1:lenB l.2.1.length 30
 ·rfl
 cases h2:lenB l.2.2.1.length 30
 ·rfl
 cases h3:lenB l.2.2.2.1.length 50
 ·rfl
 cases lenB l.2.2.2.2.length 50
 ·rfl
 have h1':l.2.1.length≤30:=of_decide_eq_true h1
 have h2':l.2.2.1.length≤30:=of_decide_eq_true h2
 have h3':l.2.2.2.1.length≤50:=of_decide_eq_true h3
 have e0:L27_0 (0,l)=some (cond (l.2.1.all fun c=>lenB c.2.2.2.2.2.2.length 50) (.inr l) (.inl (true,l))):=by
  rw[← all_eq]
  exact while_all l.2.1.length (fun k=>((k:Int),l)) (fun k=>lenB (gt l.2.1 k).2.2.2.2.2.2.length 50) _ _ (fun k hk=>by
   simp(disch:=omega) only[p27_0,q27_0,ltN,dT,cond_true,inR_nat,chk_t,ix_gt,gt50,fitK,a1]
   cases lenB (gt l.2.1 k).2.2.2.2.2.2.length 50 <;> rfl) (by simp(disch:=omega) only[p27_0,q27_0,ltN,dF,cond_false]) (by omega)
 have e1:L27_1 (0,l)=some (cond (l.2.2.1.all fun s=>lenB s.2.1.length 50&&lenB s.2.2.length 50) (.inr l) (.inl (true,l))):=by
  rw[← all_eq]
  exact while_all l.2.2.1.length (fun k=>((k:Int),l)) (fun k=>lenB (gt l.2.2.1 k).2.1.length 50&&lenB (gt l.2.2.1 k).2.2.length 50) _ _ (fun k hk=>by
   simp(disch:=omega) only[p27_1,q27_1,ltN,dT,cond_true,inR_nat,chk_t,ix_gt,gt50,fitK,a1]
   cases lenB (gt l.2.2.1 k).2.1.length 50
   ·rfl
   cases lenB (gt l.2.2.1 k).2.2.length 50 <;> rfl) (by simp(disch:=omega) only[p27_1,q27_1,ltN,dF,cond_false]) (by omega)
 have e2:L27_2 (0,l)=some (cond (l.2.2.2.1.all fun k=>lenB k.2.2.1.length 50) (.inr l) (.inl (true,l))):=by
  rw[← all_eq]
  exact while_all l.2.2.2.1.length (fun k=>((k:Int),l)) (fun k=>lenB (gt l.2.2.2.1 k).2.2.1.length 50) _ _ (fun k hk=>by
   simp(disch:=omega) only[p27_2,q27_2,ltN,dT,cond_true,inR_nat,chk_t,ix_gt,gt50,fitK,a1]
   cases lenB (gt l.2.2.2.1 k).2.2.1.length 50 <;> rfl) (by simp(disch:=omega) only[p27_2,q27_2,ltN,dF,cond_false]) (by omega)
 simp only[Bool.not_true,cond_false,e0,bind_some']
 cases l.2.1.all fun c=>lenB c.2.2.2.2.2.2.length 50
 ·rfl
 simp only[cond_true,elim_inr,e1,bind_some']
 cases l.2.2.1.all fun s=>lenB s.2.1.length 50&&lenB s.2.2.length 50
 ·rfl
 simp only[cond_true,elim_inr,e2,bind_some']
 cases l.2.2.2.1.all fun k=>lenB k.2.2.1.length 50 <;> rfl
theorem far_sz {l:LT}(h:farV l=false):szL l:=by
 unfold farV at h
 simp only[Bool.or_eq_false_iff,Bool.not_eq_false',List.all_eq_true,Bool.and_eq_true,lenB,decide_eq_true_eq]at h
 obtain⟨h1,h2,h3,h4,h5,h6,h7,h8⟩:=h
 exact⟨by omega,by omega,by omega,by omega,by omega,fun c hc=>Nat.le_trans (h6 c hc) (by omega),fun s hs=>Nat.le_trans (h7 s hs).1 (by omega),fun s hs=>Nat.le_trans (h7 s hs).2 (by omega),fun k hk=>Nat.le_trans (h8 k hk) (by omega)⟩
set_option maxRecDepth 100000 in
theorem works:P15 () =some true:=by kernel_rfl
end Go.Proofs.YtdacabdocbhkdaaGreat.D
