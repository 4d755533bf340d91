/- Cut down from a longer text. -/
import Derived.Test.YtdacabdocbhkdaaGreatS21u
set_option linter.unusedVariables false
set_option linter.unusedSimpArgs false
set_option linter.unusedSectionVars false
namespace Go.Proofs.YtdacabdocbhkdaaGreat.D
open Go Go.Proofs Go.Proofs.YtdacabdocbhkdaaGreat.L
def loadF (ax:List AT)(lk:List Int)(fs:List AT):List AT:=(fs.filter fun f=>!inB lk f.1)++ax.filter fun f=>inB lk f.1
def loadV (ax:List AT)(lk:List Int)(b:Int)(v:VT):VT:=cond (decide (v.1=b)) (v.1,v.2.1,loadF ax lk v.2.2) v
theorem L6_1_eq {A:List AT}{B:List CT}{S:List VT}{C:List KT}{D:List Int}{l:LT}{lk:List Int}{x:Int×Int×Int}{i:Nat}(hi:i < S.length)(hd:(gt S i).2.2.length≤1000)(hlk:lk.length≤1000):
    L6_1 ((i:Int),0,l,x,lk,[],A,B,S,C,D)=some ((i:Int),l,x,lk,A,B,S,C,D,(gt S i).2.2.filter fun f=>!inB lk f.1):=by
  have hii:inR (i:Int) S.length=true:=inR_nat hi
  have h:=while_flt (step:=fun x=>p6_1 x.1 x.2.1 x.2.2.1 x.2.2.2.1 x.2.2.2.2.1 x.2.2.2.2.2.1 x.2.2.2.2.2.2.1 x.2.2.2.2.2.2.2.1 x.2.2.2.2.2.2.2.2.1 x.2.2.2.2.2.2.2.2.2.1 x.2.2.2.2.2.2.2.2.2.2) (gt S i).2.2 (fun f=>!inB lk f.1) id (fun k out=>((i:Int),(k:Int),l,x,lk,out,A,B,S,C,D)) (fun out=>((i:Int),l,x,lk,A,B,S,C,D,out)) (fun k out hk ho=>by
      have c3:capOk 16 (out.length+([gt (gt S i).2.2 k]:List AT).length)=true:=capOk_sm (by omega) (by simp only[List.length_cons,List.length_nil]; omega)
      simp(disch:=omega) only[p6_1,q6_1,hii,chk_t,ix_gt,ltN,dT,cond_true,inR_nat,P24_eq,bind_some',c3,fitK,a1]
      cases inB lk (gt (gt S i).2.2 k).1 <;> rfl) (fun out ho=>by simp(disch:=omega) only[p6_1,q6_1,hii,chk_t,ix_gt,ltN,dF,cond_false]) (by omega)
  rw[List.map_id]at h
  exact h
theorem L6_2_eq {A:List AT}{B:List CT}{S:List VT}{C:List KT}{D:List Int}{l:LT}{lk:List Int}{x:Int×Int×Int}{i:Int}(fs:List AT)(hf:fs.length≤1000)(hd:l.1.length≤1000)(hlk:lk.length≤1000):
    L6_2 (i,0,l,x,lk,fs,A,B,S,C,D)=some (i,l,x,lk,A,B,S,C,D,fs++l.1.filter fun f=>inB lk f.1):=by
  have h:=while_flt (step:=fun x=>p6_2 x.1 x.2.1 x.2.2.1 x.2.2.2.1 x.2.2.2.2.1 x.2.2.2.2.2.1 x.2.2.2.2.2.2.1 x.2.2.2.2.2.2.2.1 x.2.2.2.2.2.2.2.2.1 x.2.2.2.2.2.2.2.2.2.1 x.2.2.2.2.2.2.2.2.2.2) l.1 (fun f=>inB lk f.1) id (fun k out=>(i,(k:Int),l,x,lk,fs++out,A,B,S,C,D)) (fun out=>(i,l,x,lk,A,B,S,C,D,fs++out)) (fun k out hk ho=>by
      have c3:capOk 16 ((fs++out).length+([gt l.1 k]:List AT).length)=true:=capOk_sm (by omega) (by simp only[List.length_append,List.length_cons,List.length_nil]; omega)
      simp(disch:=omega) only[p6_2,q6_2,chk_t,ix_gt,ltN,dT,cond_true,inR_nat,P24_eq,bind_some',c3,fitK,a1]
      cases inB lk (gt l.1 k).1
      · rfl
      · simp only[cond_true,id,List.append_assoc]) (fun out ho=>by simp(disch:=omega) only[p6_2,q6_2,chk_t,ix_gt,ltN,dF,cond_false]) (by omega)
  rw[List.map_id]at h
  rw[List.append_nil]at h
  exact h
theorem L6_0_eq {l:LT}{A:List AT}{B:List CT}{vs:List VT}{C:List KT}{D:List Int}{lk:List Int}{x:Int×Int×Int}(hl:vs.length≤1000)(hd:l.1.length≤100)(hlk:lk.length≤1000)(hf:∀ v∈vs,v.2.2.length≤100):
    ∃ S,L6_0 (0,l,x,lk,A,B,vs,C,D)=some (l,x,lk,A,B,S,C,D)∧S.length=vs.length∧∀ i,i < vs.length→gt S i=loadV l.1 lk x.2.1 (gt vs i):=by
  have key:∃ y,L6_0 (0,l,x,lk,A,B,vs,C,D)=some y∧∃ S,y=(l,x,lk,A,B,S,C,D)∧S.length=vs.length∧∀ i,i < vs.length→gt S i=loadV l.1 lk x.2.1 (gt vs i):=by
    refine while_inv vs.length (fun k st=>∃ S:List VT,st=((k:Int),l,x,lk,A,B,S,C,D)∧S.length=vs.length∧(∀ i,i < k→gt S i=loadV l.1 lk x.2.1 (gt vs i))∧∀ i,k≤i→gt S i=gt vs i) _ ⟨vs,rfl,rfl,fun i hi=>by omega,fun _ _=>rfl⟩ (by omega) ?_ ?_
    · rintro k st hk ⟨S,rfl,hm,hp,hs⟩
      have hk':k < S.length:=by rw[hm]; exact hk
      have hlS:S.length≤1000:=by rw[hm]; exact hl
      have ek:=hs k (Nat.le_refl k)
      have hfk:=hf _ (gt_mem hk)
      by_cases g1:(gt S k).1=x.2.1
      · have r1:=L6_1_eq (A:=A) (B:=B) (S:=S) (C:=C) (D:=D) (l:=l) (lk:=lk) (x:=x) hk' (by rw[ek]; omega) hlk
        have fl:=List.length_filter_le (fun f:AT=>!inB lk f.1) (gt S k).2.2
        rw[ek]at fl
        have r2:=L6_2_eq (A:=A) (B:=B) (S:=S) (C:=C) (D:=D) (l:=l) (lk:=lk) (x:=x) (i:=(k:Int)) ((gt S k).2.2.filter fun f=>!inB lk f.1) (by rw[ek]; omega) (by omega) hlk
        refine⟨_,?_,S.set k ((gt S k).1,(gt S k).2.1,((gt S k).2.2.filter fun f=>!inB lk f.1)++l.1.filter fun f=>inB lk f.1),rfl,by rw[List.length_set]; exact hm,fun i hi=>?_,fun i hi=>?_⟩
        · simp(disch:=omega) only[p6_0,q6_0,ltN,dT,cond_true,inR_nat,chk_t,ix_gt,decide_eq_true g1,Bool.not_true,cond_false,r1,bind_some',r2,fitK,a1,Int.toNat_natCast]
        · rw[gt_set _ _ _ _ hk']
          split
          · next e=>subst e; rw[ek]at g1; unfold loadV loadF; rw[decide_eq_true g1,cond_true,ek]
          · next e=>exact hp i (by omega)
        · rw[gt_set _ _ _ _ hk',if_neg (by omega)]; exact hs i (by omega)
      · refine⟨_,?_,S,rfl,hm,fun i hi=>?_,fun i hi=>hs i (by omega)⟩
        · simp(disch:=omega) only[p6_0,q6_0,ltN,dT,cond_true,inR_nat,chk_t,ix_gt,decide_eq_false g1,Bool.not_false,fitK,a1]
        · by_cases e:i=k
          · subst e; rw[ek]at g1; unfold loadV; rw[decide_eq_false g1,cond_false,ek]
          · exact hp i (by omega)
    · rintro st ⟨S,rfl,hm,hp,hs⟩
      exact⟨_,by simp(disch:=omega) only[p6_0,q6_0,ltN,dF,cond_false],S,rfl,hm,hp⟩
  obtain⟨y,y1,S,rfl,y2⟩:=key
  exact⟨S,y1,y2⟩
theorem L6_3_eq {sp:List AT}(hl:sp.length≤100000)(l o:LT)(x:Int×Int×Int):L6_3 (sp,sp,0,l,x,o)=some (.inr (l,x,o)):=
  while_run (step:=fun x=>p6_3 x.1 x.2.1 x.2.2.1 x.2.2.2.1 x.2.2.2.2.1 x.2.2.2.2.2) sp.length (fun k=>(sp,sp,(k:Int),l,x,o)) _ (fun k hk=>by
    simp(disch:=omega) only[p6_3,q6_3,ltN,dT,cond_true,inR_nat,chk_t,ix_gt,decide_true,Bool.and_self,Bool.not_true,cond_false,fitK,a1]) (by simp(disch:=omega) only[p6_3,q6_3,ltN,dF,cond_false]) (by omega)
theorem smV_app (xs ys:List AT)(a:Int):smV (xs++ys) a=if hasA xs a=true then smV xs a else smV ys a:=by
  unfold smV hasA
  rw[List.find?_append]
  rcases fix_cases xs fun x=>decide (x.1=a)with⟨k,hk,h1,h2,h3,h4,h5⟩ | ⟨h1,h2,h3,h4⟩
  · rw[h4,h5]; simp
  · rw[h3,h4]; simp
theorem smV_flt {xs:List AT}{a:Int}{p:Int→Bool}(h:p a=true):smV (xs.filter fun f=>p f.1) a=smV xs a:=by
  unfold smV
  rw[List.find?_filter]
  have:(fun x:AT=>decide (p x.1=true∧decide (x.1=a)=true))=fun x:AT=>decide (x.1=a):=by
    funext x
    rw[Bool.eq_iff_iff]
    simp only[decide_eq_true_eq]
    exact⟨fun q=>q.2,fun q=>⟨by rw[q]; exact h,q⟩⟩
  rw[this]
theorem smV_cut {xs:List AT}{a:Int}{p:Int→Bool}(h:p a=false):hasA (xs.filter fun f=>p f.1) a=false:=by
  unfold hasA
  rw[Bool.eq_false_iff]
  intro q
  obtain⟨x,hx,e⟩:=List.any_eq_true.1 q
  rw[decide_eq_true_eq]at e
  have:=(List.mem_filter.1 hx).2
  rw[e,h]at this; cases this
theorem load_miss {l:LT}{c:CT}{s:VT}(hh:∀ a∈c.2.2.2.2.2.2,hasA l.1 a=true):∀ a∈c.2.2.2.2.2.2,smV l.1 a=smV (loadF l.1 (missV l c s) s.2.2) a:=by
  intro a ha
  unfold loadF
  rw[smV_app]
  cases hi:inB (missV l c s) a
  · have hm:smV l.1 a=smV s.2.2 a:=by
      have:¬ a∈missV l c s:=fun q=>by rw[inB_iff.2 q]at hi; cases hi
      unfold missV at this
      rw[List.mem_filter]at this
      cases hd:decide (smV l.1 a=smV s.2.2 a)
      · exact absurd ⟨ha,by rw[hd]; rfl⟩ this
      · exact of_decide_eq_true hd
    have e:=smV_flt (xs:=s.2.2) (a:=a) (p:=fun i=>!inB (missV l c s) i) (by simp only[hi,Bool.not_false])
    have e2:hasA (s.2.2.filter fun f=>!inB (missV l c s) f.1) a=true:=by
      rw[← smV_has,e,← hm,smV_has]; exact hh a ha
    rw[if_pos e2,e,hm]
  · have e:=smV_cut (xs:=s.2.2) (a:=a) (p:=fun i=>!inB (missV l c s) i) (by simp only[hi,Bool.not_true])
    rw[if_neg (by rw[e]; simp),smV_flt (p:=fun i=>inB (missV l c s) i) hi]
theorem Pure.KeysLoad' (l : LT) (x : Int × Int × Int) : P6 (l, x) = some true := by
  obtain ⟨a, b, n⟩ := x
  obtain ⟨v, v1, v2⟩ := P14_eq l a b n
  cases v
  · simp only [P6, p6, q6, v1, bind_some', Bool.not_false, cond_true, works]
  · obtain ⟨hz, c, s, h⟩ := v2 rfl
    have zs := hz.s
    have hok := lib_ok h.lib
    have hco := comp_ok (hok.comp c h.cm).1
    have m1 := (P22_eq hz a b).2 c s (h.at (m := 0) (by omega))
    have m12 : (missV l c s).length ≤ 12 := by
      have h1 := List.length_filter_le (fun a => !decide (smV l.1 a = smV s.2.2 a)) c.2.2.2.2.2.2
      have h2 : c.2.2.2.2.2.2.length ≤ l.1.length := by
        have : c.2.2.2.2.2.2 ⊆ l.1.map (·.1) := fun a ha => by
          obtain ⟨y, hy, e⟩ := List.any_eq_true.1 (hco.2.2.1 a ha)
          exact List.mem_map.2 ⟨y, hy, of_decide_eq_true e⟩
        have nd : c.2.2.2.2.2.2.Nodup := hco.2.1.imp fun h => by omega
        have := List.Nodup.length_le_of_subset nd this
        rwa [List.length_map] at this
      have := hok.a12
      unfold missV; omega
    have g12 : ¬ (12 : Int) < ((missV l c s).length : Int) := by omega
    obtain ⟨S, S1, S2, S3⟩ := L6_0_eq (l := l) (A := l.1) (B := l.2.1) (vs := l.2.2.1) (C := l.2.2.2.1) (D := l.2.2.2.2) (lk := missV l c s) (x := (a, b, n)) (by omega) hz.a (by omega) hz.sf
    have hz1 : szL (l.1, l.2.1, S, l.2.2.2.1, l.2.2.2.2) := ⟨hz.a, hz.c, by rw [S2]; exact hz.s, hz.k, hz.r, hz.ca, fun v hv => by
        obtain ⟨i, hi, rfl⟩ := mem_gt hv
        rw [S3 i (by rw [← S2]; exact hi)]
        have := hz.sd _ (gt_mem (l := l.2.2.1) (i := i) (by rw [← S2]; exact hi))
        unfold loadV; cases decide ((gt l.2.2.1 i).1 = b) <;> exact this, fun v hv => by
        obtain ⟨i, hi, rfl⟩ := mem_gt hv
        rw [S3 i (by rw [← S2]; exact hi)]
        have hi' : i < l.2.2.1.length := by rw [← S2]; exact hi
        have h3 := (serv_ok (hok.serv _ (gt_mem hi')).1).2.2.1
        have h4 := List.length_filter_le (fun f : AT => !inB (missV l c s) f.1) (gt l.2.2.1 i).2.2
        have h5 := List.length_filter_le (fun f : AT => inB (missV l c s) f.1) l.1
        have h6 := hok.a12
        unfold loadV loadF; cases decide ((gt l.2.2.1 i).1 = b)
        · simp only [cond_false]; omega
        · simp only [cond_true, List.length_append]; omega, hz.kd⟩
    by_cases c1 : chkV (l.1, l.2.1, S, l.2.2.2.1, l.2.2.2.2) = 0
    · obtain ⟨i, hi, rfl, f1, f2⟩ := find_ix h.s
      have f3 : decide ((gt l.2.2.1 i).1 = b) = true := f1
      have f4 : gt S i = ((gt l.2.2.1 i).1, (gt l.2.2.1 i).2.1, loadF l.1 (missV l c (gt l.2.2.1 i)) (gt l.2.2.1 i).2.2) := by
        rw [S3 i hi]; unfold loadV; rw [f3]; rfl
      have hid : ∀ j, j < l.2.2.1.length → (gt S j).1 = (gt l.2.2.1 j).1 := fun j hj => by
        rw [S3 j hj]; unfold loadV; cases decide ((gt l.2.2.1 j).1 = (a, b, n).2.1) <;> rfl
      have h1 : AskOk (l.1, l.2.1, S, l.2.2.2.1, l.2.2.2.2) a b n c (gt S i) := ⟨c1, h.c, find_at (by rw [S2]; exact hi) (by rw [hid i hi]; exact f1) fun j hj => by rw [hid j (by omega)]; exact f2 j hj, h.n⟩
      have mz : missV (l.1, l.2.1, S, l.2.2.2.1, l.2.2.2.2) c (gt S i) = [] := by
        unfold missV
        rw [f4]
        refine List.filter_eq_nil_iff.2 fun q hq => ?_
        rw [decide_eq_true (load_miss hco.2.2.1 q hq)]; decide
      have oe : ∀ m, openM (l.1, l.2.1, S, l.2.2.2.1, l.2.2.2.2) c (gt S i) m ↔ openM l c (gt l.2.2.1 i) m := fun m => by rw [f4]; exact Iff.rfl
      have m2 := (P22_eq hz1 a b).2 c _ (h1.at (m := 0) (by omega))
      rw [mz] at m2
      obtain ⟨sp, s1, s2, s3, -, -⟩ := open_in hz h
      obtain ⟨sp', t1, t2, -, -, -⟩ := open_in hz1 h1
      obtain rfl : sp = sp' := s2.uniq t2 fun m => (oe m).symm
      obtain ⟨u, u1, u2⟩ := why_can hz h
      obtain ⟨w, w1, w2⟩ := (P17_eq hz1 a b n).2 c _ h1
      have w3 : ¬ w.1 = 1 := fun q => (w2.file_iff.1 q) mz
      have g0 : ¬ (0 : Int) < ((([] : List Int).length : Nat) : Int) := by simp
      have e3 := L6_3_eq (sp := sp) (by omega) l (l.1, l.2.1, S, l.2.2.2.1, l.2.2.2.2) (a, b, n)
      by_cases hu : u.1 = 0
      · have w0 : w.1 = 0 := (w2.can h1.mn.1).2 ⟨mz, fun m m1 m2 => (oe m).2 ((u2.1 hu).2 m m1 m2)⟩
        simp only [P6, p6, q6, v1, bind_some', Bool.not_true, cond_false, m1, decide_true, dF g12, P25_eq hz, S1, P26_eq _ hz1, c1, m2, s1, t1, dF g0, e3, elim_inr, u1, w1, cond_true, decide_eq_true hu, decide_eq_true w0, decide_eq_false w3, Bool.not_false, works]
      · simp only [P6, p6, q6, v1, bind_some', Bool.not_true, cond_false, m1, decide_true, dF g12, P25_eq hz, S1, P26_eq _ hz1, c1, m2, s1, t1, dF g0, e3, elim_inr, u1, w1, cond_true, decide_eq_false hu, decide_eq_false w3, Bool.not_false, works]
    · simp only [P6, p6, q6, v1, bind_some', Bool.not_true, cond_false, m1, decide_true, dF g12, P25_eq hz, S1, P26_eq _ hz1, decide_eq_false c1, Bool.not_false, cond_true, works]
theorem Pure.KeysLoad (l:LT)(_:Wf TyL l)(x:Int×Int×Int)(_:Wf TyA x):P6 (l,x)=some true:=Pure.KeysLoad' l x
end Go.Proofs.YtdacabdocbhkdaaGreat.D
