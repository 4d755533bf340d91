/- Cut down from a longer text. -/
import Derived.Test.YtdacabdocbhkdaaGreatS11o
set_option linter.unusedVariables false
set_option linter.unusedSimpArgs false
set_option linter.unusedSectionVars false
namespace Go.Proofs.YtdacabdocbhkdaaGreat.D
open Go Go.Proofs Go.Proofs.YtdacabdocbhkdaaGreat.L
def mkd (b:List Bool)(k:Nat)(n:Int):Prop:=∃ m:Nat,m < k∧n=(m:Int)∧gt b m=true
theorem mkd_succ {b:List Bool}{k:Nat}{n:Int}(h:gt b k=true):(mkd b k n∨(k:Int)≤n∧n≤(k:Int))↔mkd b (k+1) n:=by
  constructor
  · rintro(⟨m,h1,h2,h3⟩ | h')
    · exact⟨m,by omega,h2,h3⟩
    · exact⟨k,by omega,by omega,h⟩
  · rintro⟨m,h1,h2,h3⟩
    by_cases e:m=k
    · exact .inr (by omega)
    · exact .inl ⟨m,by omega,h2,h3⟩
theorem mkd_skip {b:List Bool}{k:Nat}{n:Int}(h:gt b k=false):mkd b k n↔mkd b (k+1) n:=by
  constructor
  · rintro⟨m,h1,h2,h3⟩; exact⟨m,by omega,h2,h3⟩
  · rintro⟨m,h1,h2,h3⟩
    by_cases e:m=k
    · rw[e,h]at h3; cases h3
    · exact⟨m,by omega,h2,h3⟩
theorem L30_eq {b:List Bool}(hb:b.length=10000):∃ sp,L30_0 (0,b,[])=some (b,sp)∧SpOk sp (mkd b 10000):=by
  have key:∃ y,L30_0 (0,b,[])=some y∧∃ sp,y=(b,sp)∧SpOk sp (mkd b 10000):=by
    refine while_inv 10000 (fun k s=>∃ out,s=((k:Int),b,out)∧out.length≤k∧SpOk out (mkd b k)) _ ⟨[],rfl,by simp,SpOk.nil fun n ⟨m,h,_⟩=>by omega⟩ (by omega) ?_ ?_
    · rintro k s hk ⟨out,rfl,ho,hsp⟩
      have hend:∀ x∈out,x.2 < (k:Int):=fun x hx=>by
        have hbd:=hsp.bd x hx
        obtain⟨m,m1,m2,m3⟩:=(hsp.mem x.2).2 ⟨x,hx,hbd.2.1,by omega⟩
        omega
      cases hbk:gt b k
      · simp(disch:=omega) only[p30_0,q30_0,ltN,hb,dT,cond_true,inR_nat,chk_t,ix_gt,hbk,cond_false,fitK,a1]
        exact⟨_,rfl,out,rfl,by omega,hsp.congr fun n=>mkd_skip hbk⟩
      ·
        have push:(∀ x∈out,x.2+1 < (k:Int))→SpOk (out++[((k:Int),(k:Int))]) (mkd b (k+1)):=fun h=>(hsp.push (t:=((k:Int),(k:Int))) ⟨by show 0≤(k:Int); omega,by show(k:Int)≤(k:Int); omega,by show(k:Int)≤9999; omega⟩ h).congr fun n=>mkd_succ hbk
        have hlen:(out++[((k:Int),(0:Int))]).length=out.length+1:=by simp
        have hg:gt (out++[((k:Int),(0:Int))]) out.length=((k:Int),(0:Int)):=by rw[gt_append]; simp[gt]
        have hset:List.set (out++[((k:Int),(0:Int))]) out.length ((k:Int),(k:Int))=out++[((k:Int),(k:Int))]:=by simp
        cases k with
        | zero=>
          have hout:out=[]:=List.eq_nil_of_length_eq_zero (by omega)
          subst hout
          have d0:decide (((0:Nat):Int)=0)=true:=rfl
          simp(disch:=omega) only[p30_0,q30_0,ltN,hb,dT,cond_true,inR_nat,chk_t,ix_gt,hbk,d0,List.length_singleton,List.length_nil,capOk_sm,hlen,p1,Nat.add_sub_cancel,fitK,hg,Int.toNat_natCast,hset,a1]
          exact⟨_,rfl,_,rfl,by simp,push (by simp)⟩
        | succ k=>
          have d0:decide (((k+1:Nat):Int)=0)=false:=decide_eq_false (by omega)
          cases hbp:gt b k
          · have hp:=push fun x hx=>by
              have h1:=hend x hx
              have hbd:=hsp.bd x hx
              rcases Int.lt_or_le (x.2+1) ((k+1:Nat):Int)with h2 | h2
              · exact h2
              · obtain⟨m,m1,m2,m3⟩:=(hsp.mem x.2).2 ⟨x,hx,hbd.2.1,by omega⟩
                obtain rfl:m=k:=by omega
                rw[hbp]at m3; cases m3
            simp(disch:=omega) only[p30_0,q30_0,ltN,hb,dT,cond_true,inR_nat,chk_t,ix_gt,hbk,d0,cond_false,p1,Nat.add_sub_cancel,hbp,Bool.not_false,List.length_singleton,capOk_sm,hlen,fitK,hg,Int.toNat_natCast,hset,a1]
            exact⟨_,rfl,_,rfl,by simp; omega,hp⟩
          ·
            have hm:mkd b (k+1) (k:Int):=⟨k,by omega,rfl,hbp⟩
            obtain⟨x,hx,x1,x2⟩:=(hsp.mem _).1 hm
            have hxe:=hend x hx
            rcases List.eq_nil_or_concat out with rfl | ⟨init,last,rfl⟩
            · simp at hx
            · rw[List.concat_eq_append]at *
              have hpw:=hsp.pw
              rw[List.pairwise_append]at hpw
              have hlb:=hsp.bd last (by simp)
              have hle:=hend last (by simp)
              have hl2:last.2=(k:Int):=by
                rw[List.mem_append,List.mem_singleton]at hx
                rcases hx with hx | rfl
                · have:=hpw.2.2 x hx last (by simp); omega
                · omega
              have hp:=(hsp.wide (t:=(((k+1:Nat):Int),((k+1:Nat):Int))) ⟨by show((k+1:Nat):Int)≤((k+1:Nat):Int); omega,by show((k+1:Nat):Int)≤9999; omega⟩ (by show last.1≤((k+1:Nat):Int); omega) (by show((k+1:Nat):Int)≤last.2+1; omega)).congr fun n=>mkd_succ hbk
              have hmax:max last.2 ((k+1:Nat):Int)=((k+1:Nat):Int):=by omega
              rw[show((((k+1:Nat):Int),((k+1:Nat):Int)):Sp).2=((k+1:Nat):Int)from rfl,hmax]at hp
              have hlen2:(init++[last]).length=init.length+1:=by simp
              have hg2:gt (init++[last]) init.length=last:=by rw[gt_append]; simp[gt]
              have hset2:List.set (init++[last]) init.length (last.1,((k+1:Nat):Int))=init++[(last.1,((k+1:Nat):Int))]:=by simp
              rw[hlen2]at ho
              simp(disch:=omega) only[p30_0,q30_0,ltN,hb,dT,cond_true,inR_nat,chk_t,ix_gt,hbk,d0,cond_false,p1,Nat.add_sub_cancel,hbp,Bool.not_true,hlen2,fitK,hg2,Int.toNat_natCast,hset2,a1]
              exact⟨_,rfl,_,rfl,by simp; omega,hp⟩
    · rintro s ⟨out,rfl,ho,hsp⟩
      have d:decide (((10000:Nat):Int) < ((10000:Nat):Int))=false:=rfl
      simp only[p30_0,q30_0,hb,d,cond_false]
      exact⟨_,rfl,out,rfl,hsp⟩
  obtain⟨y,y1,sp,rfl,y2⟩:=key
  exact⟨sp,y1,y2⟩
theorem mkd_open {l:LT}{c:CT}{s:VT}{b:List Bool}(h:∀ n:Nat,n < 10000→(gt b n=true↔openM l c s (n:Int)))(n:Int):mkd b 10000 n↔openM l c s n:=by
  constructor
  · rintro⟨m,h1,rfl,h3⟩; exact(h m h1).1 h3
  · intro h'
    have h1:=h'.1
    have h2:=h'.2.1
    refine⟨n.toNat,by omega,by omega,(h _ (by omega)).2 ?_⟩
    rw[show(n.toNat:Int)=n by omega]; exact h'
theorem P30_eq {l:LT}(hz:szL l)(x y:Int):(errV l x y 0≠0→P30 (l,x,y)=some (errV l x y 0,[]))∧∀ c s,AskOk l x y 0 c s→∃ sp,P30 (l,x,y)=some (0,sp)∧SpOk sp (openM l c s):=by
  have zc:=hz.c
  have zs:=hz.s
  constructor
  · intro h
    simp only[P30,p30,q30,P53_eq hz,bind_some',decide_eq_false h,Bool.not_false,cond_true]
  · intro c s h
    obtain⟨b,b1,b2,b3⟩:=P55_eq hz h.lib (c:=c) h.sm
    obtain⟨sp,s1,s2⟩:=L30_eq b2
    refine⟨sp,?_,s2.congr (mkd_open b3)⟩
    simp(disch:=omega) only[P30,p30,q30,P53_eq hz,bind_some',h.t,decide_true,Bool.not_true,cond_false,P19_eq,P20_eq,h.c,h.s,compV,servV,b1,s1]
theorem P31_refl {l:List Int}(hl:l.length≤100000):P31 (l,l)=some true:=by
  have e:L31_0 (l,l,0)=some (.inr ()):=
    while_run (step:=fun x=>p31_0 x.1 x.2.1 x.2.2) l.length (fun k=>(l,l,(k:Int))) _ (fun k hk=>by
      simp(disch:=omega) only[p31_0,q31_0,ltN,dT,cond_true,inR_nat,chk_t,ix_gt,decide_true,Bool.not_true,cond_false,fitK,a1]) (by simp(disch:=omega) only[p31_0,q31_0,ltN,dF,cond_false]) (by omega)
  simp only[P31,p31,q31,decide_true,Bool.not_true,cond_false,e,bind_some',elim_inr]
theorem P56_refl {l:List AT}(hl:l.length≤100000):P56 (l,l)=some true:=by
  have e:L56_0 (l,l,0)=some (.inr ()):=
    while_run (step:=fun x=>p56_0 x.1 x.2.1 x.2.2) l.length (fun k=>(l,l,(k:Int))) _ (fun k hk=>by
      simp(disch:=omega) only[p56_0,q56_0,ltN,dT,cond_true,inR_nat,chk_t,ix_gt,decide_true,Bool.and_self,Bool.not_true,cond_false,fitK,a1]) (by simp(disch:=omega) only[p56_0,q56_0,ltN,dF,cond_false]) (by omega)
  simp only[P56,p56,q56,decide_true,Bool.not_true,cond_false,e,bind_some',elim_inr]
theorem P57_refl {l:List KT}(hl:l.length≤1000)(hd:∀ k∈l,k.2.2.1.length≤1000):P57 (l,l)=some true:=by
  have e:L57_0 (l,l,0)=some (.inr ()):=
    while_run (step:=fun x=>p57_0 x.1 x.2.1 x.2.2) l.length (fun k=>(l,l,(k:Int))) _ (fun k hk=>by
      simp(disch:=omega) only[p57_0,q57_0,ltN,dT,cond_true,inR_nat,chk_t,ix_gt,P86_eq _ _ (hd _ (gt_mem hk)) (hd _ (gt_mem hk)),bind_some',decide_true,Bool.not_true,cond_false,fitK,a1]) (by simp(disch:=omega) only[p57_0,q57_0,ltN,dF,cond_false]) (by omega)
  simp only[P57,p57,q57,decide_true,Bool.not_true,cond_false,e,bind_some',elim_inr]
theorem P32_refl {l:LT}(hz:szL l):P32 (l,l)=some true:=by
  have za:=hz.a
  have zc:=hz.c
  have zs:=hz.s
  have zk:=hz.k
  have zr:=hz.r
  have e0:L32_0 (0,l,l)=some (.inr (l,l)):=
    while_run (step:=fun x=>p32_0 x.1 x.2.1 x.2.2) l.2.1.length (fun k=>((k:Int),l,l)) _ (fun k hk=>by
      have:=hz.ca _ (gt_mem hk)
      simp(disch:=omega) only[p32_0,q32_0,ltN,dT,cond_true,inR_nat,chk_t,ix_gt,decide_true,bne_self_eq_false,P31_refl,bind_some',Bool.not_true,cond_false,fitK,a1]) (by simp(disch:=omega) only[p32_0,q32_0,ltN,dF,cond_false]) (by omega)
  have e1:L32_1 (0,l,l)=some (.inr (l,l)):=
    while_run (step:=fun x=>p32_1 x.1 x.2.1 x.2.2) l.2.2.1.length (fun k=>((k:Int),l,l)) _ (fun k hk=>by
      have:=hz.sd _ (gt_mem hk)
      have:=hz.sf _ (gt_mem hk)
      simp(disch:=omega) only[p32_1,q32_1,ltN,dT,cond_true,inR_nat,chk_t,ix_gt,decide_true,P31_refl,P56_refl,bind_some',Bool.not_true,cond_false,fitK,a1]) (by simp(disch:=omega) only[p32_1,q32_1,ltN,dF,cond_false]) (by omega)
  simp(disch:=omega) only[P32,p32,q32,P56_refl,bind_some',decide_true,Bool.not_true,cond_false,P57_refl (show l.2.2.2.1.length≤1000 by omega) (fun k hk=>Nat.le_trans (hz.kd k hk) (by omega)),P31_refl,e0,elim_inr,e1]
theorem P39_eq (k:KT)(h:k.2.2.1.length≤1000):P39 k=some k:=by
  have c:capOk 8 (([]:List Int).length+k.2.2.1.length)=true:=capOk_sm (by omega) (by simp; omega)
  simp only[P39,p39,q39,c,chk_t,append_self]
theorem P25_eq {l:LT}(hz:szL l):P25 l=some l:=by
  have za:=hz.a
  have zc:=hz.c
  have zs:=hz.s
  have zk:=hz.k
  have zr:=hz.r
  have e0:L25_0 (0,l,l.1,[],l.2.2.2.2)=some (l,l.1,l.2.2.2.2,l.2.1.map id):=
    while_map (step:=fun x=>p25_0 x.1 x.2.1 x.2.2.1 x.2.2.2.1 x.2.2.2.2) l.2.1 id (fun k out=>((k:Int),l,l.1,out,l.2.2.2.2)) (fun out=>(l,l.1,l.2.2.2.2,out)) (fun k out hk ho=>by
      have:=hz.ca _ (gt_mem hk)
      have c:capOk 8 (([]:List Int).length+(gt l.2.1 k).2.2.2.2.2.2.length)=true:=capOk_sm (by omega) (by simp; omega)
      simp(disch:=omega) only[p25_0,q25_0,ltN,dT,cond_true,inR_nat,chk_t,ix_gt,c,List.length_singleton,capOk_sm,append_self,fitK,a1,id]) (fun out ho=>by simp(disch:=omega) only[p25_0,q25_0,ltN,dF,cond_false]) (by omega)
  have e1:L25_1 (0,l,l.1,l.2.1,[],l.2.2.2.2)=some (l,l.1,l.2.1,l.2.2.2.2,l.2.2.1.map id):=
    while_map (step:=fun x=>p25_1 x.1 x.2.1 x.2.2.1 x.2.2.2.1 x.2.2.2.2.1 x.2.2.2.2.2) l.2.2.1 id (fun k out=>((k:Int),l,l.1,l.2.1,out,l.2.2.2.2)) (fun out=>(l,l.1,l.2.1,l.2.2.2.2,out)) (fun k out hk ho=>by
      have:=hz.sd _ (gt_mem hk)
      have:=hz.sf _ (gt_mem hk)
      simp(disch:=omega) only[p25_1,q25_1,ltN,dT,cond_true,inR_nat,chk_t,ix_gt,List.length_singleton,capOk_sm,fitK,a1,id]) (fun out ho=>by simp(disch:=omega) only[p25_1,q25_1,ltN,dF,cond_false]) (by omega)
  have e2:L25_2 (0,l,l.1,l.2.1,l.2.2.1,[],l.2.2.2.2)=some (l,l.1,l.2.1,l.2.2.1,l.2.2.2.2,l.2.2.2.1.map id):=
    while_map (step:=fun x=>p25_2 x.1 x.2.1 x.2.2.1 x.2.2.2.1 x.2.2.2.2.1 x.2.2.2.2.2.1 x.2.2.2.2.2.2) l.2.2.2.1 id (fun k out=>((k:Int),l,l.1,l.2.1,l.2.2.1,out,l.2.2.2.2)) (fun out=>(l,l.1,l.2.1,l.2.2.1,l.2.2.2.2,out)) (fun k out hk ho=>by
      have:=hz.kd _ (gt_mem hk)
      simp(disch:=omega) only[p25_2,q25_2,ltN,dT,cond_true,inR_nat,chk_t,ix_gt,P39_eq,bind_some',List.length_singleton,capOk_sm,fitK,a1,id]) (fun out ho=>by simp(disch:=omega) only[p25_2,q25_2,ltN,dF,cond_false]) (by omega)
  rw[List.map_id]at e0 e1 e2
  simp(disch:=omega) only[P25,p25,q25,capOk_sm,chk_t,e0,bind_some',e1,e2]
def farV (l:LT):Bool:=!lenB l.1.length 50||(!lenB l.2.1.length 30||(!lenB l.2.2.1.length 30||(!lenB l.2.2.2.1.length 50||(!lenB l.2.2.2.2.length 50||(!(l.2.1.all fun c=>lenB c.2.2.2.2.2.2.length 50)||(!(l.2.2.1.all fun s=>lenB s.2.1.length 50&&lenB s.2.2.length 50)||!(l.2.2.2.1.all fun k=>lenB k.2.2.1.length 50)))))))
theorem gt50 (n:Nat):decide ((50:Int) < (n:Int))=!lenB n 50:=gtN n 50
theorem gt30 (n:Nat):decide ((30:Int) < (n:Int))=!lenB n 30:=gtN n 30
theorem P27_eq (l:LT):P27 l=some (farV l):=by
  unfold farV
  simp only[P27,p27,q27,gt50,gt30]
  cases lenB l.1.length 50
  · rfl
  cases h1:lenB l.2.1.length 30
  · rfl
  cases h2:lenB l.2.2.1.length 30
  · rfl
  cases h3:lenB l.2.2.2.1.length 50
  · rfl
  cases lenB l.2.2.2.2.length 50
  · rfl
  have h1':l.2.1.length≤30:=of_decide_eq_true h1
  have h2':l.2.2.1.length≤30:=of_decide_eq_true h2
  have h3':l.2.2.2.1.length≤50:=of_decide_eq_true h3
  have e0:L27_0 (0,l)=some (cond (l.2.1.all fun c=>lenB c.2.2.2.2.2.2.length 50) (.inr l) (.inl (true,l))):=by
    rw[← all_eq]
    exact while_all l.2.1.length (fun k=>((k:Int),l)) (fun k=>lenB (gt l.2.1 k).2.2.2.2.2.2.length 50) _ _ (fun k hk=>by
      simp(disch:=omega) only[p27_0,q27_0,ltN,dT,cond_true,inR_nat,chk_t,ix_gt,gt50,fitK,a1]
      cases lenB (gt l.2.1 k).2.2.2.2.2.2.length 50 <;> rfl) (by simp(disch:=omega) only[p27_0,q27_0,ltN,dF,cond_false]) (by omega)
  have e1:L27_1 (0,l)=some (cond (l.2.2.1.all fun s=>lenB s.2.1.length 50&&lenB s.2.2.length 50) (.inr l) (.inl (true,l))):=by
    rw[← all_eq]
    exact while_all l.2.2.1.length (fun k=>((k:Int),l)) (fun k=>lenB (gt l.2.2.1 k).2.1.length 50&&lenB (gt l.2.2.1 k).2.2.length 50) _ _ (fun k hk=>by
      simp(disch:=omega) only[p27_1,q27_1,ltN,dT,cond_true,inR_nat,chk_t,ix_gt,gt50,fitK,a1]
      cases lenB (gt l.2.2.1 k).2.1.length 50
      · rfl
      cases lenB (gt l.2.2.1 k).2.2.length 50 <;> rfl) (by simp(disch:=omega) only[p27_1,q27_1,ltN,dF,cond_false]) (by omega)
  have e2:L27_2 (0,l)=some (cond (l.2.2.2.1.all fun k=>lenB k.2.2.1.length 50) (.inr l) (.inl (true,l))):=by
    rw[← all_eq]
    exact while_all l.2.2.2.1.length (fun k=>((k:Int),l)) (fun k=>lenB (gt l.2.2.2.1 k).2.2.1.length 50) _ _ (fun k hk=>by
      simp(disch:=omega) only[p27_2,q27_2,ltN,dT,cond_true,inR_nat,chk_t,ix_gt,gt50,fitK,a1]
      cases lenB (gt l.2.2.2.1 k).2.2.1.length 50 <;> rfl) (by simp(disch:=omega) only[p27_2,q27_2,ltN,dF,cond_false]) (by omega)
  simp only[Bool.not_true,cond_false,e0,bind_some']
  cases l.2.1.all fun c=>lenB c.2.2.2.2.2.2.length 50
  · rfl
  simp only[cond_true,elim_inr,e1,bind_some']
  cases l.2.2.1.all fun s=>lenB s.2.1.length 50&&lenB s.2.2.length 50
  · rfl
  simp only[cond_true,elim_inr,e2,bind_some']
  cases l.2.2.2.1.all fun k=>lenB k.2.2.1.length 50 <;> rfl
theorem far_sz {l:LT}(h:farV l=false):szL l:=by
  unfold farV at h
  simp only[Bool.or_eq_false_iff,Bool.not_eq_false',List.all_eq_true,Bool.and_eq_true,lenB,decide_eq_true_eq]at h
  obtain⟨h1,h2,h3,h4,h5,h6,h7,h8⟩:=h
  exact⟨by omega,by omega,by omega,by omega,by omega,fun c hc=>Nat.le_trans (h6 c hc) (by omega),fun s hs=>Nat.le_trans (h7 s hs).1 (by omega),fun s hs=>Nat.le_trans (h7 s hs).2 (by omega),fun k hk=>Nat.le_trans (h8 k hk) (by omega)⟩
set_option maxRecDepth 100000 in
theorem works:P15 () =some true:=by kernel_rfl
end Go.Proofs.YtdacabdocbhkdaaGreat.D
