/- Cut down from a longer text. -/
import Derived.Test.YtdacabdocbhkdaaGreatS20u
set_option linter.unusedVariables false
set_option linter.unusedSimpArgs false
set_option linter.unusedSectionVars false
namespace Go.Proofs.YtdacabdocbhkdaaGreat.D
open Go Go.Proofs Go.Proofs.YtdacabdocbhkdaaGreat.L
theorem find_ix {α:Type}[Inhabited α]{l:List α}{p:α→Bool}{x:α}(h:l.find? p=some x):∃ i,i < l.length∧gt l i=x∧p (gt l i)=true∧∀ j,j < i→p (gt l j)=false:=by
  rcases fix_cases l p with⟨k,hk,h1,h2,-,h4,-⟩ | ⟨-,-,h3,-⟩
  · rw[h4]at h; injection h with h; exact⟨k,hk,h,h1,h2⟩
  · rw[h3]at h; cases h
structure MoreD (b:Int) (vs S:List VT):Prop where
  len:S.length=vs.length
  id:∀ i,(gt S i).1=(gt vs i).1
  fl:∀ i,(gt S i).2.2=(gt vs i).2.2
  sub:∀ i,∀ d∈(gt vs i).2.1,d∈(gt S i).2.1
  dl:∀ i,(gt S i).2.1.length≤100
theorem MoreD.find {b:Int}{vs S:List VT}(h:MoreD b vs S){s:VT}(hs:vs.find? (fun s=>decide (s.1=b))=some s):∃ s',S.find? (fun s=>decide (s.1=b))=some s'∧s'.2.2=s.2.2∧∀ d∈s.2.1,d∈s'.2.1:=by
  obtain⟨i,hi,rfl,h1,h2⟩:=find_ix hs
  refine⟨gt S i,find_at (by rw[h.len]; exact hi) (by rw[h.id]; exact h1) fun j hj=>by rw[h.id]; exact h2 j hj,h.fl i,h.sub i⟩
theorem L7_1_eq {A:List AT}{B:List CT}{S:List VT}{C:List KT}{D:List Int}{dv:Int}{sp:List AT}{x:Int×Int×Int}{i:Nat}(hi:i < S.length)(hd:(gt S i).2.1.length≤50):
    ∃ r,L7_1 (dv,sp,(i:Int),0,x,[],A,B,S,C,D)=some (dv,sp,(i:Int),x,A,B,S,C,D,r)∧(∀ d∈(gt S i).2.1,d∈r)∧r.length≤2*(gt S i).2.1.length:=by
  have hii:inR (i:Int) S.length=true:=inR_nat hi
  have key:∃ y,L7_1 (dv,sp,(i:Int),0,x,[],A,B,S,C,D)=some y∧∃ r,y=(dv,sp,(i:Int),x,A,B,S,C,D,r)∧(∀ d∈(gt S i).2.1,d∈r)∧r.length≤2*(gt S i).2.1.length:=by
    refine while_inv (gt S i).2.1.length (fun k st=>∃ r:List Int,st=(dv,sp,(i:Int),(k:Int),x,r,A,B,S,C,D)∧(∀ j,j < k→gt (gt S i).2.1 j∈r)∧r.length≤2*k) _ ⟨[],rfl,fun j hj=>by omega,by simp⟩ (by omega) ?_ ?_
    · rintro k st hk ⟨r,rfl,q1,q2⟩
      have c1:capOk 8 (r.length+([dv]:List Int).length)=true:=capOk_sm (by omega) (by simp only[List.length_cons,List.length_nil]; omega)
      have c2:capOk 8 ((r++([dv]:List Int)).length+([gt (gt S i).2.1 k]:List Int).length)=true:=capOk_sm (by omega) (by simp only[List.length_append,List.length_cons,List.length_nil]; omega)
      have c3:capOk 8 (r.length+([gt (gt S i).2.1 k]:List Int).length)=true:=capOk_sm (by omega) (by simp only[List.length_cons,List.length_nil]; omega)
      have t1:∃ st',some (Sum.inl (dv,sp,(i:Int),((k+1:Nat):Int),x,(r++[dv])++[gt (gt S i).2.1 k],A,B,S,C,D))=some (Sum.inl (β:=Int×List AT×Int×(Int×Int×Int)×List AT×List CT×List VT×List KT×List Int×List Int) st')∧∃ r:List Int,st'=(dv,sp,(i:Int),((k+1:Nat):Int),x,r,A,B,S,C,D)∧(∀ j,j < k+1→gt (gt S i).2.1 j∈r)∧r.length≤2*(k+1):=by
        refine⟨_,rfl,_,rfl,fun j hj=>?_,by simp only[List.length_append,List.length_cons,List.length_nil]; omega⟩
        by_cases e:j=k
        · subst e; simp
        · exact List.mem_append_left _ (List.mem_append_left _ (q1 j (by omega)))
      have t2:∃ st',some (Sum.inl (dv,sp,(i:Int),((k+1:Nat):Int),x,r++[gt (gt S i).2.1 k],A,B,S,C,D))=some (Sum.inl (β:=Int×List AT×Int×(Int×Int×Int)×List AT×List CT×List VT×List KT×List Int×List Int) st')∧∃ r:List Int,st'=(dv,sp,(i:Int),((k+1:Nat):Int),x,r,A,B,S,C,D)∧(∀ j,j < k+1→gt (gt S i).2.1 j∈r)∧r.length≤2*(k+1):=by
        refine⟨_,rfl,_,rfl,fun j hj=>?_,by simp only[List.length_append,List.length_cons,List.length_nil]; omega⟩
        by_cases e:j=k
        · subst e; simp
        · exact List.mem_append_left _ (q1 j (by omega))
      by_cases g1:dv < gt (gt S i).2.1 k
      · by_cases g2:k=0
        · have g3:(k:Int)=0:=by omega
          simp(disch:=omega) only[p7_1,q7_1,hii,chk_t,ix_gt,ltN,dT,cond_true,inR_nat,dT g1,decide_eq_true g3,c1,c2,fitK,a1]
          exact t1
        · have g3:¬ (k:Int)=0:=by omega
          have f1:fits .i64 ((k-1:Nat):Int)=true:=fits_of (by omega) (by omega)
          by_cases g4:gt (gt S i).2.1 (k-1) < dv
          · simp(disch:=omega) only[p7_1,q7_1,hii,chk_t,ix_gt,ltN,dT,cond_true,inR_nat,dT g1,decide_eq_false g3,cond_false,p1,f1,dT g4,c1,c2,fitK,a1]
            exact t1
          · simp(disch:=omega) only[p7_1,q7_1,hii,chk_t,ix_gt,ltN,dT,cond_true,inR_nat,dT g1,decide_eq_false g3,cond_false,p1,f1,dF g4,c3,fitK,a1]
            exact t2
      · simp(disch:=omega) only[p7_1,q7_1,hii,chk_t,ix_gt,ltN,dT,cond_true,inR_nat,dF g1,cond_false,c3,fitK,a1]
        exact t2
    · rintro st ⟨r,rfl,q1,q2⟩
      simp(disch:=omega) only[p7_1,q7_1,hii,chk_t,ix_gt,ltN,dF,cond_false]
      refine⟨_,rfl,r,rfl,fun d hd=>?_,q2⟩
      obtain⟨j,hj,rfl⟩:=mem_gt hd
      exact q1 j hj
  obtain⟨y,y1,r,rfl,y2⟩:=key
  exact⟨r,y1,y2⟩
theorem L7_0_eq {A:List AT}{B:List CT}{vs:List VT}{C:List KT}{D:List Int}{dv:Int}{sp:List AT}{x:Int×Int×Int}(hl:vs.length≤1000)(hd:∀ v∈vs,1≤v.2.1.length∧v.2.1.length≤6):
    ∃ S,L7_0 (dv,sp,0,x,A,B,vs,C,D)=some (sp,x,A,B,S,C,D)∧MoreD x.2.1 vs S:=by
  have key:∃ y,L7_0 (dv,sp,0,x,A,B,vs,C,D)=some y∧∃ S,y=(sp,x,A,B,S,C,D)∧MoreD x.2.1 vs S:=by
    refine while_inv vs.length (fun k st=>∃ S,st=(dv,sp,(k:Int),x,A,B,S,C,D)∧MoreD x.2.1 vs S∧∀ i,k≤i→gt S i=gt vs i) _ ⟨vs,rfl,⟨rfl,fun _=>rfl,fun _=>rfl,fun _ _ h=>h,fun i=>?_⟩,fun _ _=>rfl⟩ (by omega) ?_ ?_
    · by_cases hi:i < vs.length
      · have:=hd _ (gt_mem hi); omega
      · rw[gt_ge (by omega)]; exact Nat.zero_le _
    · rintro k st hk ⟨S,rfl,hm,hs⟩
      have hk':k < S.length:=by rw[hm.len]; exact hk
      have hlS:S.length≤1000:=by rw[hm.len]; exact hl
      have ek:=hs k (Nat.le_refl k)
      have hdk:=hd _ (gt_mem hk)
      by_cases g1:(gt S k).1=x.2.1
      · obtain⟨r,r1,r2,r3⟩:=L7_1_eq (A:=A) (B:=B) (S:=S) (C:=C) (D:=D) (dv:=dv) (sp:=sp) (x:=x) hk' (by rw[ek]; omega)
        rw[ek]at r2 r3
        have hr:1≤r.length:=by
          have:=r2 _ (gt_mem (l:=(gt vs k).2.1) (i:=0) (by omega))
          exact List.length_pos_of_mem this
        have e1:(r.length:Int)-1=((r.length-1:Nat):Int):=by omega
        have f1:fits .i64 ((r.length-1:Nat):Int)=true:=fits_of (by omega) (by omega)
        have i1:inR ((r.length-1:Nat):Int) r.length=true:=inR_nat (by omega)
        have c1:capOk 8 (r.length+([dv]:List Int).length)=true:=capOk_sm (by omega) (by simp only[List.length_cons,List.length_nil]; omega)
        have put:∀ r':List Int,(∀ d∈(gt vs k).2.1,d∈r')→r'.length≤100→MoreD x.2.1 vs (S.set k ((gt S k).1,r',(gt S k).2.2))∧∀ i,k+1≤i→gt (S.set k ((gt S k).1,r',(gt S k).2.2)) i=gt vs i:=fun r' h1 h2=>by
          have hg:=fun i=>gt_set S k i ((gt S k).1,r',(gt S k).2.2) hk'
          refine⟨⟨by rw[List.length_set]; exact hm.len,fun i=>?_,fun i=>?_,fun i=>?_,fun i=>?_⟩,fun i hi=>?_⟩
          · rw[hg]; split
            · next e=>subst e; exact hm.id k
            · exact hm.id i
          · rw[hg]; split
            · next e=>subst e; exact hm.fl k
            · exact hm.fl i
          · rw[hg]; split
            · next e=>subst e; exact h1
            · exact hm.sub i
          · rw[hg]; split
            · exact h2
            · exact hm.dl i
          · rw[hg,if_neg (by omega)]; exact hs i (by omega)
        by_cases g2:gt r (r.length-1) < dv
        · refine⟨_,?_,_,rfl,put (r++[dv]) (fun d q=>List.mem_append_left _ (r2 d q)) (by simp only[List.length_append,List.length_cons,List.length_nil]; omega)⟩
          simp(disch:=omega) only[p7_0,q7_0,ltN,dT,cond_true,inR_nat,chk_t,ix_gt,decide_eq_true g1,Bool.not_true,cond_false,r1,bind_some',e1,f1,i1,dT g2,c1,fitK,a1,Int.toNat_natCast]
        · refine⟨_,?_,_,rfl,put r r2 (by omega)⟩
          simp(disch:=omega) only[p7_0,q7_0,ltN,dT,cond_true,inR_nat,chk_t,ix_gt,decide_eq_true g1,Bool.not_true,cond_false,r1,bind_some',e1,f1,i1,dF g2,fitK,a1,Int.toNat_natCast]
      · refine⟨_,?_,S,rfl,hm,fun i hi=>hs i (by omega)⟩
        simp(disch:=omega) only[p7_0,q7_0,ltN,dT,cond_true,inR_nat,chk_t,ix_gt,decide_eq_false g1,Bool.not_false,fitK,a1]
    · rintro st ⟨S,rfl,hm,hs⟩
      have:S.length=vs.length:=hm.len
      exact⟨_,by simp(disch:=omega) only[p7_0,q7_0,ltN,dF,cond_false],S,rfl,hm⟩
  obtain⟨y,y1,S,rfl,y2⟩:=key
  exact⟨S,y1,y2⟩
theorem all_day {l:LT}{c:CT}{s:VT}(h:c.2.2.2.2.2.1=false):SpOk [((0:Int),(9999:Int))] (openM l c s):=by
  refine⟨by simp,fun x hx=>by rw[List.mem_singleton.1 hx]; decide,fun n=>⟨fun q=>⟨_,List.mem_singleton.2 rfl,q.1,q.2.1⟩,?_⟩⟩
  rintro⟨x,hx,q1,q2⟩
  rw[List.mem_singleton.1 hx]at q1 q2
  exact⟨q1,q2,.inl h⟩
theorem Pure.KeysDevice' (l:LT)(d:Int)(x:Int×Int×Int):P7 (l,d,x)=some true:=by
  obtain⟨a,b,n⟩:=x
  obtain⟨v,v1,v2⟩:=P14_eq l a b n
  cases v
  · simp only[P7,p7,q7,v1,bind_some',Bool.not_false,cond_true,works]
  · obtain⟨hz,c,s,h⟩:=v2 rfl
    have zc:=hz.c
    have zs:=hz.s
    have c4:P19 (l,a)=some (c,true):=by rw[P19_eq _ _ (by omega),h.c]; rfl
    obtain⟨sp,s1,s2,-,s4,s5⟩:=open_in hz h
    have hok:=lib_ok h.lib
    obtain⟨S,S1,S2⟩:=L7_0_eq (A:=l.1) (B:=l.2.1) (C:=l.2.2.2.1) (D:=l.2.2.2.2) (dv:=d) (sp:=sp) (x:=(a,b,n)) (vs:=l.2.2.1) (by omega) fun v hv=>by
      have:=serv_ok (hok.serv v hv).1; exact⟨this.1,this.2.1⟩
    have hz1:szL (l.1,l.2.1,S,l.2.2.2.1,l.2.2.2.2):=⟨hz.a,hz.c,by rw[S2.len]; exact hz.s,hz.k,hz.r,hz.ca,fun v hv=>by
        obtain⟨i,hi,rfl⟩:=mem_gt hv; exact S2.dl i,fun v hv=>by
        obtain⟨i,hi,rfl⟩:=mem_gt hv; rw[S2.fl]; exact hz.sf _ (gt_mem (by rw[← S2.len]; exact hi)),hz.kd⟩
    have fin:((P26 (l.1,l.2.1,S,l.2.2.2.1,l.2.2.2.2)).bind fun r17=>cond (!decide (r17=0)) (some true) ((P21 ((l.1,l.2.1,S,l.2.2.2.1,l.2.2.2.2),a,b)).bind fun r19=>cond (decide (r19.2=0)) ((P23 (r19.1,n)).bind fun r20=>cond (!r20) (some true) ((P23 (sp,n)).bind fun r22=>cond r22 (some true) (some false))) (some false)))=some true:=by
      by_cases c1:chkV (l.1,l.2.1,S,l.2.2.2.1,l.2.2.2.2)=0
      · obtain⟨s',f1,f2,f3⟩:=S2.find h.s
        have h1:AskOk (l.1,l.2.1,S,l.2.2.2.1,l.2.2.2.2) a b n c s':=⟨c1,h.c,f1,h.n⟩
        obtain⟨sp',t1,t2,-,t4,t5⟩:=open_in hz1 h1
        simp only[P26_eq _ hz1,bind_some',c1,decide_true,Bool.not_true,cond_false,t1,cond_true,t4,s4]
        cases ht:inSB sp' n
        · rfl
        · have o:=t5.1 ht
          have:inSB sp n=true:=s5.2 ⟨o.1,o.2.1,by
            rcases o.2.2 with q | ⟨k,k1,k2,k3⟩
            · exact .inl q
            · refine .inr ⟨k,k1,?_,k3⟩
              rw[Bool.and_eq_true]at k2 ⊢
              refine⟨?_,k2.2⟩
              have k4:=k2.1
              unfold opB at k4 ⊢
              rw[List.all_eq_true]at k4 ⊢
              exact fun d hd=>k4 d (f3 d hd)⟩
          rw[this]; rfl
      · simp only[P26_eq _ hz1,bind_some',decide_eq_false c1,Bool.not_false,cond_true]
    cases hl:c.2.2.2.2.2.1
    · obtain rfl:sp=[(0,9999)]:=s2.uniq (all_day hl) fun _=>Iff.rfl
      simp only[P7,p7,q7,v1,bind_some',Bool.not_true,cond_false,c4,s1,decide_true,hl,Bool.not_false,cond_true,List.length_singleton,P25_eq hz,S1,works]
      exact fin
    · simp only[P7,p7,q7,v1,bind_some',Bool.not_true,cond_false,c4,s1,decide_true,hl,P25_eq hz,S1,works]
      exact fin
theorem Pure.KeysDevice (l:LT)(_:Wf TyL l)(d:Int)(_:Wf (.int .i64) d)(x:Int×Int×Int)(_:Wf TyA x):P7 (l,d,x)=some true:=Pure.KeysDevice' l d x
end Go.Proofs.YtdacabdocbhkdaaGreat.D
