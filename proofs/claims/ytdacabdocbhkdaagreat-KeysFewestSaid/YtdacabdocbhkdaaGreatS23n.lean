/- Cut down from a longer text. -/
import Derived.Test.YtdacabdocbhkdaaGreatS18n
set_option linter.unusedVariables false
set_option linter.unusedSimpArgs false
set_option linter.unusedSectionVars false
namespace Go.Proofs.YtdacabdocbhkdaaGreat.D
open Go Go.Proofs Go.Proofs.YtdacabdocbhkdaaGreat.L
def selN (ks:List KT)(J:Nat→Bool):Nat→List KT
  | 0=>[]
  | n+1=>cond (J n) (selN ks J n++[gt ks n]) (selN ks J n)
def cntN (J:Nat→Bool):Nat→Nat
  | 0=>0
  | n+1=>cond (J n) (cntN J n+1) (cntN J n)
theorem sel_len (ks:List KT)(J:Nat→Bool):∀ n,(selN ks J n).length=cntN J n
  | 0=>rfl
  | n+1=>by
    unfold selN cntN
    cases J n
    · exact sel_len ks J n
    · simp only[cond_true,List.length_append,List.length_singleton,sel_len ks J n]
theorem cnt_le (J:Nat→Bool):∀ n,cntN J n≤n
  | 0=>Nat.le_refl _
  | n+1=>by
    have:=cnt_le J n
    unfold cntN; cases J n <;> simp only[cond_true,cond_false] <;> omega
theorem sel_mem {ks:List KT}{J:Nat→Bool}{k:KT}:∀ {n:Nat},k∈selN ks J n↔∃ i,i < n∧J i=true∧gt ks i=k
  | 0=>⟨fun h=>by simp[selN]at h,fun⟨i,h,_⟩=>by omega⟩
  | n+1=>by
    have ih:=sel_mem (ks:=ks) (J:=J) (k:=k) (n:=n)
    unfold selN
    constructor
    · intro h
      cases hJ:J n
      · rw[hJ,cond_false]at h
        obtain⟨i,h1,h2⟩:=ih.1 h
        exact⟨i,by omega,h2⟩
      · rw[hJ,cond_true,List.mem_append]at h
        rcases h with h | h
        · obtain⟨i,h1,h2⟩:=ih.1 h
          exact⟨i,by omega,h2⟩
        · exact⟨n,by omega,hJ,(List.mem_singleton.1 h).symm⟩
    · rintro⟨i,h1,h2,h3⟩
      by_cases e:i=n
      · subst e; rw[h2,cond_true]; exact List.mem_append_right _ (List.mem_singleton.2 h3.symm)
      · have:=ih.2 ⟨i,by omega,h2,h3⟩
        cases J n
        · exact this
        · exact List.mem_append_left _ this
theorem cnt_same {J J':Nat→Bool}:∀ {n:Nat},(∀ i,i < n→J i=J' i)→cntN J n=cntN J' n
  | 0,_=>rfl
  | n+1,h=>by
    unfold cntN
    rw[h n (by omega),cnt_same fun i hi=>h i (by omega)]
theorem cnt_add {J:Nat→Bool}{j:Nat}(hJ:J j=false):∀ {n:Nat},j < n→cntN (fun i=>J i||decide (i=j)) n=cntN J n+1
  | 0,h=>by omega
  | n+1,h=>by
    by_cases e:j=n
    · subst e
      have:cntN (fun i=>J i||decide (i=j)) j=cntN J j:=cnt_same fun i hi=>by rw[decide_eq_false (show ¬ i=j by omega),Bool.or_false]
      unfold cntN
      rw[this,hJ,decide_eq_true rfl]; rfl
    · have ih:=cnt_add hJ (n:=n) (by omega)
      unfold cntN
      rw[ih,decide_eq_false (show ¬ n=j by omega),Bool.or_false]
      cases J n <;> rfl
theorem mask_bits (J:Nat→Bool):∀ n,∃ b,b < 2^n∧∀ i,i < n→b.testBit i=J i
  | 0=>⟨0,by simp,fun i h=>by omega⟩
  | n+1=>by
    obtain⟨b,h1,h2⟩:=mask_bits (fun i=>J (i+1)) n
    refine⟨2*b+(J 0).toNat,?_,fun i hi=>?_⟩
    · have:(J 0).toNat≤1:=by cases J 0 <;> decide
      rw[Nat.pow_succ]; omega
    · cases i with
      | zero=>rw[Nat.testBit_zero]; cases J 0 <;> simp[Nat.add_mod]
      | succ i=>
        rw[Nat.testBit_succ,← h2 i (by omega)]
        congr 1
        cases J 0 <;> simp <;> omega
theorem bits_all:∀ b:Nat,b < 32→∀ i:Nat,i < 5→decide (band .i64 (shrI .i64 (b:Int) (i:Int)) 1=1)=b.testBit i:=by decide +kernel
theorem shl_all:∀ n:Nat,n < 6→shlI .i64 1 (n:Int)=((2^n:Nat):Int):=by decide +kernel
theorem filter_lt {α:Type}{p q:α→Bool}:∀ {l:List α},(∀ x∈l,p x=true→q x=true)→(∃ x∈l,q x=true∧p x=false)→(l.filter p).length+1≤(l.filter q).length
  | [],_,⟨x,h,_⟩=>by simp at h
  | y::l,h,⟨x,hx,h1,h2⟩=>by
    have le:∀ {l:List α},(∀ x∈l,p x=true→q x=true)→(l.filter p).length≤(l.filter q).length:=fun {l} h=>by
      induction l with
      | nil=>exact Nat.le_refl _
      | cons z l ih=>
        have:=ih fun x hx=>h x (List.mem_cons_of_mem _ hx)
        have hz:=h z (List.mem_cons_self ..)
        rw[List.filter_cons,List.filter_cons]
        cases hp:p z
        · cases q z <;> simp <;> omega
        · rw[hz hp]; simp; omega
    have hy:=h y (List.mem_cons_self ..)
    rw[List.filter_cons,List.filter_cons]
    rcases List.mem_cons.1 hx with rfl | hx
    · have:=le fun z hz=>h z (List.mem_cons_of_mem _ hz)
      rw[h1,h2]; simp; omega
    · have:=filter_lt (fun z hz=>h z (List.mem_cons_of_mem _ hz)) ⟨x,hx,h1,h2⟩
      cases hp:p y
      · cases q y <;> simp <;> omega
      · rw[hy hp]; simp; omega
abbrev withK (l:LT)(K:List KT):LT:=(l.1,l.2.1,l.2.2.1,K,l.2.2.2.2)
theorem steps_low {l:LT}{c:CT}{s:VT}{e:Int}{K:List KT}(hK:∀ k∈K,k∈l.2.2.2.1):∀ {x:Int} {k:Nat},Steps l c s e x k→(∀ i,x≤i→i < e→openM (withK l K) c s i)→k≤(K.filter fun k=>decide (x≤k.2.2.2.2)).length
  | _,_,.done h,_=>Nat.zero_le _
  | x,_,.step (f:=f) (k:=k) hl hx hf h,ho=>by
    have ih:=steps_low hK h fun i i1 i2=>ho i (by have:=hf.le; omega) i2
    rcases(ho x (Int.le_refl x) hx).2.2 with q | ⟨k0,k1,k2,k3,k4⟩
    · rw[hl]at q; cases q
    · have h5:=hf.all k0 (hK k0 k1) k2 k3
      have:=filter_lt (l:=K) (p:=fun k=>decide (f≤k.2.2.2.2)) (q:=fun k=>decide (x≤k.2.2.2.2)) (fun z hz q=>by
        rw[decide_eq_true_eq]at q ⊢; have:=hf.le; omega) ⟨k0,k1,decide_eq_true k4,decide_eq_false (by omega)⟩
      omega
theorem steps_up {l:LT}{c:CT}{s:VT}{e:Int}:∀ {x:Int} {k:Nat},Steps l c s e x k→(∀ i,x≤i→i < e→openM l c s i)→∃ J:Nat→Bool,(∀ j,J j=true→j < l.2.2.2.1.length∧x≤(gt l.2.2.2.1 j).2.2.2.2)∧cntN J l.2.2.2.1.length=k ∧
      ∀ i,x≤i→i < e→c.2.2.2.2.2.1=false∨∃ j,J j=true∧(opB s.2.1 (gt l.2.2.2.1 j)&&ownB l c (gt l.2.2.2.1 j))=true∧(gt l.2.2.2.1 j).2.2.2.1≤i∧i≤(gt l.2.2.2.1 j).2.2.2.2
  | x,_,.done h,_=>by
    refine⟨fun _=>false,fun j (q:false=true)=>Bool.noConfusion q,?_,fun i i1 i2=>?_⟩
    · have:∀ n,cntN (fun _=>false) n=0:=fun n=>by
        induction n with
        | zero=>rfl
        | succ n ih=>unfold cntN; exact ih
      exact this _
    · rcases h with h | h
      · exact .inl h
      · omega
  | x,_,.step (f:=f) (k:=k) hl hx hf h,ho=>by
    have hgt:=far_gt hl (ho x (Int.le_refl x) hx) hf
    obtain⟨J,j1,j2,j3⟩:=steps_up h fun i i1 i2=>ho i (by omega) i2
    rcases hf.ex with q | ⟨k0,k1,k2,k3,k4⟩
    · omega
    · obtain⟨j0,h0,rfl⟩:=mem_gt k1
      have hJ:J j0=false:=by
        cases hq:J j0
        · rfl
        · have:=(j1 j0 hq).2; omega
      refine⟨fun i=>J i||decide (i=j0),fun j q=>?_,by rw[cnt_add hJ h0,j2],fun i i1 i2=>?_⟩
      · rw[Bool.or_eq_true,decide_eq_true_eq]at q
        rcases q with q | rfl
        · have:=j1 j q; exact⟨this.1,by omega⟩
        · exact⟨h0,by omega⟩
      · by_cases hi:f≤i
        · rcases j3 i hi i2 with q | ⟨j,q1,q2⟩
          · exact .inl q
          · exact .inr ⟨j,show(J j||decide (j=j0))=true by rw[q1]; rfl,q2⟩
        · exact .inr ⟨j0,show(J j0||decide (j0=j0))=true by rw[decide_eq_true rfl,Bool.or_true],k2,by omega,by omega⟩
theorem P18_eq {l:LT}(hz:szL l)(h5:l.2.2.2.1.length≤5){b:Nat}(hb:b < 32):P18 (l,(b:Int))=some ((cntN b.testBit l.2.2.2.1.length:Int),withK l (selN l.2.2.2.1 b.testBit l.2.2.2.1.length)):=by
  have e0:L18_0 ((b:Int),0,0,l,l.1,l.2.1,l.2.2.1,[],l.2.2.2.2)=some ((cntN b.testBit l.2.2.2.1.length:Int),l,l.1,l.2.1,l.2.2.1,l.2.2.2.2,selN l.2.2.2.1 b.testBit l.2.2.2.1.length):=
    while_run (step:=fun x=>p18_0 x.1 x.2.1 x.2.2.1 x.2.2.2.1 x.2.2.2.2.1 x.2.2.2.2.2.1 x.2.2.2.2.2.2.1 x.2.2.2.2.2.2.2.1 x.2.2.2.2.2.2.2.2) l.2.2.2.1.length (fun k=>((b:Int),(cntN b.testBit k:Int),(k:Int),l,l.1,l.2.1,l.2.2.1,selN l.2.2.2.1 b.testBit k,l.2.2.2.2)) _ (fun k hk=>by
      have f1:fits .u64 (k:Int)=true:=fitsU (by omega) (by omega)
      have g1:(0:Int)≤(k:Int):=by omega
      have hkd:=hz.kd _ (gt_mem hk)
      have hcl:=cnt_le b.testBit k
      have hsl:=sel_len l.2.2.2.1 b.testBit k
      have f2:fits .i64 ((cntN b.testBit k:Int)+1)=true:=fits_of (by omega) (by omega)
      have c3:capOk 56 ((selN l.2.2.2.1 b.testBit k).length+([gt l.2.2.2.1 k]:List KT).length)=true:=capOk_sm (by omega) (by simp only[List.length_cons,List.length_nil]; omega)
      have hbit:=bits_all b hb k (by omega)
      cases ht:b.testBit k
      · rw[ht]at hbit
        simp(disch:=omega) only[p18_0,q18_0,ltN,dT,cond_true,f1,dT g1,chk_t,hbit,cond_false,fitK,a1,selN,cntN,ht]
      · rw[ht]at hbit
        simp(disch:=omega) only[p18_0,q18_0,ltN,dT,cond_true,f1,dT g1,chk_t,hbit,inR_nat,ix_gt,P39_eq,bind_some',c3,f2,fitK,a1,selN,cntN,ht]) (by simp(disch:=omega) only[p18_0,q18_0,ltN,dF,cond_false]) (by omega)
  simp only[P18,p18,q18,P25_eq hz,bind_some',e0]
theorem sub_ok {l:LT}(hz:szL l){K:List KT}(hK:∀ k∈K,k∈l.2.2.2.1)(hn:K.length≤l.2.2.2.1.length):szL (withK l K)∧(chkV l=0→chkV (withK l K)=0):=by
  refine⟨⟨hz.a,hz.c,hz.s,Nat.le_trans hn hz.k,hz.r,hz.ca,hz.sd,hz.sf,fun k hk=>hz.kd k (hK k hk)⟩,fun h=>?_⟩
  obtain⟨h1,h2⟩:=chkV_iff.1 h
  refine chkV_iff.2 ⟨?_,ncB_iff.2 fun k hk k' hk'=>ncB_iff.1 h2 k (hK k hk) k' (hK k' hk')⟩
  unfold libB sizB at h1 ⊢
  simp only[Bool.and_eq_true,List.all_eq_true,lenB,decide_eq_true_eq]at h1 ⊢
  obtain⟨⟨g1,g2,g3,g4,g5⟩,⟨g6,g7⟩,g8⟩:=h1
  exact⟨⟨g1,g2,g3,by omega,g5⟩,⟨fun k hk=>g6 k (hK k hk),g7⟩,g8⟩
theorem Pure.KeysFewest' (l:LT)(x:Int×Int×Int):P3 (l,x)=some true:=by
  obtain⟨a,b,n⟩:=x
  obtain⟨v,v1,v2⟩:=P14_eq l a b n
  cases v
  · simp only[P3,p3,q3,v1,bind_some',Bool.not_false,cond_true,works]
  · obtain⟨hz,c,s,h⟩:=v2 rfl
    by_cases g5:(5:Int) < (l.2.2.2.1.length:Int)
    · simp only[P3,p3,q3,v1,bind_some',Bool.not_true,cond_false,dT g5,cond_true,works]
    · have h5:l.2.2.2.1.length≤5:=by omega
      obtain⟨n1,n2⟩:=(P16_eq hz a b n).2 c s h
      obtain⟨u,u1,u2⟩:=why_can hz h
      by_cases hc:canM l c s n
      · obtain⟨k,k1,k2⟩:=n2 hc
        have u0:=u2.2 hc
        have pw:(2:Nat)^l.2.2.2.1.length≤32:=by
          have:=Nat.pow_le_pow_right (n:=2) (by omega) h5; omega
        have f1:fits .u64 (l.2.2.2.1.length:Int)=true:=fitsU (by omega) (by omega)
        have g1:(0:Int)≤(l.2.2.2.1.length:Int):=by omega
        have sub:∀ m,∀ k∈selN l.2.2.2.1 (Nat.testBit m) l.2.2.2.1.length,k∈l.2.2.2.1:=fun m k hk=>by
          obtain⟨i,i1,-,rfl⟩:=sel_mem.1 hk; exact gt_mem i1
        have sl:∀ m,(selN l.2.2.2.1 (Nat.testBit m) l.2.2.2.1.length).length≤l.2.2.2.1.length:=fun m=>by rw[sel_len]; exact cnt_le _ _
        have each:∀ m,m < 32→∃ w:Int×Int,P17 (withK l (selN l.2.2.2.1 (Nat.testBit m) l.2.2.2.1.length),a,b,n)=some (w.1,w.2,0)∧(w.1=0↔canM (withK l (selN l.2.2.2.1 (Nat.testBit m) l.2.2.2.1.length)) c s n)∧(w.1=0→k≤cntN (Nat.testBit m) l.2.2.2.1.length):=fun m hm=>by
          obtain⟨z1,z2⟩:=sub_ok hz (sub m) (sl m)
          obtain⟨w,w1,w2⟩:=why_can z1 (x:=a) (y:=b) (n:=n) (c:=c) (s:=s) ⟨z2 h.v,h.c,h.s,h.n⟩
          refine⟨w,w1,w2,fun w0=>?_⟩
          have q:=steps_low (sub m) k2 (w2.1 w0).2
          have:=List.length_filter_le (fun k:KT=>decide (n≤k.2.2.2.2)) (selN l.2.2.2.1 (Nat.testBit m) l.2.2.2.1.length)
          rw[sel_len]at this; omega
        obtain⟨J,j1,j2,j3⟩:=steps_up k2 hc.2
        obtain⟨m0,m1,m2⟩:=mask_bits J l.2.2.2.1.length
        have c0:cntN (Nat.testBit m0) l.2.2.2.1.length=k:=by rw[cnt_same m2,j2]
        have good:canM (withK l (selN l.2.2.2.1 (Nat.testBit m0) l.2.2.2.1.length)) c s n:=⟨hc.1,fun i i1 i2=>by
          have o:=hc.2 i i1 i2
          refine⟨o.1,o.2.1,?_⟩
          rcases j3 i i1 i2 with q | ⟨j,q1,q2,q3,q4⟩
          · exact .inl q
          · have hj:=(j1 j q1).1
            exact .inr ⟨gt l.2.2.2.1 j,sel_mem.2 ⟨j,hj,by rw[m2 j hj]; exact q1,rfl⟩,q2,q3,q4⟩⟩
        have key:∃ y,L3_0 ((k:Int),false,0,l,a,b,n)=some y∧y = .inr (true,l,a,b,n):=by
          refine while_inv (2^l.2.2.2.1.length) (fun m st=>∃ fd,st=((k:Int),fd,(m:Int),l,a,b,n)∧(m0 < m→fd=true)) _ ⟨false,rfl,fun q=>by omega⟩ (by omega) ?_ ?_
          · rintro m st hm ⟨fd,rfl,hfd⟩
            obtain⟨w,w1,w2,w3⟩:=each m (by omega)
            have p18:=P18_eq hz h5 (b:=m) (by omega)
            have g2:(m:Int) < ((2^l.2.2.2.1.length:Nat):Int):=by omega
            have f2:fits .i64 ((m+1:Nat):Int)=true:=fits_of (by omega) (by omega)
            have hw:m=m0→w.1=0∧(cntN (Nat.testBit m) l.2.2.2.1.length:Int)=(k:Int):=fun q=>by
              subst q; exact⟨w2.2 good,by rw[c0]⟩
            by_cases w0:w.1=0
            · have g3:¬ (cntN (Nat.testBit m) l.2.2.2.1.length:Int) < (k:Int):=by have:=w3 w0; omega
              cases fd
              · refine⟨_,?_,decide ((cntN (Nat.testBit m) l.2.2.2.1.length:Int)=(k:Int)),rfl,fun q=>?_⟩
                · simp only[p3_0,q3_0,f1,dT g1,chk_t,shl_all _ (show l.2.2.2.1.length < 6 by omega),dT g2,cond_true,p18,bind_some',w1,decide_true,Bool.not_true,cond_false,decide_eq_true w0,dF g3,a1,f2]
                · by_cases e:m=m0
                  · exact decide_eq_true (hw e).2
                  · have:=hfd (by omega); cases this
              · refine⟨_,?_,true,rfl,fun _=>rfl⟩
                simp only[p3_0,q3_0,f1,dT g1,chk_t,shl_all _ (show l.2.2.2.1.length < 6 by omega),dT g2,cond_true,p18,bind_some',w1,decide_true,Bool.not_true,cond_false,decide_eq_true w0,dF g3,a1,f2]
            · have ne:m≠m0:=fun q=>w0 (hw q).1
              cases fd
              · refine⟨_,?_,false,rfl,fun q=>hfd (by omega)⟩
                simp only[p3_0,q3_0,f1,dT g1,chk_t,shl_all _ (show l.2.2.2.1.length < 6 by omega),dT g2,cond_true,p18,bind_some',w1,decide_true,Bool.not_true,cond_false,decide_eq_false w0,a1,f2]
              · refine⟨_,?_,true,rfl,fun _=>rfl⟩
                simp only[p3_0,q3_0,f1,dT g1,chk_t,shl_all _ (show l.2.2.2.1.length < 6 by omega),dT g2,cond_true,p18,bind_some',w1,decide_true,Bool.not_true,cond_false,decide_eq_false w0,a1,f2]
          · rintro st ⟨fd,rfl,hfd⟩
            have g2:¬ ((2^l.2.2.2.1.length:Nat):Int) < ((2^l.2.2.2.1.length:Nat):Int):=by omega
            rw[hfd m1]
            exact⟨_,by simp only[p3_0,q3_0,f1,dT g1,chk_t,shl_all _ (show l.2.2.2.1.length < 6 by omega),dF g2,cond_false],rfl⟩
        obtain⟨y,y1,rfl⟩:=key
        simp only[P3,p3,q3,v1,bind_some',Bool.not_true,cond_false,dF g5,k1,u1,decide_true,decide_eq_true u0,bne_self_eq_false,y1,elim_inr,cond_true,works]
      · have u0:¬ u.1=0:=fun q=>hc (u2.1 q)
        have g0:¬ (3:Int)=0:=by omega
        simp only[P3,p3,q3,v1,bind_some',Bool.not_true,cond_false,dF g5,n1 hc,u1,decide_true,decide_eq_false u0,decide_eq_false g0,bne_self_eq_false,Bool.not_false,cond_true,works]
theorem Pure.KeysFewest (l:LT)(_:Wf TyL l)(x:Int×Int×Int)(_:Wf TyA x):P3 (l,x)=some true:=Pure.KeysFewest' l x
end Go.Proofs.YtdacabdocbhkdaaGreat.D
