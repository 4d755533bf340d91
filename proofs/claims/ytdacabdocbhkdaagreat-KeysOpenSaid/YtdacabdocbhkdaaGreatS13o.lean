/- Cut down from a longer text. -/
import Derived.Test.YtdacabdocbhkdaaGreatS12o
import Derived.Test.YtdacabdocbhkdaaGreatB3
set_option linter.unusedVariables false
set_option linter.unusedSimpArgs false
set_option linter.unusedSectionVars false
namespace Go.Proofs.YtdacabdocbhkdaaGreat.D
open Go Go.Proofs Go.Proofs.YtdacabdocbhkdaaGreat.L
abbrev TyL : Ty := .pair (.sl (.pair (.int .i64) (.int .i64))) (.pair (.sl (.pair (.int .i64) (.pair (.int .i64) (.pair (.int .i64) (.pair (.int .i64) (.pair (.int .i64) (.pair .bool (.sl (.int .i64))))))))) (.pair (.sl (.pair (.int .i64) (.pair (.sl (.int .i64)) (.sl (.pair (.int .i64) (.int .i64)))))) (.pair (.sl (.pair (.int .i64) (.pair (.int .i64) (.pair (.sl (.int .i64)) (.pair (.int .i64) (.int .i64)))))) (.sl (.int .i64)))))
abbrev TyA : Ty := .pair (.int .i64) (.pair (.int .i64) (.int .i64))
theorem sp_ix:∀ {l:List Sp}(a:Int) ,l.Pairwise (fun x y=>x.2+1 < y.1)→(∀ x∈l,a≤x.1∧x.1≤x.2∧x.2≤9999)→(l.length:Int)≤10000-a∨l=[]
  | [],_,_,_=>.inr rfl
  | x::l,a,hp,hb=>by
    rw[List.pairwise_cons]at hp
    have hx:=hb x (by simp)
    left
    rcases sp_ix (a+1) hp.2 fun y hy=>by
      have:=hp.1 y hy
      have:=hb y (by simp[hy])
      omega with h | rfl
    · simp only[List.length_cons]; omega
    · simp only[List.length_cons,List.length_nil]; omega
theorem SpOk.len {l:List Sp}{P:Int→Prop}(h:SpOk l P):l.length≤10000:=by
  rcases sp_ix 0 h.pw fun x hx=>h.bd x hx with h | rfl
  · omega
  · simp
theorem miss_len {l:LT}(hz:szL l){c:CT}{s:VT}(hc:c∈l.2.1):(missV l c s).length≤100:=by
  have:=hz.ca c hc
  have:=List.length_filter_le (fun a=>!decide (smV l.1 a=smV s.2.2 a)) c.2.2.2.2.2.2
  unfold missV; omega
theorem Pure.KeysOpen' (l:LT)(x:Int×Int×Int):P8 (l,x)=some true:=by
  obtain⟨a,b,n⟩:=x
  simp only[P8,p8,q8,P27_eq,bind_some',works]
  cases hf:farV l
  · have hz:=far_sz hf
    have e32:=P32_refl hz
    have key:∀ (e:Int) (m:List Int) (sp:List Sp),m.length≤100→sp.length≤10000→P22 (l,a,b)=some (e,m)→P29 (l,a,b)=some (e,m)→P21 (l,a,b)=some (sp,e)→P30 (l,a,b)=some (e,sp) →
        (cond false (some true) ((P25 l).bind fun r3=>(P28 r3).bind fun r4=>(P26 l).bind fun r5=>cond (!decide (r4=r5)) (some false) ((P22 (r3,a,b)).bind fun r6=>(P29 (l,a,b)).bind fun r7=>(P21 (r3,a,b)).bind fun r8=>(P30 (l,a,b)).bind fun r9=>(P31 (r6.2,r7.2)).bind fun r10=>cond (!r10) (some false) (cond (!decide (r6.1=r7.1)) (some false) (cond (!decide ((r8.1.length:Int)=(r9.2.length:Int))) (some false) (cond (!decide (r8.2=r9.1)) (some false) ((L8_0 (r8.1,0,l,r3,r9.2)).bind fun y11=>Sum.elim (fun y12=>some y12.1) (fun y13=>(P32 (y13.2.1,y13.1)).bind fun r14=>cond r14 (some true) (some false)) y11)))))))=some true:=by
      intro e m sp hm hs k1 k2 k3 k4
      have e8:L8_0 (sp,0,l,l,sp)=some (.inr (l,l,sp)):=
        while_run (step:=fun x=>p8_0 x.1 x.2.1 x.2.2.1 x.2.2.2.1 x.2.2.2.2) sp.length (fun k=>(sp,(k:Int),l,l,sp)) _ (fun k hk=>by
          simp(disch:=omega) only[p8_0,q8_0,ltN,dT,cond_true,inR_nat,chk_t,ix_gt,decide_true,Bool.and_self,Bool.not_true,cond_false,fitK,a1]) (by simp(disch:=omega) only[p8_0,q8_0,ltN,dF,cond_false]) (by omega)
      simp(disch:=omega) only[cond_false,P25_eq hz,P28_eq l hz,P26_eq l hz,bind_some',decide_true,Bool.not_true,k1,k2,k3,k4,P31_refl,e8,elim_inr,e32,cond_true]
    by_cases h:errV l a b 0=0
    · obtain⟨c,s,hk⟩:=errV_iff.1 h
      obtain⟨sums,ks,sp,s1,s2⟩:=(P21_eq hz a b).2 c s hk
      obtain⟨sp',s3,s4⟩:=(P30_eq hz a b).2 c s hk
      have he:=s2.spM.uniq s4 fun _=>Iff.rfl
      subst he
      exact key 0 _ sp (miss_len hz hk.cm) s4.len ((P22_eq hz a b).2 c s hk) ((P29_eq hz a b).2 c s hk) s1 s3
    · exact key (errV l a b 0) [] [] (by simp) (by simp) ((P22_eq hz a b).1 h) ((P29_eq hz a b).1 h) ((P21_eq hz a b).1 h) ((P30_eq hz a b).1 h)
  · rfl
theorem Pure.KeysOpen (l : LT) (_ : Wf TyL l) (x : Int × Int × Int) (_ : Wf TyA x) : P8 (l, x) = some true := Pure.KeysOpen' l x
end Go.Proofs.YtdacabdocbhkdaaGreat.D
