/- Cut down from a longer text. -/
import Derived.Test.YtdacabdocbhkdaaGreatS17u
set_option linter.unusedVariables false
set_option linter.unusedSimpArgs false
set_option linter.unusedSectionVars false
namespace Go.Proofs.YtdacabdocbhkdaaGreat.D
open Go Go.Proofs Go.Proofs.YtdacabdocbhkdaaGreat.L
theorem AskOk.at {l:LT}{x y n m:Int}{c:CT}{s:VT}(h:AskOk l x y n c s)(hm:0≤m∧m≤9999):AskOk l x y m c s:=⟨h.v,h.c,h.s,hm⟩
theorem P14_eq (l:LT)(a b n:Int):∃ v,P14 (l,a,b,n)=some v∧(v=true→szL l∧∃ c s,AskOk l a b n c s):=by
  simp only[P14,p14,q14,P27_eq,bind_some']
  cases hf:farV l
  · have hz:=far_sz hf
    have zc:=hz.c
    have zs:=hz.s
    simp only[cond_false,P26_eq l hz,bind_some']
    by_cases h1:chkV l=0
    · by_cases h2:n < 0
      · exact⟨false,by simp only[decide_eq_true h1,Bool.not_true,cond_false,dT h2,cond_true],fun q=>nomatch q⟩
      · by_cases h3:9999 < n
        · exact⟨false,by simp only[decide_eq_true h1,Bool.not_true,cond_false,dF h2,dT h3,cond_true],fun q=>nomatch q⟩
        · refine⟨(fcV l a).isSome&&(fsV l b).isSome,?_,fun q=>⟨hz,?_⟩⟩
          · simp only[decide_eq_true h1,Bool.not_true,cond_false,dF h2,dF h3]
            rw[P19_eq _ _ (by omega),P20_eq _ _ (by omega)]
            cases fcV l a <;> cases fsV l b <;> rfl
          · cases hc:fcV l a with
            | none=>rw[hc]at q; simp at q
            | some c=>
              cases hs:fsV l b with
              | none=>rw[hc,hs]at q; simp at q
              | some s=>exact⟨c,s,h1,hc,hs,by omega,by omega⟩
    · exact⟨false,by simp only[decide_eq_false h1,Bool.not_false,cond_true],fun q=>nomatch q⟩
  · exact⟨false,rfl,fun q=>nomatch q⟩
def inSB (l:List Sp)(n:Int):Bool:=l.any fun x=>wi n x.1 x.2
theorem inSB_iff {l:List Sp}{n:Int}:inSB l n=true↔InS l n:=by
  unfold inSB InS
  rw[List.any_eq_true]
  exact⟨fun⟨x,h,q⟩=>⟨x,h,wi_iff.1 q⟩,fun⟨x,h,q⟩=>⟨x,h,wi_iff.2 q⟩⟩
theorem P23_eq {l:List Sp}(n:Int)(hl:l.length≤100000):P23 (l,n)=some (inSB l n):=by
  have hi:inSB l n=!(allB l.length fun k=>!wi n (gt l k).1 (gt l k).2):=by
    rw[all_eq (p:=fun x:Sp=>!wi n x.1 x.2),List.not_all_eq_any_not]
    simp only[Bool.not_not,inSB]
  have e:L23_0 (l,n,0)=some (cond (allB l.length fun k=>!wi n (gt l k).1 (gt l k).2) (.inr ()) (.inl true)):=
    while_all l.length (fun k=>(l,n,(k:Int))) (fun k=>!wi n (gt l k).1 (gt l k).2) _ _ (fun k hk=>by
      simp(disch:=omega) only[p23_0,q23_0,ltN,dT,cond_true,inR_nat,chk_t,ix_gt,fitK,a1,wi]
      cases decide ((gt l k).1≤n)
      · rfl
      cases decide (n≤(gt l k).2) <;> rfl) (by simp(disch:=omega) only[p23_0,q23_0,ltN,dF,cond_false]) (by omega)
  simp only[P23,p23,q23,e,bind_some',hi]
  cases allB l.length fun k=>!wi n (gt l k).1 (gt l k).2 <;> rfl
theorem AskOk.mn {l:LT}{x y n:Int}{c:CT}{s:VT}(h:AskOk l x y n c s):1≤c.2.2.2.2.1∧c.2.2.2.2.1≤400:=(comp_ok ((lib_ok h.lib).comp c h.cm).1).1
theorem why_can {l:LT}(hz:szL l){x y n:Int}{c:CT}{s:VT}(h:AskOk l x y n c s):∃ r:Int×Int,P17 (l,x,y,n)=some (r.1,r.2,0)∧(r.1=0↔canM l c s n):=by
  obtain⟨r,r1,r2⟩:=(P17_eq hz x y n).2 c s h
  exact⟨r,r1,r2.can h.mn.1⟩
end Go.Proofs.YtdacabdocbhkdaaGreat.D
