/- Cut down from a longer text. -/
import Derived.Test.YtdacabdocbhkdaaGreatS17r
set_option linter.unusedVariables false
set_option linter.unusedSimpArgs false
set_option linter.unusedSectionVars false
namespace Go.Proofs.YtdacabdocbhkdaaGreat.D
open Go Go.Proofs Go.Proofs.YtdacabdocbhkdaaGreat.L
theorem AskOk.at {l:LT}{x y n m:Int}{c:CT}{s:VT}(h:AskOk l x y n c s)(hm:0≤m∧m≤9999):AskOk l x y m c s:=⟨h.v,h.c,h.s,hm⟩
theorem P14_eq (l:LT)(a b n:Int):∃ v,P14 (l,a,b,n)=some v∧(v=true→szL l∧∃ c s,AskOk l a b n c s):=by
 simp only[P14,p14,q14,P27_eq,bind_some']
 cases hf:farV l
 ·have hz:=far_sz hf
  have zc:=hz.c
  have zs:=hz.s
  simp only[cond_false,P26_eq l hz,bind_some']
  by_cases h1:chkV l=0
  ·by_cases h2:n < 0
   ·exact⟨false,by simp only[decide_eq_true h1,Bool.not_true,cond_false,dT h2,cond_true],fun q=>nomatch q⟩
   ·by_cases h3:9999 < n
    ·exact⟨false,by simp only[decide_eq_true h1,Bool.not_true,cond_false,dF h2,dT h3,cond_true],fun q=>nomatch q⟩
    ·refine⟨(fcV l a).isSome&&(fsV l b).isSome,?_,fun q=>⟨hz,?_⟩⟩
     ·simp only[decide_eq_true h1,Bool.not_true,cond_false,dF h2,dF h3]
      rw[P19_eq _ _ (by omega),P20_eq _ _ (by omega)]
      cases fcV l a <;> cases fsV l b <;> rfl
     ·cases hc:fcV l a with
      | none=>rw[hc]at q; simp at q
      | some c=>
       cases hs:fsV l b with
       | none=>rw[hc,hs]at q; simp at q
       | some s=>exact⟨c,s,h1,hc,hs,by omega,by omega⟩
  ·exact⟨false,by simp only[decide_eq_false h1,Bool.not_false,cond_true],fun q=>nomatch q⟩
 ·exact⟨false,rfl,fun q=>nomatch q⟩
theorem AskOk.mn {l:LT}{x y n:Int}{c:CT}{s:VT}(h:AskOk l x y n c s):1≤c.2.2.2.2.1∧c.2.2.2.2.1≤400:=(comp_ok ((lib_ok h.lib).comp c h.cm).1).1
end Go.Proofs.YtdacabdocbhkdaaGreat.D
