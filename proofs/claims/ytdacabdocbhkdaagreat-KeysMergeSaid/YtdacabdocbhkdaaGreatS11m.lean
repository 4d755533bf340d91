/- Cut down from a longer text. -/
import Derived.Test.YtdacabdocbhkdaaGreatS10m
set_option linter.unusedVariables false
set_option linter.unusedSimpArgs false
namespace Go.Proofs.YtdacabdocbhkdaaGreat.D
open Go Go.Proofs L
theorem AskOk.t {l:LT}{x y n:Int}{c:CT}{s:VT}(h:AskOk l x y n c s):errV l x y n=0:=errV_iff.2 ⟨c,s,h⟩
theorem P24_eq {l:List Int}(n:Int)(hl:l.length≤1000):P24 (l,n)=some (inB l n):=by
 have hi:inB l n=!(allB l.length fun k=>!decide (gt l k=n)):=by
  rw[all_eq (p:=fun x=>!decide (x=n)),← any_not]
  unfold inB
  congr 1
  funext x
  rw[Bool.not_not,Bool.eq_iff_iff]; simp[eq_comm]
 have e:L24_0 (l,n,0)=some (cond (allB l.length fun k=>!decide (gt l k=n)) (.inr ()) (.inl true)):=
  while_all l.length (fun k=>(l,n,(k:Int))) (fun k=>!decide (gt l k=n)) _ _ (fun k hk=>by
   simp(disch:=omega) only[p24_0,q24_0,ltN,dT,cond_true,inR_nat,chk_t,ix_gt,fitK,a1]
   cases decide (gt l k=n) <;> rfl) (by simp(disch:=omega) only[p24_0,q24_0,ltN,dF,cond_false]) (by omega)
 simp only[P24,p24,q24,e,bind_some',hi]
 cases allB l.length fun k=>!decide (gt l k=n) <;> rfl
def openM (l:LT)(c:CT)(s:VT)(n:Int):Prop:=0≤n∧n≤9999∧(c.2.2.2.2.2.1=false∨∃ k∈l.2.2.2.1,(opB s.2.1 k&&ownB l c k)=true∧k.2.2.2.1≤n∧n≤k.2.2.2.2)
end Go.Proofs.YtdacabdocbhkdaaGreat.D
