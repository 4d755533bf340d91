/- Cut down from a longer text. -/
import Derived.Test.YtdacabdocbhkdaaGreatS12m
import Derived.Test.YtdacabdocbhkdaaGreatB3
set_option linter.unusedVariables false
set_option linter.unusedSimpArgs false
namespace Go.Proofs.YtdacabdocbhkdaaGreat.D
open Go Go.Proofs L
abbrev TyL : Ty := .pair (.sl (.pair (.int .i64) (.int .i64))) (.pair (.sl (.pair (.int .i64) (.pair (.int .i64) (.pair (.int .i64) (.pair (.int .i64) (.pair (.int .i64) (.pair .bool (.sl (.int .i64))))))))) (.pair (.sl (.pair (.int .i64) (.pair (.sl (.int .i64)) (.sl (.pair (.int .i64) (.int .i64)))))) (.pair (.sl (.pair (.int .i64) (.pair (.int .i64) (.pair (.sl (.int .i64)) (.pair (.int .i64) (.int .i64)))))) (.sl (.int .i64)))))
theorem sp_ix:∀ {l:List Sp}(a:Int) ,l.Pairwise (fun x y=>x.2+1 < y.1)→(∀ x∈l,a≤x.1∧x.1≤x.2∧x.2≤9999)→(l.length:Int)≤10000-a∨l=[]
 | [],_,_,_=>.inr rfl
 | x::l,a,hp,hb=>by
  rw[List.pairwise_cons]at hp
  have hx:=hb x (by simp)
  left
  rcases sp_ix (a+1) hp.2 fun y hy=>by
   have:=hp.1 y hy
   have:=hb y (by simp[hy])
   omega with h | rfl
  ·simp only[List.length_cons]; omega
  ·simp only[List.length_cons,List.length_nil]; omega
theorem SpOk.len {l:List Sp}{P:Int→Prop}(h:SpOk l P):l.length≤10000:=by
 rcases sp_ix 0 h.pw fun x hx=>h.bd x hx with h | rfl
 ·omega
 ·simp
end Go.Proofs.YtdacabdocbhkdaaGreat.D
