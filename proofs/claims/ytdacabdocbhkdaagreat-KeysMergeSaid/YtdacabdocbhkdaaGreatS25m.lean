/- Cut down from a longer text. -/
import Derived.Test.YtdacabdocbhkdaaGreatS24m
set_option linter.unusedVariables false
set_option linter.unusedSimpArgs false
namespace Go.Proofs.YtdacabdocbhkdaaGreat.D
open Go Go.Proofs L
theorem P134_eq (x y:Int):P134 (x,y)=some (decide (x < y)):=by
 have h:∀ x:Int,P162 x=some false:=fun x=>by simp only[P162,p162,q162,decide_true,Bool.not_true]
 simp only[P134,p134,q134,h,bind_some',cond_false]
theorem P66_eq {l:List Int}(hl:l.length≤250):∃ l',P66 l=some l'∧l'.Perm l∧l'.Pairwise (·≤·):=by
 obtain⟨l',h1,h2,h3⟩:=Pdq66.srt (fun x=>x) (fun _=>True) 0 trivial (fun x y _ _=>⟨_,P134_eq x y,by rw[decide_eq_true_eq]⟩) (l:=l) (fun _ _=>trivial) hl
 exact⟨l',h1,h2,sd_pw h3⟩
theorem gt_range {n k:Nat}(h:k < n):gt (List.range n) k=k:=by
 rw[gt_lt (by simpa using h)]; simp
end Go.Proofs.YtdacabdocbhkdaaGreat.D
