/- Cut down from a longer text. -/
import Derived.Test.YtdacabdocbhkdaaGreatS14m
set_option linter.unusedVariables false
set_option linter.unusedSimpArgs false
namespace Go.Proofs.YtdacabdocbhkdaaGreat.D
open Go Go.Proofs L
def FirstK (l:LT)(c:CT)(k:Nat)(f:Int):Prop:=(f = -1∧∀ j,j < k→ownB l c (gt l.2.2.2.1 j)=false) ∨
 ∃ i:Nat,i < k∧f=(i:Int)∧ownB l c (gt l.2.2.2.1 i)=true∧∀ j,j < k→ownB l c (gt l.2.2.2.1 j)=true→(gt l.2.2.2.1 i).1≤(gt l.2.2.2.1 j).1
theorem FirstK.take {l:LT}{c:CT}{k:Nat}{f:Int}(h:FirstK l c k f)(ho:ownB l c (gt l.2.2.2.1 k)=true)(hf:f < 0∨∃ i:Nat,f=(i:Int)∧(gt l.2.2.2.1 k).1 < (gt l.2.2.2.1 i).1):FirstK l c (k+1) (k:Int):=by
 refine .inr ⟨k,by omega,rfl,ho,fun j hj q=>?_⟩
 by_cases e:j=k
 ·rw[e]; omega
 ·rcases h with⟨rfl,h⟩ | ⟨i,hi,rfl,h1,h2⟩
  ·rw[h j (by omega)]at q; cases q
  ·have:=h2 j (by omega) q
   rcases hf with hf | ⟨i',e',hf⟩
   ·omega
   ·obtain rfl:i=i':=by omega
    omega
end Go.Proofs.YtdacabdocbhkdaaGreat.D
