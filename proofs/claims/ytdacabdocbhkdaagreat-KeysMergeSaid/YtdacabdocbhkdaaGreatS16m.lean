/- Cut down from a longer text. -/
import Derived.Test.YtdacabdocbhkdaaGreatS15m
set_option linter.unusedVariables false
set_option linter.unusedSimpArgs false
namespace Go.Proofs.YtdacabdocbhkdaaGreat.D
open Go Go.Proofs L
inductive NextR (l:LT) (c:CT) (s:VT) (n:Int):Int×Int→Prop where
 | at(t:Int) (h1:n≤t) (h2:canM l c s t) (h3:∀ i,n≤i→i < t→¬ canM l c s i):NextR l c s n (t,0)
 | no (h:∀ i,n≤i→¬ canM l c s i):NextR l c s n (0,3)
theorem NextR.uniq {l:LT}{c:CT}{s:VT}{n:Int}{x y:Int×Int}(h:NextR l c s n x)(h':NextR l c s n y):x=y:=by
 cases h with
 | «at» t h1 h2 h3=>
  cases h' with
  | «at» t' g1 g2 g3=>
   rcases Int.lt_trichotomy t t' with q | q | q
   ·exact absurd h2 (g3 t h1 q)
   ·rw[q]
   ·exact absurd g2 (h3 t' g1 q)
  | no g=>exact absurd h2 (g t h1)
 | no h=>
  cases h' with
  | «at» t' g1 g2 g3=>exact absurd g2 (h t' g1)
  | no g=>rfl
end Go.Proofs.YtdacabdocbhkdaaGreat.D
