/- Cut down from a longer text. -/
import Derived.Test.YtdacabdocbhkdaaGreatS16m
set_option linter.unusedVariables false
set_option linter.unusedSimpArgs false
namespace Go.Proofs.YtdacabdocbhkdaaGreat.D
open Go Go.Proofs L
structure FarK (l:LT) (c:CT) (s:VT) (x f:Int):Prop where
 le:x≤f
 ex:f=x∨∃ k∈l.2.2.2.1,(opB s.2.1 k&&ownB l c k)=true∧k.2.2.2.1≤x∧k.2.2.2.2+1=f
 all:∀ k∈l.2.2.2.1,(opB s.2.1 k&&ownB l c k)=true→k.2.2.2.1≤x→k.2.2.2.2+1≤f
theorem FarK.uniq {l:LT}{c:CT}{s:VT}{x f g:Int}(h:FarK l c s x f)(h':FarK l c s x g):f=g:=by
 have a:f≤g:=by
  rcases h.ex with e | ⟨k,k1,k2,k3,k4⟩
  ·have:=h'.le; omega
  ·have:=h'.all k k1 k2 k3; omega
 have b:g≤f:=by
  rcases h'.ex with e | ⟨k,k1,k2,k3,k4⟩
  ·have:=h.le; omega
  ·have:=h.all k k1 k2 k3; omega
 omega
inductive Steps (l:LT) (c:CT) (s:VT) (e:Int):Int→Nat→Prop where
 | done {x:Int} (h:c.2.2.2.2.2.1=false∨e≤x):Steps l c s e x 0
 | step {x f:Int} {k:Nat} (hl:c.2.2.2.2.2.1=true) (hx:x < e) (hf:FarK l c s x f) (h:Steps l c s e f k):Steps l c s e x (k+1)
theorem Steps.uniq {l:LT}{c:CT}{s:VT}{e:Int}:∀ {x:Int} {k j:Nat},Steps l c s e x k→Steps l c s e x j→k=j
 | _,_,_,.done h,.done _=>rfl
 | _,_,_,.done h,.step hl hx _ _=>by
  rcases h with h | h
  ·rw[hl]at h; cases h
  ·omega
 | _,_,_,.step hl hx _ _,.done h=>by
  rcases h with h | h
  ·rw[hl]at h; cases h
  ·omega
 | _,_,_,.step _ _ hf h,.step _ _ hf' h'=>by
  have:=hf.uniq hf'
  subst this
  rw[Steps.uniq h h']
end Go.Proofs.YtdacabdocbhkdaaGreat.D
