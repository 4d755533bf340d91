/- Cut down from a longer text. -/
import Derived.Test.YtdacabdocbhkdaaGreatS13m
set_option linter.unusedVariables false
set_option linter.unusedSimpArgs false
namespace Go.Proofs.YtdacabdocbhkdaaGreat.D
open Go Go.Proofs L
def opens (l:LT)(c:CT)(s:VT):Prop:=c.2.2.2.2.2.1=false∨∃ k∈l.2.2.2.1,ownB l c k=true∧opB s.2.1 k=true
inductive WhyR (l:LT) (c:CT) (s:VT) (n:Int):Int×Int→Prop where
 | file (h:missV l c s≠[]):WhyR l c s n (1,gt (missV l c s) 0)
 | key (h:missV l c s=[]) (hl:c.2.2.2.2.2.1=true) (hk:∀ k∈l.2.2.2.1,ownB l c k=false):WhyR l c s n (2,-1)
 | foreign (h:missV l c s=[]) (hl:c.2.2.2.2.2.1=true) (k:KT) (hk:k∈l.2.2.2.1) (ho:ownB l c k=true) (hm:∀ k'∈l.2.2.2.1,ownB l c k'=true→k.1≤k'.1) (hn:∀ k'∈l.2.2.2.1,ownB l c k'=true→opB s.2.1 k'=false)
   (j:Nat) (hj:j < s.2.1.length) (hd:inB k.2.2.1 (gt s.2.1 j)=false) (hf:∀ i,i < j→inB k.2.2.1 (gt s.2.1 i)=true):WhyR l c s n (3,gt s.2.1 j)
 | shut (h:missV l c s=[]) (ho:opens l c s) (m:Int) (h1:n≤m) (h2:m < n+c.2.2.2.2.1) (h3:¬ openM l c s m) (h4:∀ i,n≤i→i < m→openM l c s i):WhyR l c s n (4,m)
 | none (h:missV l c s=[]) (ho:opens l c s) (h4:∀ i,n≤i→i < n+c.2.2.2.2.1→openM l c s i):WhyR l c s n (0,n+c.2.2.2.2.1-1)
theorem not_opens {l:LT}{c:CT}{s:VT}(hl:c.2.2.2.2.2.1=true)(h:∀ k∈l.2.2.2.1,ownB l c k=true→opB s.2.1 k=false):¬ opens l c s:=by
 rintro(q | ⟨k,hk,h1,h2⟩)
 ·rw[hl]at q; cases q
 ·rw[h k hk h1]at h2; cases h2
theorem WhyR.uniq {l:LT}{c:CT}{s:VT}{n:Int}{x y:Int×Int}(hnc:ncB l.2.2.2.1=true)(h:WhyR l c s n x)(h':WhyR l c s n y):x=y:=by
 have hno:∀ {k:KT},k∈l.2.2.2.1→ownB l c k=true→(∀ k∈l.2.2.2.1,ownB l c k=false)→False:=fun hk ho h=>by rw[h _ hk]at ho; cases ho
 cases h with
 | file h=>cases h' <;> first | rfl | contradiction
 | key h hl hk=>
  have no:¬ opens l c s:=not_opens hl fun k q1 q2=>absurd q2 (by rw[hk k q1]; simp)
  cases h' with
  | file h'=>contradiction
  | key=>rfl
  | foreign _ _ k q1 q2=>exact(hno q1 q2 hk).elim
  | shut _ ho=>exact absurd ho no
  | none _ ho=>exact absurd ho no
 | foreign h hl k hk ho hm hn j hj hd hf=>
  have no:¬ opens l c s:=not_opens hl hn
  cases h' with
  | file h'=>contradiction
  | key _ _ q=>exact(hno hk ho q).elim
  | foreign _ _ k' hk' ho' hm' _ j' hj' hd' hf'=>
   have e:k=k':=ncB_iff.1 hnc k hk k' hk' (by have:=hm k' hk' ho'; have:=hm' k hk ho; omega)
   subst e
   rcases Nat.lt_trichotomy j j' with q | q | q
   ·rw[hf' j q]at hd; cases hd
   ·rw[q]
   ·rw[hf j' q]at hd'; cases hd'
  | shut _ ho=>exact absurd ho no
  | none _ ho=>exact absurd ho no
 | shut h ho m h1 h2 h3 h4=>
  cases h' with
  | file h'=>contradiction
  | key _ hl hk=>exact absurd ho (not_opens hl fun k q1 q2=>absurd q2 (by rw[hk k q1]; simp))
  | foreign _ hl _ _ _ _ hn=>exact absurd ho (not_opens hl hn)
  | shut _ _ m' g1 g2 g3 g4=>
   rcases Int.lt_trichotomy m m' with q | q | q
   ·exact absurd (g4 m h1 q) h3
   ·rw[q]
   ·exact absurd (h4 m' g1 q) g3
  | none _ _ g4=>exact absurd (g4 m h1 h2) h3
 | none h ho h4=>
  cases h' with
  | file h'=>contradiction
  | key _ hl hk=>exact absurd ho (not_opens hl fun k q1 q2=>absurd q2 (by rw[hk k q1]; simp))
  | foreign _ hl _ _ _ _ hn=>exact absurd ho (not_opens hl hn)
  | shut _ _ m' g1 g2 g3 g4=>exact absurd (h4 m' g1 g2) g3
  | none=>rfl
def canM (l:LT)(c:CT)(s:VT)(n:Int):Prop:=missV l c s=[]∧∀ i,n≤i→i < n+c.2.2.2.2.1→openM l c s i
end Go.Proofs.YtdacabdocbhkdaaGreat.D
