/- Cut down from a longer text. -/
import Derived.Test.YtdacabdocbhkdaaGreatS6f
set_option linter.unusedVariables false
set_option linter.unusedSimpArgs false
set_option linter.unusedSectionVars false
namespace Go.Proofs.YtdacabdocbhkdaaGreat.D
open Go Go.Proofs Go.Proofs.YtdacabdocbhkdaaGreat.L
abbrev Sp:=Int×Int
def InS (l:List Sp)(n:Int):Prop:=∃ x∈l,x.1≤n∧n≤x.2
structure SpOk (l:List Sp) (P:Int→Prop):Prop where
 pw:l.Pairwise fun x y=>x.2+1 < y.1
 bd:∀ x∈l,0≤x.1∧x.1≤x.2∧x.2≤9999
 mem:∀ n,P n↔InS l n
theorem SpOk.congr {l:List Sp}{P P':Int→Prop}(h:SpOk l P)(e:∀ n,P n↔P' n):SpOk l P':=⟨h.pw,h.bd,fun n=>by rw[← e,h.mem]⟩
theorem SpOk.nil {P:Int→Prop}(h:∀ n,¬ P n):SpOk [] P:=⟨by simp,by simp,fun n=>by simp[InS,h n]⟩
theorem SpOk.push {l:List Sp}{P:Int→Prop}{t:Sp}(h:SpOk l P)(ht:0≤t.1∧t.1≤t.2∧t.2≤9999)(hl:∀ x∈l,x.2+1 < t.1):SpOk (l++[t]) fun n=>P n∨t.1≤n∧n≤t.2:=by
 refine⟨?_,?_,fun n=>?_⟩
 ·rw[List.pairwise_append]
  exact⟨h.pw,by simp,fun x hx y hy=>by rw[List.mem_singleton]at hy; subst hy; exact hl x hx⟩
 ·intro x hx
  rw[List.mem_append,List.mem_singleton]at hx
  rcases hx with hx | rfl
  ·exact h.bd x hx
  ·exact ht
 ·rw[h.mem]
  constructor
  ·rintro(⟨x,hx,q⟩ | q)
   ·exact⟨x,by simp[hx],q⟩
   ·exact⟨t,by simp,q⟩
  ·rintro⟨x,hx,q⟩
   rw[List.mem_append,List.mem_singleton]at hx
   rcases hx with hx | rfl
   ·exact .inl ⟨x,hx,q⟩
   ·exact .inr q
theorem SpOk.wide {l:List Sp}{P:Int→Prop}{a t:Sp}(h:SpOk (l++[a]) P)(ht:t.1≤t.2∧t.2≤9999)(h1:a.1≤t.1)(h2:t.1≤a.2+1):SpOk (l++[(a.1,max a.2 t.2)]) fun n=>P n∨t.1≤n∧n≤t.2:=by
 have ha:=h.bd a (by simp)
 have hp:=h.pw
 rw[List.pairwise_append]at hp
 refine⟨?_,?_,fun n=>?_⟩
 ·rw[List.pairwise_append]
  exact⟨hp.1,by simp,fun x hx y hy=>by rw[List.mem_singleton]at hy; subst hy; exact hp.2.2 x hx a (by simp)⟩
 ·intro x hx
  rw[List.mem_append,List.mem_singleton]at hx
  rcases hx with hx | rfl
  ·exact h.bd x (by simp[hx])
  ·show 0≤a.1∧a.1≤max a.2 t.2∧max a.2 t.2≤9999
   omega
 ·rw[h.mem]
  constructor
  ·rintro(⟨x,hx,q⟩ | q)
   ·rw[List.mem_append,List.mem_singleton]at hx
    rcases hx with hx | rfl
    ·exact⟨x,by simp[hx],q⟩
    ·exact⟨(x.1,max x.2 t.2),by simp,q.1,by show n≤max x.2 t.2; omega⟩
   ·exact⟨(a.1,max a.2 t.2),by simp,by show a.1≤n; omega,by show n≤max a.2 t.2; omega⟩
  ·rintro⟨x,hx,q1,q2⟩
   rw[List.mem_append,List.mem_singleton]at hx
   rcases hx with hx | rfl
   ·exact .inl ⟨x,by simp[hx],q1,q2⟩
   ·have q1':a.1≤n:=q1
    have q2':n≤max a.2 t.2:=q2
    by_cases e:n≤a.2
    ·exact .inl ⟨a,by simp,q1',e⟩
    ·exact .inr ⟨by omega,by omega⟩
end Go.Proofs.YtdacabdocbhkdaaGreat.D
