/- Cut down from a longer text. -/
import Derived.Test.YtdacabdocbhkdaaGreatS6m
set_option linter.unusedVariables false
set_option linter.unusedSimpArgs false
namespace Go.Proofs.YtdacabdocbhkdaaGreat.D
open Go Go.Proofs L
abbrev Sp:=Int×Int
def InS (l:List Sp)(n:Int):Prop:=∃ x∈l,x.1≤n∧n≤x.2
structure SpOk (l:List Sp) (P:Int→Prop):Prop where
 pw:l.Pairwise fun x y=>x.2+1 < y.1
 bd:∀ x∈l,0≤x.1∧x.1≤x.2∧x.2≤9999
 mem:∀ n,P n↔InS l n
theorem sp_uniq:∀ {l l':List Sp} ,l.Pairwise (fun x y=>x.2+1 < y.1)→l'.Pairwise (fun x y=>x.2+1 < y.1)→(∀ x∈l,x.1≤x.2)→(∀ x∈l',x.1≤x.2)→(∀ n,InS l n↔InS l' n)→l=l'
 | [],[],_,_,_,_,_=>rfl
 | [],y::l',_,_,_,h,e=>by
  have h1:=h y (by simp)
  obtain⟨x,hx,_⟩:=(e y.1).2 ⟨y,by simp,by omega,by omega⟩
  simp at hx
 | x::l,[],_,_,h,_,e=>by
  have h1:=h x (by simp)
  obtain⟨y,hy,_⟩:=(e x.1).1 ⟨x,by simp,by omega,by omega⟩
  simp at hy
 | x::l,y::l',p,p',h,h',e=>by
  rw[List.pairwise_cons]at p p'
  have hx:=h x (by simp)
  have hy:=h' y (by simp)
  have g1:∀ n,InS (x::l) n→x.1≤n:=fun n ⟨z,hz,q1,q2⟩=>by
   rw[List.mem_cons]at hz
   rcases hz with rfl | hz
   ·exact q1
   ·have:=p.1 z hz; omega
  have g2:∀ n,InS (y::l') n→y.1≤n:=fun n ⟨z,hz,q1,q2⟩=>by
   rw[List.mem_cons]at hz
   rcases hz with rfl | hz
   ·exact q1
   ·have:=p'.1 z hz; omega
  have k1:∀ n,n≤x.2+1→InS (x::l) n→n≤x.2:=fun n hn ⟨z,hz,q1,q2⟩=>by
   rw[List.mem_cons]at hz
   rcases hz with rfl | hz
   ·exact q2
   ·have:=p.1 z hz; omega
  have k2:∀ n,n≤y.2+1→InS (y::l') n→n≤y.2:=fun n hn ⟨z,hz,q1,q2⟩=>by
   rw[List.mem_cons]at hz
   rcases hz with rfl | hz
   ·exact q2
   ·have:=p'.1 z hz; omega
  have ax:InS (x::l) x.1:=⟨x,by simp,by omega,by omega⟩
  have ay:InS (y::l') y.1:=⟨y,by simp,by omega,by omega⟩
  have e1:x.1=y.1:=by
   have a:=g2 _ ((e x.1).1 ax)
   have b:=g1 _ ((e y.1).2 ay)
   omega
  have e2:x.2=y.2:=by
   rcases Int.lt_trichotomy x.2 y.2 with q | q | q
   ·have:InS (x::l) (x.2+1):=(e _).2 ⟨y,by simp,by omega,by omega⟩
    have:=k1 _ (by omega) this
    omega
   ·exact q
   ·have:InS (y::l') (y.2+1):=(e _).1 ⟨x,by simp,by omega,by omega⟩
    have:=k2 _ (by omega) this
    omega
  have exy:x=y:=Prod.ext e1 e2
  subst exy
  rw[sp_uniq p.2 p'.2 (fun z hz=>h z (by simp[hz])) (fun z hz=>h' z (by simp[hz])) fun n=>?_]
  constructor
  ·rintro⟨z,hz,q1,q2⟩
   have:=p.1 z hz
   obtain⟨w,hw,r1,r2⟩:=(e n).1 ⟨z,by simp[hz],q1,q2⟩
   rw[List.mem_cons]at hw
   rcases hw with rfl | hw
   ·omega
   ·exact⟨w,hw,r1,r2⟩
  ·rintro⟨z,hz,q1,q2⟩
   have:=p'.1 z hz
   obtain⟨w,hw,r1,r2⟩:=(e n).2 ⟨z,by simp[hz],q1,q2⟩
   rw[List.mem_cons]at hw
   rcases hw with rfl | hw
   ·omega
   ·exact⟨w,hw,r1,r2⟩
theorem SpOk.uniq {l l':List Sp}{P P':Int→Prop}(h:SpOk l P)(h':SpOk l' P')(e:∀ n,P n↔P' n):l=l':=
 sp_uniq h.pw h'.pw (fun x hx=>(h.bd x hx).2.1) (fun x hx=>(h'.bd x hx).2.1) fun n=>by rw[← h.mem,← h'.mem,e]
theorem SpOk.congr {l:List Sp}{P P':Int→Prop}(h:SpOk l P)(e:∀ n,P n↔P' n):SpOk l P':=⟨h.pw,h.bd,fun n=>by rw[← e,h.mem]⟩
theorem SpOk.wide {l:List Sp}{P:Int→Prop}{a t:Sp}(h:SpOk (l++[a]) P)(ht:t.1≤t.2∧t.2≤9999)(h1:a.1≤t.1)(h2:t.1≤a.2+1):SpOk (l++[(a.1,max a.2 t.2)]) fun n=>P n∨t.1≤n∧n≤t.2:=by
 have ha:=h.bd a (by simp)
 have hp:=h.pw
 rw[List.pairwise_append]at hp
 refine⟨?_,?_,fun n=>?_⟩
 ·rw[List.pairwise_append]
  exact⟨hp.1,by simp,fun x hx y hy=>by rw[List.mem_singleton]at hy; subst hy; exact hp.2.2 x hx a (by simp)⟩
 ·intro x hx
  rw[List.mem_append,List.mem_singleton]at hx
  rcases hx with hx | rfl
  ·exact h.bd x (by simp[hx])
  ·show 0≤a.1∧a.1≤max a.2 t.2∧max a.2 t.2≤9999
   omega
 ·rw[h.mem]
  constructor
  ·rintro(⟨x,hx,q⟩ | q)
   ·rw[List.mem_append,List.mem_singleton]at hx
    rcases hx with hx | rfl
    ·exact⟨x,by simp[hx],q⟩
    ·exact⟨(x.1,max x.2 t.2),by simp,q.1,by show n≤max x.2 t.2; omega⟩
   ·exact⟨(a.1,max a.2 t.2),by simp,by show a.1≤n; omega,by show n≤max a.2 t.2; omega⟩
  ·rintro⟨x,hx,q1,q2⟩
   rw[List.mem_append,List.mem_singleton]at hx
   rcases hx with hx | rfl
   ·exact .inl ⟨x,by simp[hx],q1,q2⟩
   ·have q1':a.1≤n:=q1
    have q2':n≤max a.2 t.2:=q2
    by_cases e:n≤a.2
    ·exact .inl ⟨a,by simp,q1',e⟩
    ·exact .inr ⟨by omega,by omega⟩
end Go.Proofs.YtdacabdocbhkdaaGreat.D
