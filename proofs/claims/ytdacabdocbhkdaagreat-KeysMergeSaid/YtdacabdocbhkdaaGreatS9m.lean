/- Cut down from a longer text. -/
import Derived.Test.YtdacabdocbhkdaaGreatS8m
set_option linter.unusedVariables false
set_option linter.unusedSimpArgs false
namespace Go.Proofs.YtdacabdocbhkdaaGreat.D
open Go Go.Proofs L
theorem apB_iff {n:Nat}{f:Nat→Int}{rt:Nat→Bool}:apB n f rt=true↔(∀ i,i < n→rt i=true∧0≤f i∧f i≤99)∧∀ i k,i < n→k < i→f k≠f i:=by
 unfold apB
 rw[allB_true]
 constructor
 ·intro h
  refine⟨fun i hi=>?_,fun i k hi hk=>?_⟩
  ·have:=h i hi
   simp only[Bool.and_eq_true,wi_iff]at this; exact this.2
  ·have:=h i hi
   simp only[Bool.and_eq_true]at this
   simpa using allB_true.1 this.1 k hk
 ·rintro⟨h1,h2⟩ i hi
  simp only[Bool.and_eq_true,wi_iff]
  exact⟨allB_true.2 fun k hk=>by simpa using h2 i k hi hk,h1 i hi⟩
def Uq {α:Type}(l:List (Int×α)):Prop:=(l.map (·.1)).Nodup
theorem uq_of {α:Type}[Inhabited α]{l:List (Int×α)}{rt:Nat→Bool}(h:apB l.length (fun i=>(gt l i).1) rt=true):Uq l:=by
 unfold Uq
 rw[List.Nodup,List.pairwise_map,List.pairwise_iff_getElem]
 intro i j hi hj hij
 have:=(apB_iff.1 h).2 j i hj hij
 rwa [gt_lt hi,gt_lt hj]at this
theorem Uq.eq {α:Type}[Inhabited α]{l:List (Int×α)}(h:Uq l){x y:Int×α}(hx:x∈l)(hy:y∈l)(e:x.1=y.1):x=y:=by
 unfold Uq at h
 rw[List.Nodup,List.pairwise_map]at h
 have hp:=List.pairwise_iff_getElem.1 h
 obtain⟨i,hi,rfl⟩:=mem_gt hx
 obtain⟨j,hj,rfl⟩:=mem_gt hy
 rw[gt_lt hi,gt_lt hj]at e
 rcases Nat.lt_trichotomy i j with q | q | q
 ·exact absurd e (hp i j hi hj q)
 ·rw[q]
 ·exact absurd e.symm (hp j i hj hi q)
structure LibOk (l:LT):Prop where
 a12:l.1.length≤12
 c8:l.2.1.length≤8
 s6:l.2.2.1.length≤6
 k20:l.2.2.2.1.length≤20
 r20:l.2.2.2.2.length≤20
 key:∀ k∈l.2.2.2.1,keyB k=true
 rcl:∀ r∈l.2.2.2.2,0≤r∧r≤99
 au:Uq l.1
 cu:Uq l.2.1
 su:Uq l.2.2.1
 ai:∀ a∈l.1,0≤a.1∧a.1≤99
 comp:∀ c∈l.2.1,compR l.1 c=true∧0≤c.1∧c.1≤99
 serv:∀ s∈l.2.2.1,servR s=true∧0≤s.1∧s.1≤99
theorem lib_ok {l:LT}(h:libB l=true):LibOk l:=by
 unfold libB sizB at h
 simp only[Bool.and_eq_true,List.all_eq_true,lenB,decide_eq_true_eq,wi_iff]at h
 obtain⟨⟨h1,h2,h3,h4,h5⟩,⟨h6,h7⟩,h8,h9,h10⟩:=h
 refine⟨h1,h2,h3,h4,h5,h6,h7,uq_of h8,uq_of h9,uq_of h10,fun a ha=>?_,fun c hc=>?_,fun s hs=>?_⟩
 ·obtain⟨i,hi,rfl⟩:=mem_gt ha; exact((apB_iff.1 h8).1 i hi).2
 ·obtain⟨i,hi,rfl⟩:=mem_gt hc; exact(apB_iff.1 h9).1 i hi
 ·obtain⟨i,hi,rfl⟩:=mem_gt hs; exact(apB_iff.1 h10).1 i hi
def ownB (l:LT)(c:CT)(k:KT):Bool:=decide (k.2.1=c.1)&&!inB l.2.2.2.2 k.1
theorem sd_pw {α:Type}[Inhabited α]{f:α→Int}{l:List α}(h:Sd f l 0 l.length):l.Pairwise fun x y=>f x≤f y:=by
 rw[List.pairwise_iff_getElem]
 intro i j hi hj hij
 have:=h i j (Nat.zero_le _) hij hj
 rwa [gt_lt hi,gt_lt hj]at this
end Go.Proofs.YtdacabdocbhkdaaGreat.D
