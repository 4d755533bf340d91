/- Texts Z3. -/
import Derived.Test.YtdacabdocbhkdaaGreatB2
set_option linter.unusedVariables false
set_option linter.unusedSimpArgs false
set_option linter.unusedSectionVars false
namespace Go.Proofs.YtdacabdocbhkdaaGreat.D
open Go Go.Proofs.YtdacabdocbhkdaaGreat.L
theorem kget_nil {α:Type}(k:List Int):kget ([]:List (List Int×α)) k=none:=rfl
theorem kget_kput {α:Type}:∀ (m:List (List Int×α)) (k:List Int) (v:α) (q:List Int),kget (kput m k v) q=if q=k then some v else kget m q
 | [],k,v,q=>by
  by_cases h:q=k
  ·subst h; simp[kput,kget]
  ·simp[kput,kget,h,Ne.symm h]
 | (k',u)::m,k,v,q=>by
  have ih:=kget_kput m k v q
  by_cases e:k'=k
  ·subst e
   by_cases h:q=k'
   ·subst h; simp[kput,kget]
   ·simp[kput,kget,h,Ne.symm h]
  ·by_cases h:k'=q
   ·subst h; simp[kput,kget,e]
   ·simp only[kput,if_neg e,kget,List.find?_cons,h,decide_false]at ih ⊢
    exact ih
theorem dof_kput {α:Type}(m:List (List Int×α))(k:List Int)(v:α)(q:List Int)(z:α):dof (kget (kput m k v) q) z=if q=k then v else dof (kget m q) z:=by
 rw[kget_kput]; split <;> rfl
theorem capOk_sm {b n:Nat}(hb:b≤1000)(h:n≤1000000):capOk b n=true:=capOk_of (by have:=Nat.mul_le_mul hb h; omega)
section
variable {α:Type} [Inhabited α]
theorem take_gt1 {α:Type}[Inhabited α](l:List α){n:Nat}(h:n < l.length):l.take (n+1)=l.take n++[gt l n]:=by
 rw[List.take_add_one,List.getElem?_eq_getElem h,gt_lt h]; rfl
theorem any_gt {l:List α}{p:α→Bool}{k:Nat}(hk:k < l.length)(h:p (gt l k)=true):l.any p=true:=List.any_eq_true.2 ⟨_,gt_mem hk,h⟩
theorem any_no {l:List α}{p:α→Bool}(h:∀ j,j < l.length→p (gt l j)=false):l.any p=false:=by
 rw[List.any_eq_false]
 intro x hx
 obtain⟨i,hi,rfl⟩:=mem_gt hx
 simp[h i hi]
theorem all_eq {l:List α}{p:α→Bool}:allB l.length (fun k=>p (gt l k))=l.all p:=by
 rw[Bool.eq_iff_iff,all_gt,List.all_eq_true]
def fix (l:List α)(p:α→Bool):Int:=if firstB l.length (fun k=>p (gt l k)) < l.length then(firstB l.length (fun k=>p (gt l k)):Int)else -1
theorem firstB_spec (p:Nat→Bool):∀ n,(∀ j,j < firstB n p→j < n→p j=false)∧(firstB n p < n→p (firstB n p)=true)∧firstB n p≤n
 | 0=>⟨fun j _ h=>by omega,fun h=>by simp[firstB]at h,by simp[firstB]⟩
 | n+1=>by
  obtain⟨h1,h2,h3⟩:=firstB_spec p n
  simp only[firstB]
  cases hb:Nat.blt (firstB n p) n with
  | true=>
   have:firstB n p < n:=by simpa using hb
   exact⟨fun j q1 q2=>h1 j q1 (by simp only[cond_true]at q1; omega),fun _=>h2 this,by simp only[cond_true]; omega⟩
  | false=>
   have hn:firstB n p=n:=by
    have:¬ firstB n p < n:=by intro h; rw[show Nat.blt (firstB n p) n=true by simpa using h]at hb; cases hb
    omega
   cases hp:p n with
   | true=>exact⟨fun j q1 q2=>h1 j (by simp only[cond_false,cond_true]at q1; omega) (by simp only[cond_false,cond_true]at q1; omega),fun _=>hp,by simp only[cond_false,cond_true]; omega⟩
   | false=>
    refine⟨fun j q1 q2=>?_,fun h=>by simp only[cond_false]at h; omega,by simp only[cond_false]; omega⟩
    by_cases e:j=n
    ·rw[e]; exact hp
    ·exact h1 j (by omega) (by omega)
theorem firstB_eq {p:Nat→Bool}{n k:Nat}(hk:k < n)(h1:p k=true)(h2:∀ j,j < k→p j=false):firstB n p=k:=by
 obtain⟨q1,q2,q3⟩:=firstB_spec p n
 rcases Nat.lt_trichotomy (firstB n p) k with h | h | h
 ·have:=q2 (by omega); rw[h2 _ h]at this; cases this
 ·exact h
 ·have:=q1 k h hk; rw[h1]at this; cases this
theorem firstB_no {p:Nat→Bool}{n:Nat}(h:∀ j,j < n→p j=false):firstB n p=n:=by
 obtain⟨q1,q2,q3⟩:=firstB_spec p n
 rcases Nat.lt_or_ge (firstB n p) n with h' | h'
 ·have:=q2 h'; rw[h _ h']at this; cases this
 ·omega
theorem fix_some {l:List α}{p:α→Bool}{k:Nat}(hk:k < l.length)(h1:p (gt l k)=true)(h2:∀ j,j < k→p (gt l j)=false):fix l p=(k:Int):=by
 rw[fix,firstB_eq (p:=fun k=>p (gt l k)) hk h1 h2,if_pos hk]
theorem fix_none {l:List α}{p:α→Bool}(h:∀ j,j < l.length→p (gt l j)=false):fix l p = -1:=by
 rw[fix,firstB_no (p:=fun k=>p (gt l k)) h,if_neg (by omega)]
theorem fix_cases (l:List α)(p:α→Bool):(∃ k,k < l.length∧p (gt l k)=true∧(∀ j,j < k→p (gt l j)=false)∧fix l p=(k:Int)∧l.find? p=some (gt l k)∧l.any p=true) ∨
  ((∀ j,j < l.length→p (gt l j)=false)∧fix l p = -1∧l.find? p=none∧l.any p=false):=by
 obtain⟨q1,q2,q3⟩:=firstB_spec (fun k=>p (gt l k)) l.length
 rcases Nat.lt_or_ge (firstB l.length fun k=>p (gt l k)) l.length with h | h
 ·exact .inl ⟨_,h,q2 h,fun j hj=>q1 j hj (by omega),fix_some h (q2 h) fun j hj=>q1 j hj (by omega),find_at h (q2 h) fun j hj=>q1 j hj (by omega),any_gt h (q2 h)⟩
 ·have hn:∀ j,j < l.length→p (gt l j)=false:=fun j hj=>q1 j (by omega) hj
  exact .inr ⟨hn,fix_none hn,find_no hn,any_no hn⟩
theorem fix_any (l:List α)(p:α→Bool):decide ((0:Int)≤fix l p)=l.any p:=by
 rcases fix_cases l p with⟨k,hk,h1,h2,h3,h4,h5⟩ | ⟨h1,h2,h3,h4⟩
 ·rw[h3,h5]; simp
 ·rw[h2,h4]; rfl
theorem fix_lt (l:List α)(p:α→Bool):decide (fix l p < 0)=!l.any p:=by
 rcases fix_cases l p with⟨k,hk,h1,h2,h3,h4,h5⟩ | ⟨h1,h2,h3,h4⟩
 ·rw[h3,h5]; simp
 ·rw[h2,h4]; rfl
theorem while_fix {σ ρ:Type}{step:σ→Option (σ⊕ρ)}(l:List α)(s:Nat→σ)(p:α→Bool)(O1:Nat→ρ)(O2:ρ)
  (h1:∀ k,k < l.length→(∀ j,j < k→p (gt l j)=false)→step (s k)=some (cond (p (gt l k)) (.inr (O1 k)) (.inl (s (k+1))))) (h2:step (s l.length)=some (.inr O2)) (hn:l.length < 18446744073709551616) {β:Type} (g:ρ→β) (f:Int→β)
  (g1:∀ k:Nat,k < l.length→p (gt l k)=true→g (O1 k)=f (k:Int)) (g2:g O2=f (-1)):∃ r,whileF step (s 0)=some r∧g r=f (fix l p):=by
 rcases while_find l.length s (fun k=>p (gt l k)) O1 O2 h1 (fun _=>h2) hn with⟨k,hk,q1,q2,q3⟩ | ⟨q1,q2⟩
 ·exact⟨_,q3,by rw[g1 k hk q1,fix_some hk q1 q2]⟩
 ·exact⟨_,q2,by rw[g2,fix_none q1]⟩
theorem while_flt {σ ρ γ:Type}{step:σ→Option (σ⊕ρ)}(l:List α)(p:α→Bool)(f:α→γ)(s:Nat→List γ→σ)(r:List γ→ρ)
  (h1:∀ k out,k < l.length→out.length≤k→step (s k out)=some (.inl (s (k+1) (cond (p (gt l k)) (out++[f (gt l k)]) out)))) (h2:∀ out,out.length≤l.length→step (s l.length out)=some (.inr (r out))) (hn:l.length < 18446744073709551616) :
  whileF step (s 0 [])=some (r ((l.filter p).map f)):=by
 have hl:∀ k,(((l.take k).filter p).map f).length≤k:=fun k=>by
  have a:=List.length_filter_le p (l.take k)
  have b:=List.length_take_le k l
  simp only[List.length_map]; omega
 have h:=while_run (step:=step) l.length (fun k=>s k (((l.take k).filter p).map f)) (r ((l.filter p).map f)) (fun k hk=>by
  rw[h1 k _ hk (hl k),take_gt1 l hk,List.filter_append,List.map_append]
  cases hp:p (gt l k) <;> simp[List.filter_cons,hp]) (by
  rw[h2 _ (hl _),List.take_length]) hn
 simpa using h
theorem while_map {σ ρ γ:Type}{step:σ→Option (σ⊕ρ)}(l:List α)(f:α→γ)(s:Nat→List γ→σ)(r:List γ→ρ)
  (h1:∀ k out,k < l.length→out.length≤k→step (s k out)=some (.inl (s (k+1) (out++[f (gt l k)])))) (h2:∀ out,out.length≤l.length→step (s l.length out)=some (.inr (r out))) (hn:l.length < 18446744073709551616) :
  whileF step (s 0 [])=some (r (l.map f)):=by
 have:=while_flt l (fun _=>true) f s r (fun k out hk ho=>h1 k out hk ho) h2 hn
 rwa [List.filter_eq_self.2 fun _ _=>rfl]at this
theorem append_self {β:Type}(l:List β):([]:List β)++l=l:=rfl
theorem bisn_clone {β:Type}(l:List β)(b:Bool)(h:b=decide (l.length=0)):bisn b (some ([]:List β)) (some l)=some l:=by
 subst h
 cases hl:decide (l.length=0)
 ·rfl
 ·have:l=[]:=by simpa using hl
  subst this; simp[bisn]
end
theorem eq_list {β:Type}[Inhabited β][DecidableEq β]{a b:List β}(h:a.length=b.length):allB a.length (fun i=>decide (gt a i=gt b i))=decide (a=b):=by
 rw[Bool.eq_iff_iff,allB_true,decide_eq_true_eq]
 exact⟨fun q=>gt_ext h fun i hi=>by simpa using q i hi,fun q k _=>by rw[q]; simp⟩
theorem asc_ext:∀ {a b:List Int} ,a.Pairwise (· < ·)→b.Pairwise (· < ·)→(∀ x,x∈a↔x∈b)→a=b
 | [],[],_,_,_=>rfl
 | [],y::b,_,_,h=>by have:=(h y).2 (by simp); simp at this
 | x::a,[],_,_,h=>by have:=(h x).1 (by simp); simp at this
 | x::a,y::b,ha,hb,h=>by
  rw[List.pairwise_cons]at ha hb
  have e:x=y:=by
   have h1:=(h x).1 (by simp)
   have h2:=(h y).2 (by simp)
   rw[List.mem_cons]at h1 h2
   rcases h1 with h1 | h1
   ·exact h1
   ·rcases h2 with h2 | h2
    ·exact h2.symm
    ·have:=ha.1 y h2; have:=hb.1 x h1; omega
  subst e
  rw[asc_ext ha.2 hb.2 fun z=>?_]
  have hz:=h z
  rw[List.mem_cons,List.mem_cons]at hz
  constructor
  ·intro q
   have:=ha.1 z q
   rcases hz.1 (.inr q)with r | r
   ·omega
   ·exact r
  ·intro q
   have:=hb.1 z q
   rcases hz.2 (.inr q)with r | r
   ·omega
   ·exact r
theorem while_allv {σ ρ:Type}{step:σ→Option (σ⊕ρ)}(n:Nat)(s:Nat→σ)(ok:Nat→Bool)(bad:Nat→ρ)(fin:ρ)(h1:∀ k,k < n→(∀ i,i < k→ok i=true)→step (s k)=some (cond (ok k) (.inl (s (k+1))) (.inr (bad k))))
  (h2:(∀ i,i < n→ok i=true)→step (s n)=some (.inr fin)) (hn:n < 18446744073709551616) {β:Type} (g:ρ→β) (f:Bool→β) (g1:∀ k,g (bad k)=f false) (g2:g fin=f true):∃ r,whileF step (s 0)=some r∧g r=f (allB n ok):=by
 rcases while_find n s (fun k=>!ok k) bad fin (fun k hk hp=>by
  rw[h1 k hk fun i hi=>by simpa using hp i hi]
  cases ok k <;> rfl) (fun hp=>h2 fun i hi=>by simpa using hp i hi) hn with⟨k,hk,q1,q2,q3⟩ | ⟨q1,q2⟩
 ·refine⟨_,q3,?_⟩
  rw[g1,show allB n ok=false from ?_]
  cases h:allB n ok
  ·rfl
  ·rw[allB_true.1 h k hk]at q1; cases q1
 ·exact⟨_,q2,by rw[g2,allB_true.2 fun k hk=>by simpa using q1 k hk]⟩
def seenN (f:Nat→Int):Nat→List (List Int×Int)
 | 0=>[]
 | k+1=>kput (seenN f k) [f k] (dof (kget (seenN f k) [f k]) 0+1)
theorem seen_get (f:Nat→Int):∀ k,(∀ i,i < k→allB i (fun j=>!decide (f j=f i))=true)→∀ q,dof (kget (seenN f k) [q]) 0=cond (allB k fun j=>!decide (f j=q)) 0 1
 | 0,_,q=>rfl
 | k+1,h,q=>by
  have ih:=seen_get f k fun i hi=>h i (by omega)
  rw[seenN,dof_kput,ih,h k (by omega)]
  simp only[allB,List.cons.injEq,and_true]
  by_cases e:q=f k
  ·subst e; simp
  ·rw[if_neg e,ih q,decide_eq_false (fun h=>e h.symm)]; simp
def apB (n:Nat)(f:Nat→Int)(rt:Nat→Bool):Bool:=allB n fun i=>(allB i fun k=>!decide (f k=f i))&&(rt i&&wi (f i) 0 99)
end Go.Proofs.YtdacabdocbhkdaaGreat.D
