/- Cut down from a longer text. -/
import Derived.Test.YtdacabdocbhkdaaGreatS1m
import Derived.Test.YtdacabdocbhkdaaGreatS2m
set_option linter.unusedVariables false
set_option linter.unusedSimpArgs false
namespace Go.Proofs.YtdacabdocbhkdaaGreat.D
open Go Go.Proofs L
theorem P125_eq {a b:List Int}(ha:a.length≤1000):P125 (a,b)=some (decide (a=b)):=by
 by_cases h:a.length=b.length
 ·have e:L125_0 (a,b,(a.length:Int),0)=some (cond (allB a.length fun i=>decide (gt a i=gt b i)) (.inr ()) (.inl false)):=
   while_all a.length (fun k=>(a,b,(a.length:Int),(k:Int))) (fun i=>decide (gt a i=gt b i)) _ _ (fun k hk=>by
    simp(disch:=omega) only[p125_0,q125_0,ltN,dT,cond_true,inR_nat,chk_t,ix_gt,fitK,a1]
    cases decide (gt a k=gt b k) <;> rfl) (by simp(disch:=omega) only[p125_0,q125_0,ltN,dF,cond_false]) (by omega)
  have d:decide ((a.length:Int)=(b.length:Int))=true:=by simp[h]
  rw[eq_list h]at e
  simp only[P125,p125,q125,d,Bool.not_true,cond_false,e,bind_some']
  cases decide (a=b) <;> rfl
 ·have d:decide ((a.length:Int)=(b.length:Int))=false:=by simp; omega
  have d2:decide (a=b)=false:=by simp; intro e; rw[e]at h; exact h rfl
  simp only[P125,p125,q125,d,d2,Bool.not_false,cond_true]
theorem key_ext (a b:KT):decide (a=b)=(decide (a.1=b.1)&&(decide (a.2.1=b.2.1)&&(decide (a.2.2.2.1=b.2.2.2.1)&&(decide (a.2.2.2.2=b.2.2.2.2)&&decide (a.2.2.1=b.2.2.1))))):=by
 obtain⟨a1,a2,a3,a4,a5⟩:=a
 obtain⟨b1,b2,b3,b4,b5⟩:=b
 rw[Bool.eq_iff_iff]
 simp only[decide_eq_true_eq,Prod.mk.injEq,Bool.and_eq_true]
 constructor
 ·rintro⟨h1,h2,h3,h4,h5⟩; exact⟨h1,h2,h4,h5,h3⟩
 ·rintro⟨h1,h2,h4,h5,h3⟩; exact⟨h1,h2,h3,h4,h5⟩
theorem P101_eq (a b:KT)(ha:a.2.2.1.length≤1000):P101 (a,b)=some (decide (a=b)):=by
 rw[key_ext]
 simp only[P101,p101,q101,P125_eq ha,bind_some']
 cases decide (a.1=b.1)
 ·rfl
 cases decide (a.2.1=b.2.1)
 ·rfl
 cases decide (a.2.2.2.1=b.2.2.2.1)
 ·rfl
 cases decide (a.2.2.2.2=b.2.2.2.2) <;> rfl
theorem P99_eq {l:List KT}(k:KT)(hl:l.length≤1000)(hd:∀ x∈l,x.2.2.1.length≤1000):P99 (l,k)=some (l.any fun x=>decide (x=k)):=by
 have key:P124 (l,k)=some (fix l fun x=>decide (x=k)):=by
  obtain⟨r,r1,r2⟩:=while_fix (step:=fun x=>p124_0 x.1 x.2.1 x.2.2.1 x.2.2.2) l (fun i=>(l,k,(l.length:Int),(i:Int))) (fun x=>decide (x=k)) (fun k=>.inl (k:Int)) (.inr ())
   (fun i hi _=>by
    simp(disch:=omega) only[p124_0,q124_0,ltN,dT,cond_true,inR_nat,chk_t,ix_gt,P100,p100,q100,P101_eq _ _ (hd _ (gt_mem hi)),bind_some',fitK,a1]
    cases decide (gt l i=k) <;> rfl) (by simp(disch:=omega) only[p124_0,q124_0,ltN,dF,cond_false]) (by omega) (fun y=>Sum.elim (fun y=>some y) (fun _=>some (-1)) y) (fun z=>some z) (fun _ _ _=>rfl) rfl
  have e:L124_0 (l,k,(l.length:Int),0)=some r:=r1
  simp only[P124,p124,q124,e,bind_some']
  exact r2
 simp only[P99,p99,q99,key,bind_some',fix_any]
theorem P102_eq {l:List Int}(hl:l.length≤1000):P102 l=some l:=by
 have:capOk 8 (([]:List Int).length+l.length)=true:=capOk_sm (by omega) (by simp; omega)
 simp only[P102,p102,q102,this,chk_t,append_self]
 exact bisn_clone l _ rfl
def onc (l:List KT):Nat→List KT
 | 0=>[]
 | n+1=>cond ((onc l n).any fun x=>decide (x=gt l n)) (onc l n) (onc l n++[gt l n])
theorem onc_len (l:List KT):∀ n,(onc l n).length≤n
 | 0=>by simp[onc]
 | n+1=>by have:=onc_len l n; rw[onc]; cases(onc l n).any fun x=>decide (x=gt l n) <;> simp <;> omega
theorem onc_mem (l:List KT):∀ n,∀ x,x∈onc l n↔∃ k,k < n∧gt l k=x
 | 0,x=>by simp[onc]
 | n+1,x=>by
  rw[onc]
  cases h:(onc l n).any fun x=>decide (x=gt l n)
  ·simp only[cond_false,List.mem_append,onc_mem l n,List.mem_singleton]
   constructor
   ·rintro(⟨k,hk,e⟩ | e)
    ·exact⟨k,by omega,e⟩
    ·exact⟨n,by omega,e.symm⟩
   ·rintro⟨k,hk,e⟩
    by_cases hkn:k=n
    ·subst hkn; exact .inr e.symm
    ·exact .inl ⟨k,by omega,e⟩
  ·rw[cond_true,onc_mem l n]
   constructor
   ·rintro⟨k,hk,e⟩; exact⟨k,by omega,e⟩
   ·rintro⟨k,hk,e⟩
    by_cases hkn:k=n
    ·subst hkn
     obtain⟨y,hy,e'⟩:=List.any_eq_true.1 h
     simp only[decide_eq_true_eq]at e'
     subst e'; subst e
     exact(onc_mem l k _).1 hy
    ·exact⟨k,by omega,e⟩
theorem onc_nodup (l:List KT):∀ n,(onc l n).Nodup
 | 0=>by simp[onc]
 | n+1=>by
  have ih:=onc_nodup l n
  rw[onc]
  cases h:(onc l n).any fun x=>decide (x=gt l n)
  ·rw[cond_false,List.nodup_append]
   refine⟨ih,by simp,fun x hx y hy=>?_⟩
   rw[List.mem_singleton]at hy
   subst hy
   have:=List.any_eq_false.1 h x hx
   simpa using this
  ·exact ih
structure OnceOk (l o:List KT):Prop where
 mem:∀ x,x∈o↔x∈l
 nd:o.Nodup
 sd:Sd (fun x:KT=>x.1) o 0 o.length
 len:o.length≤l.length
def idsK (l:List KT):Prop:=∀ k∈l,0≤k.1∧k.1≤99
def cmpK (x y:KT):Int:=IntKind.wrap .i64 (x.1-y.1)
theorem P104_eq (x y:KT):P104 (x,y)=some (cmpK x y):=rfl
theorem gdK {l:List KT}(h:idsK l):Srt103.Gd cmpK (fun x:KT=>x.1) l:=fun x hx y hy=>by
 have h1:=h x hx
 have h2:=h y hy
 have:=fits_of (n:=x.1-y.1) (by omega) (by omega)
 rw[fits,decide_eq_true_eq]at this
 show cmpK x y < 0↔x.1 < y.1
 unfold cmpK
 rw[this]; omega
theorem P52_eq {l:List KT}(hl:l.length≤1000)(hd:∀ x∈l,x.2.2.1.length≤1000)(hi:idsK l):∃ o,P52 l=some o∧OnceOk l o:=by
 have e:L52_0 (l,(l.length:Int),0,[])=some (onc l l.length):=
  while_run (step:=fun x=>p52_0 x.1 x.2.1 x.2.2.1 x.2.2.2) l.length (fun k=>(l,(l.length:Int),(k:Int),onc l k)) _ (fun k hk=>by
   have hlen:=onc_len l k
   have hdo:∀ x∈onc l k,x.2.2.1.length≤1000:=fun x hx=>by
    obtain⟨j,hj,rfl⟩:=(onc_mem l k x).1 hx
    exact hd _ (gt_mem (by omega))
   have hdk:=hd _ (gt_mem hk)
   simp(disch:=omega) only[p52_0,q52_0,ltN,dT,cond_true,inR_nat,chk_t,ix_gt,P99_eq _ (show(onc l k).length≤1000 by omega) hdo,bind_some',P102_eq hdk,List.length_singleton,capOk_sm,fitK,a1,onc]
   cases(onc l k).any fun x=>decide (x=gt l k) <;> rfl) (by simp(disch:=omega) only[p52_0,q52_0,ltN,dF,cond_false]) (by omega)
 have hlen:=onc_len l l.length
 obtain⟨o,o1,o2,o3⟩:=Srt103.srt P104_eq (K:=fun x:KT=>x.1) (onc l l.length) (by omega)
 refine⟨o,by simp only[P52,p52,q52,e,bind_some',o1],fun x=>?_,?_,?_,by rw[o2.len]; omega⟩
 ·rw[o2.perm.mem_iff,onc_mem]
  exact⟨fun⟨k,hk,e⟩=>e▸gt_mem hk,fun h=>mem_gt h⟩
 ·exact o2.perm.nodup_iff.2 (onc_nodup l _)
 ·rw[o2.len]
  exact o3 (gdK fun k hk=>by obtain⟨j,hj,rfl⟩:=(onc_mem l _ k).1 hk; exact hi _ (gt_mem hj))
def ncB (l:List KT):Bool:=allB l.length fun i=>allB i fun k=>!(decide ((gt l k).1=(gt l i).1)&&!decide (gt l k=gt l i))
theorem ncB_iff {l:List KT}:ncB l=true↔∀ x∈l,∀ y∈l,x.1=y.1→x=y:=by
 constructor
 ·intro h x hx y hy e
  obtain⟨i,hi,rfl⟩:=mem_gt hx
  obtain⟨j,hj,rfl⟩:=mem_gt hy
  rcases Nat.lt_trichotomy i j with q | q | q
  ·simpa [e]using allB_true.1 (allB_true.1 h j hj) i q
  ·rw[q]
  ·simpa [e,eq_comm]using allB_true.1 (allB_true.1 h i hi) j q
 ·intro h
  refine allB_true.2 fun i hi=>allB_true.2 fun k hk=>?_
  by_cases e:(gt l k).1=(gt l i).1
  ·simp[h _ (gt_mem (show k < l.length by omega)) _ (gt_mem hi) e]
  ·simp[e]
theorem nodup_gt {α:Type}[Inhabited α]{o:List α}(h:o.Nodup){i j:Nat}(hi:i < o.length)(hj:j < o.length)(e:gt o i=gt o j):i=j:=by
 rw[gt_lt hi,gt_lt hj]at e
 have hp:=List.pairwise_iff_getElem.1 h
 rcases Nat.lt_trichotomy i j with q | q | q
 ·exact absurd e (hp i j hi hj q)
 ·exact q
 ·exact absurd e.symm (hp j i hj hi q)
theorem P51_eq {l o:List KT}(h:OnceOk l o)(hl:o.length≤1000):P51 o=some (!ncB l):=by
 have e:L51_0 (o,1)=some (cond (allB (o.length-1) fun k=>!decide ((gt o (k+1)).1=(gt o k).1)) (.inr ()) (.inl true)):=by
  refine while_all (o.length-1) (fun k=>(o,((k+1:Nat):Int))) (fun k=>!decide ((gt o (k+1)).1=(gt o k).1)) _ _ (fun k hk=>?_) (by simp(disch:=omega) only[p51_0,q51_0,ltN,dF,cond_false]) (by omega)
  simp(disch:=omega) only[p51_0,q51_0,ltN,dT,cond_true,inR_nat,chk_t,ix_gt,p1,Nat.add_sub_cancel,fitK,a1]
  cases decide ((gt o (k+1)).1=(gt o k).1) <;> rfl
 have hb:(allB (o.length-1) fun k=>!decide ((gt o (k+1)).1=(gt o k).1))=ncB l:=by
  rw[Bool.eq_iff_iff,allB_true,ncB_iff]
  constructor
  ·intro q x hx y hy e
   obtain⟨i,hi,rfl⟩:=mem_gt ((h.mem x).2 hx)
   obtain⟨j,hj,rfl⟩:=mem_gt ((h.mem y).2 hy)
   have lt:∀ i j,i < j→j < o.length→(gt o i).1 < (gt o j).1:=fun i j q1 q2=>by
    have a:(gt o i).1≤(gt o (j-1)).1:=h.sd.le (Nat.zero_le i) (show i≤j-1 by omega) (by omega)
    have b:(gt o (j-1)).1≤(gt o j).1:=h.sd.le (Nat.zero_le (j-1)) (show j-1≤j by omega) q2
    have c:=q (j-1) (by omega)
    rw[show j-1+1=j by omega]at c
    simp only[Bool.not_eq_true',decide_eq_false_iff_not]at c
    omega
   rcases Nat.lt_trichotomy i j with r | r | r
   ·have:=lt i j r hj; omega
   ·rw[r]
   ·have:=lt j i r hi; omega
  ·intro q k hk
   simp only[Bool.not_eq_true',decide_eq_false_iff_not]
   intro e
   have:=nodup_gt h.nd (by omega) (by omega) (q _ ((h.mem _).1 (gt_mem (show k+1 < o.length by omega))) _ ((h.mem _).1 (gt_mem (show k < o.length by omega))) e)
   omega
 rw[hb]at e
 simp only[P51,p51,q51,e,bind_some']
 cases ncB l <;> rfl
def chkV (l:LT):Int:=cond (libB l) (cond (ncB l.2.2.2.1) 0 21) 20
theorem lib_keys {l:LT}(h:libB l=true):(∀ k∈l.2.2.2.1,keyB k=true)∧l.2.2.2.1.length≤20:=by
 unfold libB sizB at h
 simp only[Bool.and_eq_true,List.all_eq_true,lenB,decide_eq_true_eq]at h
 exact⟨h.2.1.1,h.1.2.2.2.1⟩
theorem keyB_id {k:KT}(h:keyB k=true):0≤k.1∧k.1≤99:=by
 unfold keyB at h
 rw[Bool.and_eq_true,wi_iff]at h; exact h.1
theorem lib_ids {l:LT}(h:libB l=true):idsK l.2.2.2.1:=fun k hk=>keyB_id ((lib_keys h).1 k hk)
theorem once_lib {l:LT}(hz:szL l)(h:libB l=true):∃ o,P52 l.2.2.2.1=some o∧OnceOk l.2.2.2.1 o:=
 P52_eq (by have:=hz.k; omega) (fun k hk=>by have:=hz.kd k hk; omega) (lib_ids h)
theorem P28_eq (l:LT)(hz:szL l):P28 l=some (chkV l):=by
 unfold chkV
 cases h:libB l
 ·simp only[P28,p28,q28,P50_eq l hz,h,bind_some',Bool.not_false,cond_true,cond_false]
 ·obtain⟨o,o1,o2⟩:=once_lib hz h
  have:=hz.k
  have:=o2.len
  simp only[P28,p28,q28,P50_eq l hz,h,bind_some',Bool.not_true,cond_true,cond_false,o1,P51_eq o2 (by omega)]
  cases ncB l.2.2.2.1 <;> rfl
end Go.Proofs.YtdacabdocbhkdaaGreat.D
