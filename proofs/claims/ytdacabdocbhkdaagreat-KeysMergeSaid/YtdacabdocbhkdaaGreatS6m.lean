/- Cut down from a longer text. -/
import Derived.Test.YtdacabdocbhkdaaGreatS5m
import Derived.Test.YtdacabdocbhkdaaGreatB3
import Derived.Sort.LotD4
set_option linter.unusedVariables false
set_option linter.unusedSimpArgs false
set_option linter.unusedSectionVars false
set_option maxRecDepth 100000
namespace Go.Proofs.YtdacabdocbhkdaaGreat.D
open Go Go.Proofs L
namespace Pdq108
abbrev E:=Int×Int
section
variable {β:Type} [Inhabited β] {v:β→E} {C:β→β→Int}
def lt (C:β→β→Int)(x y:β):Bool:=decide (C x y < 0)
theorem ltE (x y:β):decide (C x y < 0)=lt C x y:=rfl
theorem insI_size (a:Nat):∀ (j:Nat) (d:Array β),(Sort.insInner (lt C) a j d).size=d.size
 | 0,d=>by rw[Sort.insInner]
 | j+1,d=>by
  rw[Sort.insInner]
  split
  ·rw[insI_size a j,swp_size]
  ·rfl
variable (hC:∀ x y,P109 (v x,v y)=some (C x y))
include hC
theorem ins1 {a b i:Nat}{j:Nat}{d:Array β}(h1:j < d.size)(h2:d.size≤250)(h3:a≤250):
  L149_1 ((a:Int),(b:Int),(i:Int),(j:Int),MA v d)=some ((a:Int),(b:Int),(i:Int),MA v (Sort.insInner (lt C) a j d)):=by
 refine while_rel (fun s r n=>∃ (j:Nat) (d:Array β),j < d.size∧d.size≤250∧s=((a:Int),(b:Int),(i:Int),(j:Int),MA v d)∧r=((a:Int),(b:Int),(i:Int),MA v (Sort.insInner (lt C) a j d))∧n=j) ⟨j,d,h1,h2,rfl,rfl,rfl⟩ (by omega) ?_
 rintro s r n ⟨j,d,q1,q2,rfl,rfl,rfl⟩
 simp only[p149_1,q149_1]
 cases n with
 | zero=>left; simp(disch:=omega) only[ltN,dF,cond_false,Sort.insInner]
 | succ j=>
  by_cases e:a < j+1
  ·simp(disch:=omega) only[ltN,dT,cond_true,MA_inR,chk_t,p1,fitK,MA_ix,hC,bind_some',ltE,Nat.add_sub_cancel,Int.toNat_natCast]
   cases hl:lt C d[j+1]! d[j]!
   ·left
    rw[show Sort.insInner (lt C) a (j+1) d=d by rw[Sort.insInner]; simp[hl]]
    simp only[cond_false]
   ·right
    rw[show Sort.insInner (lt C) a (j+1) d=Sort.insInner (lt C) a j (Sort.swp d (j+1) j)by rw[Sort.insInner]; simp[hl,e]]
    simp(disch:=omega) only[cond_true,MA_set,MA_inRs,MA_swp,chk_t]
    exact⟨_,j,rfl,⟨j,Sort.swp d (j+1) j,by rw[swp_size]; omega,by rwa [swp_size],rfl,rfl,rfl⟩,by omega⟩
  ·left
   rw[show Sort.insInner (lt C) a (j+1) d=d by rw[Sort.insInner]; simp[e]]
   simp(disch:=omega) only[ltN,dF,cond_false]
theorem ins {a b:Nat}{d:Array β}(hb:b≤d.size)(hz:d.size≤250)(ha:a≤250):P149 ((a:Int),(b:Int),MA v d)=some (MA v (Sort.insertionSort (lt C) d a b)):=by
 have e:L149_0 ((a:Int),(b:Int),((a+1:Nat):Int),MA v d)=some (MA v (Sort.insOuter (lt C) a b (a+1) d)):=by
  refine while_rel (fun s r n=>∃ (i:Nat) (d:Array β),b≤d.size∧d.size≤250∧s=((a:Int),(b:Int),(i:Int),MA v d)∧r=MA v (Sort.insOuter (lt C) a b i d)∧n=b-i) ⟨a+1,d,hb,hz,rfl,rfl,rfl⟩ (by omega) ?_
  rintro s r n ⟨i,d,q1,q2,rfl,rfl,rfl⟩
  simp only[p149_0,q149_0]
  rw[Sort.insOuter]
  by_cases e:i < b
  ·right
   simp(disch:=omega) only[ltN,dT,cond_true,ins1 hC,bind_some',fitK,chk_t,a1]
   exact⟨_,b-(i+1),rfl,⟨i+1,Sort.insInner (lt C) a i d,by rwa [insI_size],by rwa [insI_size],rfl,by rw[if_pos e],rfl⟩,by omega⟩
  ·left
   simp(disch:=omega) only[ltN,dF,cond_false,if_neg e]
 simp(disch:=omega) only[P149,p149,q149,fitK,chk_t,a1,e,bind_some',Sort.insertionSort]
theorem top {d:Array β}(hz:d.size≤12):P108 (MA v d)=some (MA v (Sort.insertionSort (lt C) d 0 d.size)):=by
 have fu:fits .u64 (d.size:Int)=true:=fitsU (by omega) (by omega)
 have k:L127_0 (0,(d.size:Int),((Sort.bitsLen d.size:Nat):Int),true,true,MA v d)=some (MA v (Sort.insertionSort (lt C) d 0 d.size)):=by
  refine while_run 0 (fun _=>(0,(d.size:Int),((Sort.bitsLen d.size:Nat):Int),true,true,MA v d)) _ (fun i hi=>by omega) ?_ (by omega)
  have g:decide ((d.size:Int)-0≤12)=true:=decide_eq_true (by omega)
  have z:(d.size:Int)-0=(d.size:Int):=by omega
  have i:=ins hC (a:=0) (b:=d.size) (d:=d) (Nat.le_refl _) (by omega) (by omega)
  have i':P149 (0,(d.size:Int),MA v d)=some (MA v (Sort.insertionSort (lt C) d 0 d.size)):=i
  simp(disch:=omega) only[p127_0,q127_0,z,fitK,chk_t,i',bind_some']
  rw[z]at g
  rw[g]; rfl
 have e:P127 (0,(d.size:Int),((Sort.bitsLen d.size:Nat):Int),MA v d)=some (MA v (Sort.insertionSort (lt C) d 0 d.size)):=by
  simp only[P127,p127,q127,k,bind_some']
 simp(disch:=omega) only[P108,p108,q108,MA_len,fu,chk_t,Pdq76.blen,bind_some',e]
end
theorem srt (K:E→Int)(gd:E→Prop)(x0:E)(h0:gd x0)(hK:∀ x y,gd x→gd y→∃ c:Int,P109 (x,y)=some c∧(decide (c < 0)=true↔K x < K y)){l:List E}(hl:∀ x∈l,gd x)(hz:l.length≤12):
  ∃ l',P108 l=some l'∧l'.Perm l∧Sd K l' 0 l'.length:=by
 letI:Inhabited {x:E // gd x}:=⟨⟨x0,h0⟩⟩
 let C:{x:E // gd x}→{x:E // gd x}→Int:=fun x y=>Classical.choose (hK x.1 y.1 x.2 y.2)
 have hC:∀ x y:{x:E // gd x},P109 (x.1,y.1)=some (C x y):=fun x y=>(Classical.choose_spec (hK x.1 y.1 x.2 y.2)).1
 have hlt:∀ x y:{x:E // gd x},lt C x y=true↔K x.1 < K y.1:=fun x y=>(Classical.choose_spec (hK x.1 y.1 x.2 y.2)).2
 have hlf:∀ x y:{x:E // gd x},lt C x y=false↔K y.1≤K x.1:=fun x y=>by rw[← Bool.not_eq_true,hlt]; omega
 have hS:Sort.SWO (lt C):=⟨fun x=>(hlf x x).2 (Int.le_refl _),fun x y z h1 h2=>(hlt _ _).2 (Int.lt_trans ((hlt _ _).1 h1) ((hlt _ _).1 h2)),fun x y z h1 h2=>(hlf _ _).2 (Int.le_trans ((hlf _ _).1 h2) ((hlf _ _).1 h1))⟩
 let d:Array {x:E // gd x}:=(l.attach.map fun x=>⟨x.1,hl x.1 x.2⟩).toArray
 have hd:MA (fun x:{x:E // gd x}=>x.1) d=l:=by
  simp only[MA,d,List.map_map]
  exact List.attach_map_subtype_val l
 have hds:d.size=l.length:=by simp[d]
 obtain⟨s1,s2⟩:=(Sort.insertionSort_holds:Sort.insertionSort_stmt (lt C)) hS d 0 d.size (Nat.zero_le _) (Nat.le_refl _)
 have ht:=top (v:=fun x:{x:E // gd x}=>x.1) hC (d:=d) (by omega)
 rw[hd]at ht
 refine⟨_,ht,?_,fun i j q1 q2 q3=>?_⟩
 ·have hp:=s1.2.2
  have e1:∀ r:Array {x:E // gd x},r.size=d.size→r.extract 0 d.size=r:=fun r hr=>by rw[← hr]; simp
  rw[e1 _ s1.1,show d.extract 0 d.size=d by simp]at hp
  have:=hp.map (fun x:{x:E // gd x}=>x.1)
  rw[← hd]
  exact this
 ·rw[MA_len]at q3
  have e:∀ k,k < (Sort.insertionSort (lt C) d 0 d.size).size→gt (MA (fun x:{x:E // gd x}=>x.1) (Sort.insertionSort (lt C) d 0 d.size)) k=((Sort.insertionSort (lt C) d 0 d.size)[k]!).1:=fun k hk=>by rw[← ix_gt,MA_ix hk]
  rw[e i (by omega),e j q3]
  exact(hlf _ _).1 (s2 i j q1 q2 (by have:=s1.1; omega))
end Pdq108
end Go.Proofs.YtdacabdocbhkdaaGreat.D
