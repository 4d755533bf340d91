/- Cut down from a longer text. -/
import Derived.Test.YtdacabdocbhkdaaGreatS18r
import Derived.Test.YtdacabdocbhkdaaGreatS5r
import Derived.Test.YtdacabdocbhkdaaGreatB3
import Derived.Sort.LotD4
set_option linter.unusedVariables false
set_option linter.unusedSimpArgs false
set_option linter.unusedSectionVars false
set_option maxRecDepth 100000
namespace Go.Proofs.YtdacabdocbhkdaaGreat.D
open Go Go.Proofs Go.Proofs.YtdacabdocbhkdaaGreat.L
namespace Pdq67
abbrev E:=Int
section
variable {β:Type} [Inhabited β] {v:β→E} {C:β→β→Bool}
def lt (C:β→β→Bool)(x y:β):Bool:=C x y
theorem insI_size (a:Nat):∀ (j:Nat) (d:Array β),(Sort.insInner (lt C) a j d).size=d.size
 | 0,d=>by rw[Sort.insInner]
 | j+1,d=>by
  rw[Sort.insInner]
  split
  ·rw[insI_size a j,swp_size]
  ·rfl
variable (hC:∀ x y,P134 (v x,v y)=some (lt C x y))
include hC
theorem ins1 {a b i:Nat}{j:Nat}{d:Array β}(h1:j < d.size)(h2:d.size≤250)(h3:a≤250):
  L128_1 ((a:Int),(b:Int),(i:Int),(j:Int),MA v d)=some ((a:Int),(b:Int),(i:Int),MA v (Sort.insInner (lt C) a j d)):=by
 refine while_rel (fun s r n=>∃ (j:Nat) (d:Array β),j < d.size∧d.size≤250∧s=((a:Int),(b:Int),(i:Int),(j:Int),MA v d)∧r=((a:Int),(b:Int),(i:Int),MA v (Sort.insInner (lt C) a j d))∧n=j) ⟨j,d,h1,h2,rfl,rfl,rfl⟩ (by omega) ?_
 rintro s r n ⟨j,d,q1,q2,rfl,rfl,rfl⟩
 simp only[p128_1,q128_1]
 cases n with
 | zero=>left; simp(disch:=omega) only[ltN,dF,cond_false,Sort.insInner]
 | succ j=>
  by_cases e:a < j+1
  ·simp(disch:=omega) only[ltN,dT,cond_true,MA_inR,chk_t,p1,fitK,MA_ix,hC,bind_some',Nat.add_sub_cancel,Int.toNat_natCast]
   cases hl:lt C d[j+1]! d[j]!
   ·left
    rw[show Sort.insInner (lt C) a (j+1) d=d by rw[Sort.insInner]; simp[hl]]
    simp only[cond_false]
   ·right
    rw[show Sort.insInner (lt C) a (j+1) d=Sort.insInner (lt C) a j (Sort.swp d (j+1) j)by rw[Sort.insInner]; simp[hl,e]]
    simp(disch:=omega) only[cond_true,MA_set,MA_inRs,MA_swp,chk_t]
    exact⟨_,j,rfl,⟨j,Sort.swp d (j+1) j,by rw[swp_size]; omega,by rwa [swp_size],rfl,rfl,rfl⟩,by omega⟩
  ·left
   rw[show Sort.insInner (lt C) a (j+1) d=d by rw[Sort.insInner]; simp[e]]
   simp(disch:=omega) only[ltN,dF,cond_false]
theorem ins {a b:Nat}{d:Array β}(hb:b≤d.size)(hz:d.size≤250)(ha:a≤250):P128 ((a:Int),(b:Int),MA v d)=some (MA v (Sort.insertionSort (lt C) d a b)):=by
 have e:L128_0 ((a:Int),(b:Int),((a+1:Nat):Int),MA v d)=some (MA v (Sort.insOuter (lt C) a b (a+1) d)):=by
  refine while_rel (fun s r n=>∃ (i:Nat) (d:Array β),b≤d.size∧d.size≤250∧s=((a:Int),(b:Int),(i:Int),MA v d)∧r=MA v (Sort.insOuter (lt C) a b i d)∧n=b-i) ⟨a+1,d,hb,hz,rfl,rfl,rfl⟩ (by omega) ?_
  rintro s r n ⟨i,d,q1,q2,rfl,rfl,rfl⟩
  simp only[p128_0,q128_0]
  rw[Sort.insOuter]
  by_cases e:i < b
  ·right
   simp(disch:=omega) only[ltN,dT,cond_true,ins1 hC,bind_some',fitK,chk_t,a1]
   exact⟨_,b-(i+1),rfl,⟨i+1,Sort.insInner (lt C) a i d,by rwa [insI_size],by rwa [insI_size],rfl,by rw[if_pos e],rfl⟩,by omega⟩
  ·left
   simp(disch:=omega) only[ltN,dF,cond_false,if_neg e]
 simp(disch:=omega) only[P128,p128,q128,fitK,chk_t,a1,e,bind_some',Sort.insertionSort]
theorem small (f m:Nat)(limit:Nat)(wb wp:Bool){d:Array β}(hm:0 < m)(h12:d.size≤12):goF (fun x=>p111_0 (R111 f) x.1 x.2.1 x.2.2.1 x.2.2.2.1 x.2.2.2.2.1 x.2.2.2.2.2) m (((0:Nat):Int),(d.size:Int),(limit:Int),wb,wp,MA v d)=some (MA v (Sort.insertionSort (lt C) d 0 d.size)):=by
 obtain⟨m,rfl⟩:∃ m',m=m'+1:=⟨m-1,by omega⟩
 have g:decide (((d.size-0:Nat):Int)≤12)=true:=by simp; omega
 simp(disch:=omega) only[goF,p111_0,q111_0,pn,fitK,chk_t,g,cond_true,ins hC,bind_some']
theorem top {d:Array β}(hz:d.size≤12):P66 (MA v d)=some (MA v (Sort.insertionSort (lt C) d 0 d.size)):=by
 have fu:fits .u64 (d.size:Int)=true:=fitsU (by omega) (by omega)
 have k':L111_0 (R111 18446744073709551615) (0,(d.size:Int),((Sort.bitsLen d.size:Nat):Int),true,true,MA v d)=some (MA v (Sort.insertionSort (lt C) d 0 d.size)):=small hC 18446744073709551615 18446744073709551616 (Sort.bitsLen d.size) true true (by omega) hz
 have e:P111 (0,(d.size:Int),((Sort.bitsLen d.size:Nat):Int),MA v d)=some (MA v (Sort.insertionSort (lt C) d 0 d.size)):=by
  show p111 (R111 18446744073709551615) _ _ _ _=_
  simp only[p111,q111,k',bind_some']
 simp(disch:=omega) only[P66,p66,q66,MA_len,fu,chk_t,Pdq76.blen,bind_some',e]
end
theorem srt (K:E→Int)(gd:E→Prop)(x0:E)(h0:gd x0)(hK:∀ x y,gd x→gd y→∃ c:Bool,P134 (x,y)=some c∧(c=true↔K x < K y)){l:List E}(hl:∀ x∈l,gd x)(hz:l.length≤12):
  ∃ l',P66 l=some l'∧l'.Perm l∧Sd K l' 0 l'.length:=by
 letI:Inhabited {x:E // gd x}:=⟨⟨x0,h0⟩⟩
 let C:{x:E // gd x}→{x:E // gd x}→Bool:=fun x y=>Classical.choose (hK x.1 y.1 x.2 y.2)
 have hC:∀ x y:{x:E // gd x},P134 (x.1,y.1)=some (lt C x y):=fun x y=>(Classical.choose_spec (hK x.1 y.1 x.2 y.2)).1
 have hlt:∀ x y:{x:E // gd x},lt C x y=true↔K x.1 < K y.1:=fun x y=>(Classical.choose_spec (hK x.1 y.1 x.2 y.2)).2
 have hlf:∀ x y:{x:E // gd x},lt C x y=false↔K y.1≤K x.1:=fun x y=>by rw[← Bool.not_eq_true,hlt]; omega
 have hS:Sort.SWO (lt C):=⟨fun x=>(hlf x x).2 (Int.le_refl _),fun x y z h1 h2=>(hlt _ _).2 (Int.lt_trans ((hlt _ _).1 h1) ((hlt _ _).1 h2)),fun x y z h1 h2=>(hlf _ _).2 (Int.le_trans ((hlf _ _).1 h2) ((hlf _ _).1 h1))⟩
 let d:Array {x:E // gd x}:=(l.attach.map fun x=>⟨x.1,hl x.1 x.2⟩).toArray
 have hd:MA (fun x:{x:E // gd x}=>x.1) d=l:=by
  simp only[MA,d,List.map_map]
  exact List.attach_map_subtype_val l
 have hds:d.size=l.length:=by simp[d]
 obtain⟨s1,s2⟩:=(Sort.insertionSort_holds:Sort.insertionSort_stmt (lt C)) hS d 0 d.size (Nat.zero_le _) (Nat.le_refl _)
 have ht:=top (v:=fun x:{x:E // gd x}=>x.1) hC (d:=d) (by omega)
 rw[hd]at ht
 refine⟨_,ht,?_,fun i j q1 q2 q3=>?_⟩
 ·have hp:=s1.2.2
  have e1:∀ r:Array {x:E // gd x},r.size=d.size→r.extract 0 d.size=r:=fun r hr=>by rw[← hr]; simp
  rw[e1 _ s1.1,show d.extract 0 d.size=d by simp]at hp
  have:=hp.map (fun x:{x:E // gd x}=>x.1)
  rw[← hd]
  exact this
 ·rw[MA_len]at q3
  have e:∀ k,k < (Sort.insertionSort (lt C) d 0 d.size).size→gt (MA (fun x:{x:E // gd x}=>x.1) (Sort.insertionSort (lt C) d 0 d.size)) k=((Sort.insertionSort (lt C) d 0 d.size)[k]!).1:=fun k hk=>by rw[← ix_gt,MA_ix hk]
  rw[e i (by omega),e j q3]
  exact(hlf _ _).1 (s2 i j q1 q2 (by have:=s1.1; omega))
end Pdq67
end Go.Proofs.YtdacabdocbhkdaaGreat.D
