/- Cut down from a longer text. -/
import Derived.Test.YtdacabdocbhkdaaGreatS4m
import Derived.Test.YtdacabdocbhkdaaGreatB3
import Derived.Sort.LotD4
set_option linter.unusedVariables false
set_option linter.unusedSimpArgs false
set_option linter.unusedSectionVars false
set_option maxRecDepth 100000
namespace Go.Proofs.YtdacabdocbhkdaaGreat.D
open Go Go.Proofs L
namespace Pdq76
abbrev E:=Int×Int
section
variable {β:Type} [Inhabited β] {v:β→E} {C:β→β→Int}
def lt (C:β→β→Int)(x y:β):Bool:=decide (C x y < 0)
theorem ltE (x y:β):decide (C x y < 0)=lt C x y:=rfl
theorem insI_size (a:Nat):∀ (j:Nat) (d:Array β),(Sort.insInner (lt C) a j d).size=d.size
 | 0,d=>by rw[Sort.insInner]
 | j+1,d=>by
  rw[Sort.insInner]
  split
  ·rw[insI_size a j,swp_size]
  ·rfl
theorem sift_size (hi first:Nat):∀ (n root:Nat) (d:Array β),hi-root≤n→(Sort.siftDown (lt C) hi first root d).size=d.size:=by
 intro n
 induction n with
 | zero=>intro root d h; rw[Sort.siftDown,dif_pos (by omega)]
 | succ n ih=>
  intro root d h
  rw[Sort.siftDown]
  split
  ·rfl
  ·split
   ·split
    ·rfl
    ·rw[dif_pos (by rename_i h1 h2 h3; simp only[Bool.and_eq_true,decide_eq_true_eq]at h2; omega),ih _ _ (by omega),swp_size]
   ·split
    ·rfl
    ·rw[ih _ _ (by omega),swp_size]
theorem heapB_size (hi first:Nat):∀ (k:Nat) (d:Array β),(Sort.heapBuild (lt C) hi first k d).size=d.size
 | 0,d=>rfl
 | k+1,d=>by rw[Sort.heapBuild,heapB_size hi first k,sift_size hi first _ k d (Nat.le_refl _)]
variable (hC:∀ x y,P77 (v x,v y)=some (C x y))
include hC
theorem ins1 {a b i:Nat}{j:Nat}{d:Array β}(h1:j < d.size)(h2:d.size≤250)(h3:a≤250):
  L139_1 ((a:Int),(b:Int),(i:Int),(j:Int),MA v d)=some ((a:Int),(b:Int),(i:Int),MA v (Sort.insInner (lt C) a j d)):=by
 refine while_rel (fun s r n=>∃ (j:Nat) (d:Array β),j < d.size∧d.size≤250∧s=((a:Int),(b:Int),(i:Int),(j:Int),MA v d)∧r=((a:Int),(b:Int),(i:Int),MA v (Sort.insInner (lt C) a j d))∧n=j) ⟨j,d,h1,h2,rfl,rfl,rfl⟩ (by omega) ?_
 rintro s r n ⟨j,d,q1,q2,rfl,rfl,rfl⟩
 simp only[p139_1,q139_1]
 cases n with
 | zero=>left; simp(disch:=omega) only[ltN,dF,cond_false,Sort.insInner]
 | succ j=>
  by_cases e:a < j+1
  ·simp(disch:=omega) only[ltN,dT,cond_true,MA_inR,chk_t,p1,fitK,MA_ix,hC,bind_some',ltE,Nat.add_sub_cancel,Int.toNat_natCast]
   cases hl:lt C d[j+1]! d[j]!
   ·left
    rw[show Sort.insInner (lt C) a (j+1) d=d by rw[Sort.insInner]; simp[hl]]
    simp only[cond_false]
   ·right
    rw[show Sort.insInner (lt C) a (j+1) d=Sort.insInner (lt C) a j (Sort.swp d (j+1) j)by rw[Sort.insInner]; simp[hl,e]]
    simp(disch:=omega) only[cond_true,MA_set,MA_inRs,MA_swp,chk_t]
    exact⟨_,j,rfl,⟨j,Sort.swp d (j+1) j,by rw[swp_size]; omega,by rwa [swp_size],rfl,rfl,rfl⟩,by omega⟩
  ·left
   rw[show Sort.insInner (lt C) a (j+1) d=d by rw[Sort.insInner]; simp[e]]
   simp(disch:=omega) only[ltN,dF,cond_false]
theorem ins {a b:Nat}{d:Array β}(hb:b≤d.size)(hz:d.size≤250)(ha:a≤250):P139 ((a:Int),(b:Int),MA v d)=some (MA v (Sort.insertionSort (lt C) d a b)):=by
 have e:L139_0 ((a:Int),(b:Int),((a+1:Nat):Int),MA v d)=some (MA v (Sort.insOuter (lt C) a b (a+1) d)):=by
  refine while_rel (fun s r n=>∃ (i:Nat) (d:Array β),b≤d.size∧d.size≤250∧s=((a:Int),(b:Int),(i:Int),MA v d)∧r=MA v (Sort.insOuter (lt C) a b i d)∧n=b-i) ⟨a+1,d,hb,hz,rfl,rfl,rfl⟩ (by omega) ?_
  rintro s r n ⟨i,d,q1,q2,rfl,rfl,rfl⟩
  simp only[p139_0,q139_0]
  rw[Sort.insOuter]
  by_cases e:i < b
  ·right
   simp(disch:=omega) only[ltN,dT,cond_true,ins1 hC,bind_some',fitK,chk_t,a1]
   exact⟨_,b-(i+1),rfl,⟨i+1,Sort.insInner (lt C) a i d,by rwa [insI_size],by rwa [insI_size],rfl,by rw[if_pos e],rfl⟩,by omega⟩
  ·left
   simp(disch:=omega) only[ltN,dF,cond_false,if_neg e]
 simp(disch:=omega) only[P139,p139,q139,fitK,chk_t,a1,e,bind_some',Sort.insertionSort]
theorem sift {lo hi first:Nat}{d:Array β}(hs:first+hi≤d.size)(hl:lo < hi∨hi=0)(hz:d.size≤250)(h0:lo≤250):P163 ((lo:Int),(hi:Int),(first:Int),MA v d)=some (MA v (Sort.siftDown (lt C) hi first lo d)):=by
 have key:∃ y,L163_0 ((hi:Int),(first:Int),(lo:Int),MA v d)=some y∧Sum.elim id id y=MA v (Sort.siftDown (lt C) hi first lo d):=by
  refine while_relE (fun s n=>∃ (root:Nat) (d':Array β),first+hi≤d'.size∧(root < hi∨hi=0)∧d'.size≤250∧root≤250∧s=((hi:Int),(first:Int),(root:Int),MA v d')∧Sort.siftDown (lt C) hi first root d'=Sort.siftDown (lt C) hi first lo d∧n=hi-root) _
   ⟨lo,d,hs,hl,hz,h0,rfl,rfl,rfl⟩ (by omega) ?_
  rintro s n ⟨root,d',g1,g0,g2,g3,rfl,g4,rfl⟩
  rw[← g4]
  clear g4
  simp only[p163_0,q163_0]
  rw[Sort.siftDown]
  by_cases e:hi≤2*root+1
  ·left
   simp(disch:=omega) only[m2,fitK,chk_t,fitK,a1,leN,dT,cond_true,dif_pos (show 2*root+1≥hi from e)]
   exact⟨_,rfl,rfl⟩
  ·simp(disch:=omega) only[m2,fitK,chk_t,fitK,a1,leN,ltN,dF,cond_false,dif_neg (show ¬ 2*root+1≥hi from e),an]
   by_cases e2:2*root+1+1 < hi
   ·simp(disch:=omega) only[dT,cond_true,fitK,chk_t,MA_inR,MA_ix,hC,bind_some',ltE,Bool.true_and]
    cases hl1:lt C d'[first+(2*root+1)]! d'[first+(2*root+1)+1]!
    ·simp(disch:=omega) only[cond_false,fitK,chk_t,MA_inR,MA_ix,hC,bind_some',ltE,Bool.false_eq_true,if_false]
     cases hl2:lt C d'[first+root]! d'[first+(2*root+1)]!
     ·left; simp only[Bool.not_false,cond_true,if_true]; exact⟨_,rfl,rfl⟩
     ·right
      simp(disch:=omega) only[Bool.not_true,cond_false,Bool.false_eq_true,if_false,MA_inR,chk_t,Int.toNat_natCast,MA_set,MA_inRs,MA_swp]
      exact⟨_,hi-(2*root+1),rfl,⟨2*root+1,Sort.swp d' (first+root) (first+(2*root+1)),by rw[swp_size]; omega,by omega,by rw[swp_size]; omega,by omega,rfl,rfl,rfl⟩,by omega⟩
    ·simp(disch:=omega) only[cond_true,fitK,chk_t,MA_inR,MA_ix,hC,bind_some',ltE,if_true]
     cases hl2:lt C d'[first+root]! d'[first+(2*root+1+1)]!
     ·left
      have hl2':lt C d'[first+root]! d'[first+(2*root+2)]! = false:=hl2
      simp only[Bool.not_false,cond_true,hl2',if_true]; exact⟨_,rfl,rfl⟩
     ·right
      have hl2':lt C d'[first+root]! d'[first+(2*root+2)]! = true:=hl2
      simp(disch:=omega) only[hl2',Bool.not_true,cond_false,Bool.false_eq_true,if_false,MA_inR,chk_t,Int.toNat_natCast,MA_set,MA_inRs,MA_swp,dif_pos (show 2*root+2 < hi from e2)]
      exact⟨_,hi-(2*root+1+1),rfl,⟨2*root+1+1,Sort.swp d' (first+root) (first+(2*root+2)),by rw[swp_size]; omega,by omega,by rw[swp_size]; omega,by omega,rfl,rfl,rfl⟩,by omega⟩
   ·simp(disch:=omega) only[dF,cond_false,fitK,chk_t,MA_inR,MA_ix,hC,bind_some',ltE,Bool.false_and,Bool.false_eq_true,if_false]
    cases hl2:lt C d'[first+root]! d'[first+(2*root+1)]!
    ·left; simp only[Bool.not_false,cond_true,if_true]; exact⟨_,rfl,rfl⟩
    ·right
     simp(disch:=omega) only[Bool.not_true,cond_false,Bool.false_eq_true,if_false,MA_inR,chk_t,Int.toNat_natCast,MA_set,MA_inRs,MA_swp]
     exact⟨_,hi-(2*root+1),rfl,⟨2*root+1,Sort.swp d' (first+root) (first+(2*root+1)),by rw[swp_size]; omega,by omega,by rw[swp_size]; omega,by omega,rfl,rfl,rfl⟩,by omega⟩
 obtain⟨y,e1,e2⟩:=key
 simp only[P163,p163,q163,e1,bind_some']
 cases y with
 | inl x=>simp only[Sum.elim_inl]; rw[← e2]; rfl
 | inr x=>simp only[Sum.elim_inr]; rw[← e2]; rfl
theorem heap {a b:Nat}{d:Array β}(hab:a < b)(hb:b≤d.size)(hz:d.size≤250):P140 ((a:Int),(b:Int),MA v d)=some (MA v (Sort.heapSort (lt C) d a b)):=by
 have c0:∀ k:Nat,(0:Int)=((0:Nat):Int):=fun _=>rfl
 have e1:∀ (k:Nat),k≤b-a→L140_0 ((a:Int),0,((b-a:Nat):Int),(k:Int)-1,MA v d)=some ((a:Int),0,((b-a:Nat):Int),MA v (Sort.heapBuild (lt C) (b-a) a k d)):=fun k hk=>by
  refine while_rel (fun s r n=>∃ (k:Nat) (d':Array β),k≤b-a∧d'.size=d.size∧s=((a:Int),0,((b-a:Nat):Int),(k:Int)-1,MA v d')∧r=((a:Int),0,((b-a:Nat):Int),MA v (Sort.heapBuild (lt C) (b-a) a k d'))∧n=k) ⟨k,d,hk,rfl,rfl,rfl,rfl⟩ (by omega) ?_
  rintro s r n ⟨k,d',q1,q2,rfl,rfl,rfl⟩
  simp only[p140_0,q140_0]
  cases n with
  | zero=>left; rfl
  | succ k=>
   right
   have g1:((k+1:Nat):Int)-1=(k:Int):=by omega
   have g2:decide ((0:Int)≤(k:Int))=true:=by simp
   simp(disch:=omega) only[g1,g2,cond_true,sift hC,bind_some',fitM1,chk_t]
   exact⟨_,k,rfl,⟨k,Sort.siftDown (lt C) (b-a) a k d',by omega,by rw[sift_size _ _ _ _ _ (Nat.le_refl _),q2],rfl,rfl,rfl⟩,by omega⟩
 have e2:∀ (d:Array β) (k:Nat),k≤b-a→b≤d.size→d.size≤250→L140_1 ((a:Int),0,(k:Int)-1,MA v d)=some (MA v (Sort.heapPop (lt C) a k d)):=fun d k hk hb hz=>by
  refine while_rel (fun s r n=>∃ (k:Nat) (d':Array β),k≤b-a∧d'.size=d.size∧s=((a:Int),0,(k:Int)-1,MA v d')∧r=MA v (Sort.heapPop (lt C) a k d')∧n=k) ⟨k,d,hk,rfl,rfl,rfl,rfl⟩ (by omega) ?_
  rintro s r n ⟨k,d',q1,q2,rfl,rfl,rfl⟩
  simp only[p140_1,q140_1]
  cases n with
  | zero=>left; rfl
  | succ k=>
   right
   have g1:((k+1:Nat):Int)-1=(k:Int):=by omega
   have g2:decide ((0:Int)≤(k:Int))=true:=by simp
   have g3:P163 (0,(k:Int),(a:Int),MA v (Sort.swp d' a (a+k)))=some (MA v (Sort.siftDown (lt C) k a 0 (Sort.swp d' a (a+k)))):=sift hC (lo:=0) (by rw[swp_size]; omega) (by omega) (by rw[swp_size]; omega) (by omega)
   simp(disch:=omega) only[g1,g2,cond_true,an,fitK,chk_t,MA_inR,MA_ix,Int.toNat_natCast,MA_set,MA_inRs,MA_swp,g3,bind_some',fitM1]
   exact⟨_,k,rfl,⟨k,Sort.siftDown (lt C) k a 0 (Sort.swp d' a (a+k)),by omega,by rw[sift_size _ _ _ _ _ (Nat.le_refl _),swp_size,q2],rfl,rfl,rfl⟩,by omega⟩
 have t1:((b-a-1:Nat):Int)=(b:Int)-(a:Int)-1:=by omega
 have t2:Int.tdiv ((b-a-1:Nat):Int) 2=((b-a-1) / 2:Nat):=tdN _
 have e1':=e1 ((b-a-1) / 2+1) (by omega)
 rw[show(((b-a-1) / 2+1:Nat):Int)-1=(((b-a-1) / 2:Nat):Int)by omega]at e1'
 have e2':=e2 (Sort.heapBuild (lt C) (b-a) a ((b-a-1) / 2+1) d) (b-a) (Nat.le_refl _) (by rw[heapB_size]; exact hb) (by rw[heapB_size]; exact hz)
 simp(disch:=omega) only[P140,p140,q140,pn,fitK,chk_t,p1,t2,e1',bind_some',fitM1]
 rw[show((b-a-1:Nat):Int)=((b-a:Nat):Int)-1 by omega]
 simp(disch:=omega) only[fitM1,chk_t,e2',bind_some',Sort.heapSort]
omit hC
theorem blen {n:Nat}(h:n < 256):P112 (n:Int)=some ((Sort.bitsLen n:Nat):Int):=by
 have f:fits .u8 (n:Int)=true:=by
  rw[fits,decide_eq_true_eq]
  have e2:(2:Int)^8=256:=by decide
  simp only[IntKind.wrap,IntKind.bits,IntKind.signed,Bool.false_and,e2,Bool.false_eq_true,if_false]
  omega
 have d1:decide ((4294967296:Int)≤(n:Int))=false:=by simp; omega
 have d2:decide ((65536:Int)≤(n:Int))=false:=by simp; omega
 have d3:decide ((256:Int)≤(n:Int))=false:=by simp; omega
 simp only[P112,p112,q112,P138,p138,q138,L138_0,p138_0,q138_0,d1,cond_false,bind_some',L138_1,p138_1,q138_1,d2,L138_2,p138_2,q138_2,d3,f,chk_t]
 have key:∀ m:Fin 256,∀ t:ByteArray,t=(⟨#[0,1,2,2,3,3,3,3,4,4,4,4,4,4,4,4,5,5,5,5,5,5,5,5,5,5,5,5,5,5,5,5,6,6,6,6,6,6,6,6,6,6,6,6,6,6,6,6,6,6,6,6,6,6,6,6,6,6,6,6,6,6,6,6,7,7,7,7,7,7,7,7,7,7,7,7,7,7,7,7,7,7,7,7,7,7,7,7,7,7,7,7,7,7,7,7,7,7,7,7,7,7,7,7,7,7,7,7,7,7,7,7,7,7,7,7,7,7,7,7,7,7,7,7,7,7,7,7,8,8,8,8,8,8,8,8,8,8,8,8,8,8,8,8,8,8,8,8,8,8,8,8,8,8,8,8,8,8,8,8,8,8,8,8,8,8,8,8,8,8,8,8,8,8,8,8,8,8,8,8,8,8,8,8,8,8,8,8,8,8,8,8,8,8,8,8,8,8,8,8,8,8,8,8,8,8,8,8,8,8,8,8,8,8,8,8,8,8,8,8,8,8,8,8,8,8,8,8,8,8,8,8,8,8,8,8,8,8,8,8,8,8,8,8,8,8,8,8,8,8,8,8,8,8,8,8]⟩:ByteArray)→inR (m.val:Int) t.size=true∧bix t (m.val:Int)=((Sort.bitsLen m.val:Nat):Int):=by
  intro m t ht
  subst ht
  constructor
  ·exact inR_nat (by have:=m.isLt; exact this)
  ·revert m; decide +kernel
 obtain⟨k1,k2⟩:=key ⟨n,h⟩ _ rfl
 simp only at k1 k2
 have hl:=(Sort.bitsLen_le_iff n 8).2 (by omega)
 have z:(0:Int)+((Sort.bitsLen n:Nat):Int)=((Sort.bitsLen n:Nat):Int):=by omega
 simp(disch:=omega) only[k1,chk_t,k2,z,fitK,bind_some']
theorem npt {n:Nat}(h:n < 256):P158 (n:Int)=some (((1 <<< Sort.bitsLen n:Nat)):Int):=by
 have hl:=(Sort.bitsLen_le_iff n 8).2 (by omega)
 have f:fits .u64 (n:Int)=true:=fitsU (by omega) (by omega)
 have d:decide ((0:Int)≤((Sort.bitsLen n:Nat):Int))=true:=by simp
 have e:shlI .u64 1 ((Sort.bitsLen n:Nat):Int)=((1 <<< Sort.bitsLen n:Nat):Int):=by
  have hm:min ((Sort.bitsLen n:Nat):Int).toNat (IntKind.bits .u64)=Sort.bitsLen n:=by show min (Sort.bitsLen n) 64=_; omega
  have h2:2^Sort.bitsLen n≤2^8:=Nat.pow_le_pow_right (by omega) hl
  unfold shlI
  rw[hm,show((1:Int)*2^Sort.bitsLen n)=((2^Sort.bitsLen n:Nat):Int)by simp,wrapU (by omega),Nat.one_shiftLeft]
 simp only[P158,p158,q158,f,chk_t,blen h,bind_some',d,e]
theorem xorS (r:UInt64):P159 (r.toNat:Int)=some (((Sort.xorNext r).toNat:Int),((Sort.xorNext r).toNat:Int)):=by
 have s13:∀ a:UInt64,shlI .u64 (a.toNat:Int) 13=((a <<< 13).toNat:Int):=fun a=>shlU a 13 (by omega)
 have s7:∀ a:UInt64,shrI .u64 (a.toNat:Int) 7=((a >>> 7).toNat:Int):=fun a=>shrU a 7 (by omega)
 have s17:∀ a:UInt64,shlI .u64 (a.toNat:Int) 17=((a <<< 17).toNat:Int):=fun a=>shlU a 17 (by omega)
 simp only[P159,p159,q159,s13,s7,s17,bxorU,Sort.xorNext]
theorem brk {a b:Nat}{d:Array β}(hab:a≤b)(hb:b≤d.size)(hz:d.size≤250):P141 ((a:Int),(b:Int),MA v d)=some (MA v (Sort.breakPatterns d a b)):=by
 unfold Sort.breakPatterns
 simp only[]
 by_cases h8:8≤b-a
 ·have g8:decide ((8:Int)≤((b-a:Nat):Int))=true:=by simp; omega
  have hm1:1 <<< Sort.bitsLen (b-a)≤2*(b-a):=by rw[Nat.one_shiftLeft]; exact Sort.two_pow_bitsLen_le (by omega)
  have hm0:0 < 1 <<< Sort.bitsLen (b-a):=by rw[Nat.one_shiftLeft]; exact Nat.two_pow_pos _
  generalize hm:1 <<< Sort.bitsLen (b-a)=m at *
  generalize hn:b-a=n at *
  let st:Nat→UInt64×Array β:=fun k=>Nat.rec (UInt64.ofNat n,d) (fun i s=>Sort.breakStep a n m s (a+n / 4*2-1+i)) k
  have hst:∀ k,(st k).2.size=d.size:=fun k=>by
   induction k with
   | zero=>rfl
   | succ k ih=>show(Sort.swp _ _ _).size=_; rw[swp_size]; exact ih
  have hrun:L141_0 ((a:Int),(n:Int),(m:Int),((a+n / 4*2-1:Nat):Int),MA v d,(n:Int))=some (MA v (st 3).2,((st 3).1.toNat:Int)):=by
   have h0:((UInt64.ofNat n).toNat:Int)=(n:Int):=by rw[UInt64.toNat_ofNat']; omega
   refine while_run 3 (fun k=>((a:Int),(n:Int),(m:Int),((a+n / 4*2-1+k:Nat):Int),MA v (st k).2,((st k).1.toNat:Int))) _ (fun k hk=>?_) ?_ (by omega) |> fun h=>by
    have e:((a:Int),(n:Int),(m:Int),((a+n / 4*2-1+0:Nat):Int),MA v (st 0).2,((st 0).1.toNat:Int))=((a:Int),(n:Int),(m:Int),((a+n / 4*2-1:Nat):Int),MA v d,(n:Int)):=by
     show(_,_,_,_,_,((UInt64.ofNat n).toNat:Int))=_
     rw[h0]; rfl
    rw[← e]; exact h
   ·have q4:Int.tdiv (n:Int) 4=((n / 4:Nat):Int):=tdN n
    have q5:((n / 4:Nat):Int)*2=((n / 4*2:Nat):Int):=by omega
    have hsz:=hst k
    generalize hr:st k=s at *
    have hnx:st (k+1)=Sort.breakStep a n m (st k) (a+n / 4*2-1+k):=rfl
    rw[hr]at hnx
    have hlt:=(Sort.xorNext s.1).toNat_lt
    have hbd:(Sort.xorNext s.1).toNat &&& (m-1)≤m-1:=Nat.and_le_right
    have fu:fits .u64 ((m-1:Nat):Int)=true:=fitsU (by omega) (by omega)
    simp(disch:=omega) only[p141_0,q141_0,q4,fitK,chk_t,q5,an,a1,leN,dT,cond_true,xorS,bind_some',fu,p1,bandN]
    rw[hnx]
    unfold Sort.breakStep
    simp only[]
    generalize (Sort.xorNext s.1).toNat &&& (m-1)=o at *
    by_cases ho:n≤o
    ·simp(disch:=omega) only[dT,cond_true,pn,fitK,chk_t,an,MA_inR,MA_ix,Int.toNat_natCast,MA_set,MA_inRs,MA_swp,if_pos (show o≥n from ho),a1]
     rw[show a+n / 4*2-1+k+1=a+n / 4*2-1+(k+1)by omega]
    ·simp(disch:=omega) only[dF,cond_false,pn,fitK,chk_t,an,MA_inR,MA_ix,Int.toNat_natCast,MA_set,MA_inRs,MA_swp,if_neg (show ¬ o≥n from ho),a1]
     rw[show a+n / 4*2-1+k+1=a+n / 4*2-1+(k+1)by omega]
   ·have q4:Int.tdiv (n:Int) 4=((n / 4:Nat):Int):=tdN n
    have q5:((n / 4:Nat):Int)*2=((n / 4*2:Nat):Int):=by omega
    simp(disch:=omega) only[p141_0,q141_0,q4,fitK,chk_t,q5,an,a1,leN,dF,cond_false]
  have q4:Int.tdiv (n:Int) 4=((n / 4:Nat):Int):=tdN n
  have q5:((n / 4:Nat):Int)*2=((n / 4*2:Nat):Int):=by omega
  have fu:fits .u64 (n:Int)=true:=fitsU (by omega) (by omega)
  have hn':(b:Int)-(a:Int)=(n:Int):=by omega
  have hnp:=npt (n:=n) (by omega)
  rw[hm]at hnp
  have hst3:st 3=Sort.breakStep a n m (Sort.breakStep a n m (Sort.breakStep a n m (UInt64.ofNat n,d) (a+n / 4*2-1)) (a+n / 4*2-1+1)) (a+n / 4*2-1+2):=rfl
  rw[hst3]at hrun
  rw[if_pos (show n≥8 from h8)]
  simp(disch:=omega) only[P141,p141,q141,hn',fitK,chk_t,g8,cond_true,fu,hnp,bind_some',q4,q5,an,p1,hrun]
 ·have g8:decide ((8:Int)≤((b-a:Nat):Int))=false:=by simp; omega
  simp(disch:=omega) only[P141,p141,q141,pn,fitK,chk_t,g8,cond_false,if_neg (show ¬ b-a≥8 from h8)]
theorem rev {a b:Nat}{d:Array β}(hab:a≤b)(hb1:1≤b)(hb:b≤d.size)(hz:d.size≤250):P143 ((a:Int),(b:Int),MA v d)=some (MA v (Sort.reverseRange d a b)):=by
 have e:L143_0 ((a:Int),((b-1:Nat):Int),MA v d)=some (MA v (Sort.reverseLoop a (b-1) d)):=by
  refine while_rel (fun s r n=>∃ (i j:Nat) (d:Array β),j < d.size∧d.size≤250∧i≤250∧s=((i:Int),(j:Int),MA v d)∧r=MA v (Sort.reverseLoop i j d)∧n=j-i) ⟨a,b-1,d,by omega,hz,by omega,rfl,rfl,rfl⟩ (by omega) ?_
  rintro s r n ⟨i,j,d,q1,q2,q3,rfl,rfl,rfl⟩
  simp only[p143_0,q143_0]
  by_cases e:i < j
  ·right
   rw[show Sort.reverseLoop i j d=Sort.reverseLoop (i+1) (j-1) (Sort.swp d i j)by rw[Sort.reverseLoop,if_pos e]]
   simp(disch:=omega) only[ltN,dT,cond_true,MA_inR,MA_ix,chk_t,Int.toNat_natCast,MA_set,MA_inRs,MA_swp,a1,fitK,p1]
   exact⟨_,j-1-(i+1),rfl,⟨i+1,j-1,Sort.swp d i j,by rw[swp_size]; omega,by rwa [swp_size],by omega,rfl,rfl,rfl⟩,by omega⟩
  ·left
   rw[show Sort.reverseLoop i j d=d by rw[Sort.reverseLoop,if_neg e]]
   simp(disch:=omega) only[ltN,dF,cond_false]
 simp(disch:=omega) only[P143,p143,q143,p1,fitK,chk_t,e,bind_some',Sort.reverseRange]
include hC
theorem ord {a b s:Nat}{d:Array β}(ha:a < d.size)(hb:b < d.size)(hs:s≤250):P171 ((a:Int),(b:Int),MA v d,(s:Int))=some (((Sort.order2 (lt C) d a b s).1:Int),((Sort.order2 (lt C) d a b s).2.1:Int),MA v d,((Sort.order2 (lt C) d a b s).2.2:Int)):=by
 unfold Sort.order2
 simp(disch:=omega) only[P171,p171,q171,MA_inR,chk_t,MA_ix,hC,bind_some',ltE,a1,fitK]
 cases lt C d[b]! d[a]! <;> rfl
theorem med {a b c s:Nat}{d:Array β}(ha:a < d.size)(hb:b < d.size)(hc:c < d.size)(hs:s≤200):P165 ((a:Int),(b:Int),(c:Int),MA v d,(s:Int))=some (((Sort.median (lt C) d a b c s).1:Int),MA v d,((Sort.median (lt C) d a b c s).2:Int)):=by
 unfold Sort.median
 simp only[]
 have o1:=Sort.order2_mem (lt C) d a b s
 have n1:=Sort.order2_count (lt C) d a b s
 generalize g1:Sort.order2 (lt C) d a b s=r1 at *
 have o2:=Sort.order2_mem (lt C) d r1.2.1 c r1.2.2
 have n2:=Sort.order2_count (lt C) d r1.2.1 c r1.2.2
 generalize g2:Sort.order2 (lt C) d r1.2.1 c r1.2.2=r2 at *
 have e1:P171 ((a:Int),(b:Int),MA v d,(s:Int))=some ((r1.1:Int),(r1.2.1:Int),MA v d,(r1.2.2:Int)):=by rw[ord hC ha hb (by omega),g1]
 have e2:P171 ((r1.2.1:Int),(c:Int),MA v d,(r1.2.2:Int))=some ((r2.1:Int),(r2.2.1:Int),MA v d,(r2.2.2:Int)):=by rw[ord hC (by omega) hc (by omega),g2]
 have e3:=ord hC (d:=d) (a:=r1.1) (b:=r2.1) (s:=r2.2.2) (by omega) (by omega) (by omega)
 simp only[P165,p165,q165,e1,e2,e3,bind_some']
theorem adj {a s:Nat}{d:Array β}(ha:1≤a)(hb:a+1 < d.size)(hz:d.size≤250)(hs:s≤200):P164 ((a:Int),MA v d,(s:Int))=some (((Sort.medianAdjacent (lt C) d a s).1:Int),MA v d,((Sort.medianAdjacent (lt C) d a s).2:Int)):=by
 have e:=med hC (d:=d) (a:=a-1) (b:=a) (c:=a+1) (s:=s) (by omega) (by omega) hb hs
 unfold Sort.medianAdjacent
 simp(disch:=omega) only[P164,p164,q164,p1,fitK,chk_t,a1,e,bind_some']
omit hC
def hN:Sort.Hint→Int
 | .unknown=>0
 | .increasing=>1
 | .decreasing=>2
include hC
theorem chp {a b:Nat}{d:Array β}(hab:a < b)(hb:b≤d.size)(hz:d.size≤250):P142 ((a:Int),(b:Int),MA v d)=some (((Sort.choosePivot (lt C) d a b).1:Int),hN (Sort.choosePivot (lt C) d a b).2,MA v d):=by
 unfold Sort.choosePivot
 simp only[]
 generalize hn:b-a=n at *
 have q4:Int.tdiv (n:Int) 4=((n / 4:Nat):Int):=tdN n
 have q1:((n / 4:Nat):Int)*1=((n / 4*1:Nat):Int):=by omega
 have q2:((n / 4:Nat):Int)*2=((n / 4*2:Nat):Int):=by omega
 have q3:((n / 4:Nat):Int)*3=((n / 4*3:Nat):Int):=by omega
 have hn':(b:Int)-(a:Int)=(n:Int):=by omega
 have hfin:∀ (p s:Nat),(cond (decide ((s:Int)=0)) (some ((p:Int),(1:Int),MA v d)) (cond (decide ((s:Int)=12)) (some ((p:Int),(2:Int),MA v d)) (some ((p:Int),(0:Int),MA v d)))) =
   some ((p:Int),hN (if s=0 then Sort.Hint.increasing else if s=12 then Sort.Hint.decreasing else Sort.Hint.unknown),MA v d):=fun p s=>by
  by_cases h0:s=0
  ·subst h0; rfl
  ·have d0:decide ((s:Int)=0)=false:=by simp; omega
   rw[d0,if_neg h0]
   by_cases h12:s=12
   ·subst h12; rfl
   ·have d1:decide ((s:Int)=12)=false:=by simp; omega
    rw[d1,if_neg h12]; rfl
 simp(disch:=omega) only[P142,p142,q142,hn',fitK,chk_t,q4,q1,q2,q3,an]
 by_cases h8:8≤n
 ·have d8:decide ((8:Int)≤(n:Int))=true:=by simp; omega
  rw[d8,cond_true,if_pos (show n≥8 from h8)]
  by_cases h50:50≤n
  ·have d50:decide ((50:Int)≤(n:Int))=true:=by simp; omega
   rw[d50,cond_true,if_pos (show n≥50 from h50)]
   have m1:=Sort.medianAdjacent_mem (lt C) d (a+n / 4*1) 0
   have c1:=Sort.medianAdjacent_count (lt C) d (a+n / 4*1) 0
   have e1:=adj hC (d:=d) (a:=a+n / 4*1) (s:=0) (by omega) (by omega) hz (by omega)
   generalize Sort.medianAdjacent (lt C) d (a+n / 4*1) 0=r1 at *
   have m2:=Sort.medianAdjacent_mem (lt C) d (a+n / 4*2) r1.2
   have c2:=Sort.medianAdjacent_count (lt C) d (a+n / 4*2) r1.2
   have e2:=adj hC (d:=d) (a:=a+n / 4*2) (s:=r1.2) (by omega) (by omega) hz (by omega)
   generalize Sort.medianAdjacent (lt C) d (a+n / 4*2) r1.2=r2 at *
   have m3:=Sort.medianAdjacent_mem (lt C) d (a+n / 4*3) r2.2
   have c3:=Sort.medianAdjacent_count (lt C) d (a+n / 4*3) r2.2
   have e3:=adj hC (d:=d) (a:=a+n / 4*3) (s:=r2.2) (by omega) (by omega) hz (by omega)
   generalize Sort.medianAdjacent (lt C) d (a+n / 4*3) r2.2=r3 at *
   have e4:=med hC (d:=d) (a:=r1.1) (b:=r2.1) (c:=r3.1) (s:=r3.2) (by omega) (by omega) (by omega) (by omega)
   have e1':P164 (((a+n / 4*1:Nat):Int),MA v d,0)=some ((r1.1:Int),MA v d,(r1.2:Int)):=e1
   simp only[e1',e2,e3,e4,bind_some',hfin]
  ·have d50:decide ((50:Int)≤(n:Int))=false:=by simp; omega
   rw[d50,cond_false,if_neg (show ¬ n≥50 from h50)]
   have e4:P165 (((a+n / 4*1:Nat):Int),((a+n / 4*2:Nat):Int),((a+n / 4*3:Nat):Int),MA v d,0)=some (((Sort.median (lt C) d (a+n / 4*1) (a+n / 4*2) (a+n / 4*3) 0).1:Int),MA v d,((Sort.median (lt C) d (a+n / 4*1) (a+n / 4*2) (a+n / 4*3) 0).2:Int)):=med hC (s:=0) (by omega) (by omega) (by omega) (by omega)
   simp only[e4,bind_some',hfin]
 ·have d8:decide ((8:Int)≤(n:Int))=false:=by simp; omega
  rw[d8,cond_false,if_neg (show ¬ n≥8 from h8)]
  rfl
omit hC
theorem scanS_le (d:Array β)(b:Nat):∀ (n i:Nat),b-i≤n→i≤b→i≤Sort.scanSorted (lt C) d b i∧Sort.scanSorted (lt C) d b i≤b:=by
 intro n
 induction n with
 | zero=>intro i h1 h2; rw[Sort.scanSorted,if_neg (by simp; omega)]; omega
 | succ n ih=>
  intro i h1 h2
  rw[Sort.scanSorted]
  split
  ·rename_i h
   simp only[Bool.and_eq_true,decide_eq_true_eq]at h
   have:=ih (i+1) (by omega) (by omega)
   omega
  ·omega
theorem shD_size:∀ (j:Nat)(d:Array β) ,(Sort.shiftDown (lt C) j d).size=d.size
 | 0,d=>by rw[Sort.shiftDown]
 | j+1,d=>by
  rw[Sort.shiftDown]
  split
  ·rfl
  ·rw[shD_size j,swp_size]
theorem shU_size (b:Nat):∀ (n j:Nat) (d:Array β),b-j≤n→(Sort.shiftUp (lt C) b j d).size=d.size:=by
 intro n
 induction n with
 | zero=>intro j d h; rw[Sort.shiftUp,if_neg (by omega)]
 | succ n ih=>
  intro j d h
  rw[Sort.shiftUp]
  split
  ·split
   ·rfl
   ·rw[ih _ _ (by omega),swp_size]
  ·rfl
include hC
theorem ps1 {a b i j:Nat}{d:Array β}(h1:1≤i)(hb:b≤d.size)(hz:d.size≤250)(hi:i≤250):L144_1 ((a:Int),(b:Int),(i:Int),(j:Int),MA v d)=some ((a:Int),(b:Int),((Sort.scanSorted (lt C) d b i:Nat):Int),(j:Int),MA v d):=by
 refine while_rel (fun s r n=>∃ i:Nat,1≤i∧i≤251∧s=((a:Int),(b:Int),(i:Int),(j:Int),MA v d)∧r=((a:Int),(b:Int),((Sort.scanSorted (lt C) d b i:Nat):Int),(j:Int),MA v d)∧n=b-i) ⟨i,h1,by omega,rfl,rfl,rfl⟩ (by omega) ?_
 rintro s r n ⟨i,q1,q2,rfl,rfl,rfl⟩
 simp only[p144_1,q144_1]
 by_cases e:i < b
 ·simp(disch:=omega) only[ltN,dT,cond_true,MA_inR,chk_t,p1,fitK,MA_ix,hC,bind_some',ltE]
  cases hl:lt C d[i]! d[i-1]!
  ·right
   rw[show Sort.scanSorted (lt C) d b i=Sort.scanSorted (lt C) d b (i+1)by rw[Sort.scanSorted,if_pos (by simp[e,hl])]]
   simp(disch:=omega) only[Bool.not_false,cond_true,a1,fitK,chk_t]
   exact⟨_,b-(i+1),rfl,⟨i+1,by omega,by omega,rfl,rfl,rfl⟩,by omega⟩
  ·left
   rw[show Sort.scanSorted (lt C) d b i=i by rw[Sort.scanSorted,if_neg (by simp[hl])]]
   simp only[Bool.not_true,cond_false]
 ·left
  rw[show Sort.scanSorted (lt C) d b i=i by rw[Sort.scanSorted,if_neg (by simp[e])]]
  simp(disch:=omega) only[ltN,dF,cond_false]
theorem ps3 {a b i j k:Nat}{d:Array β}(hk:k < d.size)(hz:d.size≤250):L144_3 ((a:Int),(b:Int),(i:Int),(j:Int),(k:Int),MA v d)=some ((a:Int),(b:Int),(i:Int),(j:Int),MA v (Sort.shiftDown (lt C) k d)):=by
 refine while_rel (fun s r n=>∃ (k:Nat) (d:Array β),k < d.size∧d.size≤250∧s=((a:Int),(b:Int),(i:Int),(j:Int),(k:Int),MA v d)∧r=((a:Int),(b:Int),(i:Int),(j:Int),MA v (Sort.shiftDown (lt C) k d))∧n=k) ⟨k,d,hk,hz,rfl,rfl,rfl⟩ (by omega) ?_
 rintro s r n ⟨k,d,q1,q2,rfl,rfl,rfl⟩
 simp only[p144_3,q144_3]
 cases n with
 | zero=>left; rw[Sort.shiftDown]; rfl
 | succ k=>
  have g1:decide ((1:Int)≤((k+1:Nat):Int))=true:=by simp; omega
  simp(disch:=omega) only[g1,cond_true,MA_inR,chk_t,p1,fitK,MA_ix,hC,bind_some',ltE,Nat.add_sub_cancel]
  cases hl:lt C d[k+1]! d[k]!
  ·left
   rw[show Sort.shiftDown (lt C) (k+1) d=d by rw[Sort.shiftDown,if_pos (by simp[hl])]]
   simp only[Bool.not_false,cond_true]
  ·right
   rw[show Sort.shiftDown (lt C) (k+1) d=Sort.shiftDown (lt C) k (Sort.swp d (k+1) k)by rw[Sort.shiftDown,if_neg (by simp[hl])]]
   simp(disch:=omega) only[Bool.not_true,cond_false,MA_inR,chk_t,MA_ix,Int.toNat_natCast,MA_set,MA_inRs,MA_swp]
   exact⟨_,k,rfl,⟨k,Sort.swp d (k+1) k,by rw[swp_size]; omega,by rwa [swp_size],rfl,rfl,rfl⟩,by omega⟩
theorem ps2 {a b i j:Nat}{d:Array β}(ha:a≤i)(h1:1≤i)(hi:i≤d.size)(hz:d.size≤250):L144_2 ((a:Int),(b:Int),(i:Int),(j:Int),MA v d)=some ((a:Int),(b:Int),(i:Int),(j:Int),MA v (if i-a≥2 then Sort.shiftDown (lt C) (i-1) d else d)):=by
 simp only[L144_2,p144_2,q144_2]
 by_cases e:2≤i-a
 ·have g1:decide ((2:Int)≤((i-a:Nat):Int))=true:=by simp; omega
  simp(disch:=omega) only[pn,fitK,chk_t,g1,cond_true,p1,ps3 hC,bind_some',if_pos (show i-a≥2 from e)]
 ·have g1:decide ((2:Int)≤((i-a:Nat):Int))=false:=by simp; omega
  simp(disch:=omega) only[pn,fitK,chk_t,g1,cond_false,if_neg (show ¬ i-a≥2 from e)]
theorem ps4 {a b i j k:Nat}{d:Array β}(h1:1≤k)(hk:k≤250)(hb:b≤d.size)(hz:d.size≤250):L144_4 ((a:Int),(b:Int),(i:Int),(j:Int),(k:Int),MA v d)=some ((a:Int),(b:Int),(i:Int),(j:Int),MA v (Sort.shiftUp (lt C) b k d)):=by
 refine while_rel (fun s r n=>∃ (k:Nat) (d:Array β),1≤k∧k≤251∧b≤d.size∧d.size≤250∧s=((a:Int),(b:Int),(i:Int),(j:Int),(k:Int),MA v d)∧r=((a:Int),(b:Int),(i:Int),(j:Int),MA v (Sort.shiftUp (lt C) b k d))∧n=b-k) ⟨k,d,h1,by omega,hb,hz,rfl,rfl,rfl⟩ (by omega) ?_
 rintro s r n ⟨k,d,q1,q0,q2,q3,rfl,rfl,rfl⟩
 simp only[p144_4,q144_4]
 by_cases e:k < b
 ·simp(disch:=omega) only[ltN,dT,cond_true,MA_inR,chk_t,p1,fitK,MA_ix,hC,bind_some',ltE]
  cases hl:lt C d[k]! d[k-1]!
  ·left
   rw[show Sort.shiftUp (lt C) b k d=d by rw[Sort.shiftUp,if_pos e,if_pos (by simp[hl])]]
   simp only[Bool.not_false,cond_true]
  ·right
   rw[show Sort.shiftUp (lt C) b k d=Sort.shiftUp (lt C) b (k+1) (Sort.swp d k (k-1))by rw[Sort.shiftUp,if_pos e,if_neg (by simp[hl])]]
   simp(disch:=omega) only[Bool.not_true,cond_false,MA_inR,chk_t,MA_ix,Int.toNat_natCast,MA_set,MA_inRs,MA_swp,a1,fitK]
   exact⟨_,b-(k+1),rfl,⟨k+1,Sort.swp d k (k-1),by omega,by omega,by rwa [swp_size],by rwa [swp_size],rfl,rfl,rfl⟩,by omega⟩
 ·left
  rw[show Sort.shiftUp (lt C) b k d=d by rw[Sort.shiftUp,if_neg e]]
  simp(disch:=omega) only[ltN,dF,cond_false]
theorem pis {a b:Nat}{d:Array β}(hab:a < b)(hb:b≤d.size)(hz:d.size≤250):P144 ((a:Int),(b:Int),MA v d)=some ((Sort.partialInsertionSort (lt C) d a b).2,MA v (Sort.partialInsertionSort (lt C) d a b).1):=by
 have key:∃ y,L144_0 ((a:Int),(b:Int),((a+1:Nat):Int),0,MA v d)=some y∧Sum.elim (fun y=>(y.2,y.1)) (fun y=>(y,false)) y=(MA v (Sort.partialInsertionSort (lt C) d a b).1,(Sort.partialInsertionSort (lt C) d a b).2):=by
  refine while_relE (fun s n=>∃ (t i:Nat) (d':Array β),t≤5∧a < i∧i≤b∧b≤d'.size∧d'.size≤250∧s=((a:Int),(b:Int),(i:Int),((5-t:Nat):Int),MA v d')∧Sort.partialIns (lt C) a b t i d'=Sort.partialInsertionSort (lt C) d a b∧n=t) _
   ⟨5,a+1,d,by omega,by omega,by omega,hb,hz,rfl,rfl,rfl⟩ (by omega) ?_
  rintro s n ⟨t,i,d',q1,q2,q3,q4,q5,rfl,q6,rfl⟩
  rw[← q6]
  clear q6
  simp only[p144_0,q144_0]
  cases n with
  | zero=>left; exact⟨_,rfl,rfl⟩
  | succ t=>
   have g0:decide (((5-(t+1):Nat):Int) < 5)=true:=by simp; omega
   have hs:=scanS_le (C:=C) d' b _ i (Nat.le_refl _) q3
   rw[Sort.partialIns]
   simp(disch:=omega) only[g0,cond_true,ps1 hC,bind_some']
   generalize Sort.scanSorted (lt C) d' b i=i2 at *
   by_cases e:i2=b
   ·left
    have g1:decide ((i2:Int)=(b:Int))=true:=by simp; omega
    simp only[g1,cond_true,if_pos e]
    exact⟨_,rfl,rfl⟩
   ·have g1:decide ((i2:Int)=(b:Int))=false:=by simp; omega
    simp(disch:=omega) only[g1,cond_false,if_neg e,pn,fitK,chk_t]
    by_cases e5:b-a < 50
    ·left
     have g2:decide (((b-a:Nat):Int) < 50)=true:=by simp; omega
     simp only[g2,cond_true,if_pos e5]
     exact⟨_,rfl,rfl⟩
    ·right
     have g2:decide (((b-a:Nat):Int) < 50)=false:=by simp; omega
     have z1:(Sort.swp d' i2 (i2-1)).size=d'.size:=swp_size _ _ _
     simp(disch:=omega) only[g2,cond_false,if_neg e5,p1,fitK,chk_t,MA_inR,MA_ix,Int.toNat_natCast,MA_set,MA_inRs,MA_swp,ps2 hC,bind_some',pn]
     generalize hd2:(if i2-a≥2 then Sort.shiftDown (lt C) (i2-1) (Sort.swp d' i2 (i2-1))else Sort.swp d' i2 (i2-1))=d2
     have z2:d2.size=d'.size:=by
      rw[← hd2]; split
      ·rw[shD_size,z1]
      ·exact z1
     by_cases e2:2≤b-i2
     ·have g3:decide ((2:Int)≤((b-i2:Nat):Int))=true:=by simp; omega
      simp(disch:=omega) only[g3,cond_true,a1,fitK,chk_t,ps4 hC,bind_some',if_pos (show b-i2≥2 from e2)]
      exact⟨_,t,rfl,⟨t,i2,Sort.shiftUp (lt C) b (i2+1) d2,by omega,by omega,by omega,by rw[shU_size _ _ _ _ (Nat.le_refl _)]; omega,by rw[shU_size _ _ _ _ (Nat.le_refl _)]; omega,by rw[show 5-(t+1)+1=5-t by omega],rfl,rfl⟩,by omega⟩
     ·have g3:decide ((2:Int)≤((b-i2:Nat):Int))=false:=by simp; omega
      simp(disch:=omega) only[g3,cond_false,a1,fitK,chk_t,if_neg (show ¬ b-i2≥2 from e2)]
      exact⟨_,t,rfl,⟨t,i2,d2,by omega,by omega,by omega,by omega,by omega,by rw[show 5-(t+1)+1=5-t by omega],rfl,rfl⟩,by omega⟩
 obtain⟨y,e1,e2⟩:=key
 simp(disch:=omega) only[P144,p144,q144,a1,fitK,chk_t,e1,bind_some']
 cases y with
 | inl x=>
  simp only[Sum.elim_inl,Prod.mk.injEq]at e2 ⊢
  rw[e2.1,e2.2]
 | inr x=>
  simp only[Sum.elim_inr,Prod.mk.injEq]at e2 ⊢
  rw[e2.1,e2.2]
theorem pe1 {a i j:Nat}{d:Array β}(ha:a < d.size)(hj:j < d.size)(hz:d.size≤250):L145_1 ((a:Int),(i:Int),(j:Int),MA v d)=some ((a:Int),((Sort.scanUp (fun x=>!lt C d[a]! x) d j i:Nat):Int),(j:Int),MA v d):=by
 refine while_rel (fun s r n=>∃ i:Nat,s=((a:Int),(i:Int),(j:Int),MA v d)∧r=((a:Int),((Sort.scanUp (fun x=>!lt C d[a]! x) d j i:Nat):Int),(j:Int),MA v d)∧n=j+1-i) ⟨i,rfl,rfl,rfl⟩ (by omega) ?_
 rintro s r n ⟨i,rfl,rfl,rfl⟩
 simp only[p145_1,q145_1]
 by_cases e:i≤j
 ·simp(disch:=omega) only[leN,dT,cond_true,MA_inR,chk_t,fitK,MA_ix,hC,bind_some',ltE]
  cases hl:lt C d[a]! d[i]!
  ·right
   rw[show Sort.scanUp (fun x=>!lt C d[a]! x) d j i=Sort.scanUp (fun x=>!lt C d[a]! x) d j (i+1)by rw[Sort.scanUp,if_pos (by simp[e,hl])]]
   simp(disch:=omega) only[Bool.not_false,cond_true,a1,fitK,chk_t]
   exact⟨_,j+1-(i+1),rfl,⟨i+1,rfl,rfl,rfl⟩,by omega⟩
  ·left
   rw[show Sort.scanUp (fun x=>!lt C d[a]! x) d j i=i by rw[Sort.scanUp,if_neg (by simp[hl])]]
   simp only[Bool.not_true,cond_false]
 ·left
  rw[show Sort.scanUp (fun x=>!lt C d[a]! x) d j i=i by rw[Sort.scanUp,if_neg (by simp[e])]]
  simp(disch:=omega) only[leN,dF,cond_false]
theorem pe2 {a i j:Nat}{d:Array β}(ha:a < d.size)(hi:1≤i)(hj:j < d.size)(hz:d.size≤250):L145_2 ((a:Int),(i:Int),(j:Int),MA v d)=some ((a:Int),(i:Int),((Sort.scanDown (fun x=>lt C d[a]! x) d i j:Nat):Int),MA v d):=by
 refine while_rel (fun s r n=>∃ j:Nat,j < d.size∧s=((a:Int),(i:Int),(j:Int),MA v d)∧r=((a:Int),(i:Int),((Sort.scanDown (fun x=>lt C d[a]! x) d i j:Nat):Int),MA v d)∧n=j) ⟨j,hj,rfl,rfl,rfl⟩ (by omega) ?_
 rintro s r n ⟨j,q1,rfl,rfl,rfl⟩
 simp only[p145_2,q145_2]
 cases n with
 | zero=>
  left
  rw[show Sort.scanDown (fun x=>lt C d[a]! x) d i 0=0 by rw[Sort.scanDown]]
  simp(disch:=omega) only[leN,dF,cond_false]
 | succ j=>
  by_cases e:i≤j+1
  ·simp(disch:=omega) only[leN,dT,cond_true,MA_inR,chk_t,fitK,MA_ix,hC,bind_some',ltE]
   cases hl:lt C d[a]! d[j+1]!
   ·left
    rw[show Sort.scanDown (fun x=>lt C d[a]! x) d i (j+1)=j+1 by rw[Sort.scanDown,if_neg (by simp[hl])]]
    simp only[cond_false]
   ·right
    rw[show Sort.scanDown (fun x=>lt C d[a]! x) d i (j+1)=Sort.scanDown (fun x=>lt C d[a]! x) d i j by rw[Sort.scanDown,if_pos (by simp[e,hl])]]
    simp(disch:=omega) only[cond_true,p1,Nat.add_sub_cancel,fitK,chk_t]
    exact⟨_,j,rfl,⟨j,by omega,rfl,rfl,rfl⟩,by omega⟩
  ·left
   rw[show Sort.scanDown (fun x=>lt C d[a]! x) d i (j+1)=j+1 by rw[Sort.scanDown,if_neg (by simp[e])]]
   simp(disch:=omega) only[leN,dF,cond_false]
theorem pr0 {a i j:Nat}{d:Array β}(ha:a < d.size)(hj:j < d.size)(hz:d.size≤250):L146_0 ((a:Int),(i:Int),(j:Int),MA v d)=some ((a:Int),((Sort.scanUp (fun x=>lt C x d[a]!) d j i:Nat):Int),(j:Int),MA v d):=by
 refine while_rel (fun s r n=>∃ i:Nat,s=((a:Int),(i:Int),(j:Int),MA v d)∧r=((a:Int),((Sort.scanUp (fun x=>lt C x d[a]!) d j i:Nat):Int),(j:Int),MA v d)∧n=j+1-i) ⟨i,rfl,rfl,rfl⟩ (by omega) ?_
 rintro s r n ⟨i,rfl,rfl,rfl⟩
 simp only[p146_0,q146_0]
 by_cases e:i≤j
 ·simp(disch:=omega) only[leN,dT,cond_true,MA_inR,chk_t,fitK,MA_ix,hC,bind_some',ltE]
  cases hl:lt C d[i]! d[a]!
  ·left
   rw[show Sort.scanUp (fun x=>lt C x d[a]!) d j i=i by rw[Sort.scanUp,if_neg (by simp[hl])]]
   simp only[cond_false]
  ·right
   rw[show Sort.scanUp (fun x=>lt C x d[a]!) d j i=Sort.scanUp (fun x=>lt C x d[a]!) d j (i+1)by rw[Sort.scanUp,if_pos (by simp[e,hl])]]
   simp(disch:=omega) only[cond_true,a1,fitK,chk_t]
   exact⟨_,j+1-(i+1),rfl,⟨i+1,rfl,rfl,rfl⟩,by omega⟩
 ·left
  rw[show Sort.scanUp (fun x=>lt C x d[a]!) d j i=i by rw[Sort.scanUp,if_neg (by simp[e])]]
  simp(disch:=omega) only[leN,dF,cond_false]
theorem pr1 {a i j:Nat}{d:Array β}(ha:a < d.size)(hi:1≤i)(hj:j < d.size)(hz:d.size≤250):L146_1 ((a:Int),(i:Int),(j:Int),MA v d)=some ((a:Int),(i:Int),((Sort.scanDown (fun x=>!lt C x d[a]!) d i j:Nat):Int),MA v d):=by
 refine while_rel (fun s r n=>∃ j:Nat,j < d.size∧s=((a:Int),(i:Int),(j:Int),MA v d)∧r=((a:Int),(i:Int),((Sort.scanDown (fun x=>!lt C x d[a]!) d i j:Nat):Int),MA v d)∧n=j) ⟨j,hj,rfl,rfl,rfl⟩ (by omega) ?_
 rintro s r n ⟨j,q1,rfl,rfl,rfl⟩
 simp only[p146_1,q146_1]
 cases n with
 | zero=>
  left
  rw[show Sort.scanDown (fun x=>!lt C x d[a]!) d i 0=0 by rw[Sort.scanDown]]
  simp(disch:=omega) only[leN,dF,cond_false]
 | succ j=>
  by_cases e:i≤j+1
  ·simp(disch:=omega) only[leN,dT,cond_true,MA_inR,chk_t,fitK,MA_ix,hC,bind_some',ltE]
   cases hl:lt C d[j+1]! d[a]!
   ·right
    rw[show Sort.scanDown (fun x=>!lt C x d[a]!) d i (j+1)=Sort.scanDown (fun x=>!lt C x d[a]!) d i j by rw[Sort.scanDown,if_pos (by simp[e,hl])]]
    simp(disch:=omega) only[Bool.not_false,cond_true,p1,Nat.add_sub_cancel,fitK,chk_t]
    exact⟨_,j,rfl,⟨j,by omega,rfl,rfl,rfl⟩,by omega⟩
   ·left
    rw[show Sort.scanDown (fun x=>!lt C x d[a]!) d i (j+1)=j+1 by rw[Sort.scanDown,if_neg (by simp[hl])]]
    simp only[Bool.not_true,cond_false]
  ·left
   rw[show Sort.scanDown (fun x=>!lt C x d[a]!) d i (j+1)=j+1 by rw[Sort.scanDown,if_neg (by simp[e])]]
   simp(disch:=omega) only[leN,dF,cond_false]
theorem pr3 {a i j:Nat}{d:Array β}(ha:a < d.size)(hj:j < d.size)(hz:d.size≤250):L146_3 ((a:Int),(i:Int),(j:Int),MA v d)=some ((a:Int),((Sort.scanUp (fun x=>lt C x d[a]!) d j i:Nat):Int),(j:Int),MA v d):=by
 refine while_rel (fun s r n=>∃ i:Nat,s=((a:Int),(i:Int),(j:Int),MA v d)∧r=((a:Int),((Sort.scanUp (fun x=>lt C x d[a]!) d j i:Nat):Int),(j:Int),MA v d)∧n=j+1-i) ⟨i,rfl,rfl,rfl⟩ (by omega) ?_
 rintro s r n ⟨i,rfl,rfl,rfl⟩
 simp only[p146_3,q146_3]
 by_cases e:i≤j
 ·simp(disch:=omega) only[leN,dT,cond_true,MA_inR,chk_t,fitK,MA_ix,hC,bind_some',ltE]
  cases hl:lt C d[i]! d[a]!
  ·left
   rw[show Sort.scanUp (fun x=>lt C x d[a]!) d j i=i by rw[Sort.scanUp,if_neg (by simp[hl])]]
   simp only[cond_false]
  ·right
   rw[show Sort.scanUp (fun x=>lt C x d[a]!) d j i=Sort.scanUp (fun x=>lt C x d[a]!) d j (i+1)by rw[Sort.scanUp,if_pos (by simp[e,hl])]]
   simp(disch:=omega) only[cond_true,a1,fitK,chk_t]
   exact⟨_,j+1-(i+1),rfl,⟨i+1,rfl,rfl,rfl⟩,by omega⟩
 ·left
  rw[show Sort.scanUp (fun x=>lt C x d[a]!) d j i=i by rw[Sort.scanUp,if_neg (by simp[e])]]
  simp(disch:=omega) only[leN,dF,cond_false]
theorem pr4 {a i j:Nat}{d:Array β}(ha:a < d.size)(hi:1≤i)(hj:j < d.size)(hz:d.size≤250):L146_4 ((a:Int),(i:Int),(j:Int),MA v d)=some ((a:Int),(i:Int),((Sort.scanDown (fun x=>!lt C x d[a]!) d i j:Nat):Int),MA v d):=by
 refine while_rel (fun s r n=>∃ j:Nat,j < d.size∧s=((a:Int),(i:Int),(j:Int),MA v d)∧r=((a:Int),(i:Int),((Sort.scanDown (fun x=>!lt C x d[a]!) d i j:Nat):Int),MA v d)∧n=j) ⟨j,hj,rfl,rfl,rfl⟩ (by omega) ?_
 rintro s r n ⟨j,q1,rfl,rfl,rfl⟩
 simp only[p146_4,q146_4]
 cases n with
 | zero=>
  left
  rw[show Sort.scanDown (fun x=>!lt C x d[a]!) d i 0=0 by rw[Sort.scanDown]]
  simp(disch:=omega) only[leN,dF,cond_false]
 | succ j=>
  by_cases e:i≤j+1
  ·simp(disch:=omega) only[leN,dT,cond_true,MA_inR,chk_t,fitK,MA_ix,hC,bind_some',ltE]
   cases hl:lt C d[j+1]! d[a]!
   ·right
    rw[show Sort.scanDown (fun x=>!lt C x d[a]!) d i (j+1)=Sort.scanDown (fun x=>!lt C x d[a]!) d i j by rw[Sort.scanDown,if_pos (by simp[e,hl])]]
    simp(disch:=omega) only[Bool.not_false,cond_true,p1,Nat.add_sub_cancel,fitK,chk_t]
    exact⟨_,j,rfl,⟨j,by omega,rfl,rfl,rfl⟩,by omega⟩
   ·left
    rw[show Sort.scanDown (fun x=>!lt C x d[a]!) d i (j+1)=j+1 by rw[Sort.scanDown,if_neg (by simp[hl])]]
    simp only[Bool.not_true,cond_false]
  ·left
   rw[show Sort.scanDown (fun x=>!lt C x d[a]!) d i (j+1)=j+1 by rw[Sort.scanDown,if_neg (by simp[e])]]
   simp(disch:=omega) only[leN,dF,cond_false]
theorem peq {a b p:Nat}{d:Array β}(ha:a < d.size)(hp:p < d.size)(hb:b≤d.size)(hb1:1≤b)(hz:d.size≤250):P145 ((a:Int),(b:Int),(p:Int),MA v d)=some (((Sort.partitionEqual (lt C) d a b p).1:Int),MA v (Sort.partitionEqual (lt C) d a b p).2):=by
 have key:∀ {i j:Nat} {d:Array β},a < d.size→1≤i→j < d.size→d.size≤250→L145_0 ((a:Int),(i:Int),(j:Int),MA v d)=some (((Sort.partEqLoop (lt C) a i j d).1:Int),MA v (Sort.partEqLoop (lt C) a i j d).2):=by
  intro i j d ha hi hj hz
  refine while_rel (fun s r n=>∃ (i j:Nat) (d:Array β),a < d.size∧1≤i∧j < d.size∧d.size≤250∧s=((a:Int),(i:Int),(j:Int),MA v d)∧r=(((Sort.partEqLoop (lt C) a i j d).1:Int),MA v (Sort.partEqLoop (lt C) a i j d).2)∧n=j+1-i) ⟨i,j,d,ha,hi,hj,hz,rfl,rfl,rfl⟩ (by omega) ?_
  rintro s r n ⟨i,j,d,q1,q2,q3,q4,rfl,rfl,rfl⟩
  have u1:=Sort.scanUp_ge (fun x=>!lt C d[a]! x) d j i
  have u2:=Sort.scanDown_le (fun x=>lt C d[a]! x) d (Sort.scanUp (fun x=>!lt C d[a]! x) d j i) j
  rw[Sort.partEqLoop_eq]
  simp(disch:=omega) only[p145_0,q145_0,pe1 hC,pe2 hC,bind_some']
  generalize Sort.scanUp (fun x=>!lt C d[a]! x) d j i=i2 at *
  generalize Sort.scanDown (fun x=>lt C d[a]! x) d i2 j=j2 at *
  by_cases e:j2 < i2
  ·left; simp(disch:=omega) only[ltN,dT,cond_true,if_pos (show i2 > j2 from e)]
  ·right
   simp(disch:=omega) only[ltN,dF,cond_false,if_neg (show ¬ i2 > j2 from e),MA_inR,chk_t,MA_ix,Int.toNat_natCast,MA_set,MA_inRs,MA_swp,a1,fitK,p1]
   exact⟨_,j2-1+1-(i2+1),rfl,⟨i2+1,j2-1,Sort.swp d i2 j2,by rwa [swp_size],by omega,by rw[swp_size]; omega,by rwa [swp_size],rfl,rfl,rfl⟩,by omega⟩
 have k:=key (i:=a+1) (j:=b-1) (d:=Sort.swp d a p) (by rwa [swp_size]) (by omega) (by rw[swp_size]; omega) (by rwa [swp_size])
 simp(disch:=omega) only[P145,p145,q145,MA_inR,chk_t,MA_ix,Int.toNat_natCast,MA_set,MA_inRs,MA_swp,a1,fitK,p1,k,bind_some',Sort.partitionEqual]
omit hC
theorem pl_le (a:Nat):∀ (n i j:Nat) (d:Array β),j+1-i≤n→(Sort.partLoop (lt C) a i j d).1≤j∧(Sort.partLoop (lt C) a i j d).2.size=d.size:=by
 intro n
 induction n with
 | zero=>
  intro i j d h
  have u1:=Sort.scanUp_ge (fun x=>lt C x d[a]!) d j i
  have u2:=Sort.scanDown_le (fun x=>!lt C x d[a]!) d (Sort.scanUp (fun x=>lt C x d[a]!) d j i) j
  rw[Sort.partLoop_eq,if_pos (by omega)]
  exact⟨u2,rfl⟩
 | succ n ih=>
  intro i j d h
  have u1:=Sort.scanUp_ge (fun x=>lt C x d[a]!) d j i
  have u2:=Sort.scanDown_le (fun x=>!lt C x d[a]!) d (Sort.scanUp (fun x=>lt C x d[a]!) d j i) j
  rw[Sort.partLoop_eq]
  split
  ·exact⟨u2,rfl⟩
  ·have:=ih (Sort.scanUp (fun x=>lt C x d[a]!) d j i+1) (Sort.scanDown (fun x=>!lt C x d[a]!) d (Sort.scanUp (fun x=>lt C x d[a]!) d j i) j-1) (Sort.swp d (Sort.scanUp (fun x=>lt C x d[a]!) d j i) (Sort.scanDown (fun x=>!lt C x d[a]!) d (Sort.scanUp (fun x=>lt C x d[a]!) d j i) j)) (by omega)
   exact⟨by omega,by rw[this.2,swp_size]⟩
include hC
theorem prt {a b p:Nat}{d:Array β}(ha:a < d.size)(hp:p < d.size)(hb:b≤d.size)(hb1:1≤b)(hz:d.size≤250):P146 ((a:Int),(b:Int),(p:Int),MA v d)=some (((Sort.partition (lt C) d a b p).1:Int),(Sort.partition (lt C) d a b p).2.1,MA v (Sort.partition (lt C) d a b p).2.2):=by
 have key:∀ {i j:Nat} {d:Array β},a < d.size→1≤i→j < d.size→d.size≤250→L146_2 ((a:Int),(i:Int),(j:Int),MA v d)=some ((a:Int),((Sort.partLoop (lt C) a i j d).1:Int),MA v (Sort.partLoop (lt C) a i j d).2):=by
  intro i j d ha hi hj hz
  refine while_rel (fun s r n=>∃ (i j:Nat) (d:Array β),a < d.size∧1≤i∧j < d.size∧d.size≤250∧s=((a:Int),(i:Int),(j:Int),MA v d)∧r=((a:Int),((Sort.partLoop (lt C) a i j d).1:Int),MA v (Sort.partLoop (lt C) a i j d).2)∧n=j+1-i) ⟨i,j,d,ha,hi,hj,hz,rfl,rfl,rfl⟩ (by omega) ?_
  rintro s r n ⟨i,j,d,q1,q2,q3,q4,rfl,rfl,rfl⟩
  have u1:=Sort.scanUp_ge (fun x=>lt C x d[a]!) d j i
  have u2:=Sort.scanDown_le (fun x=>!lt C x d[a]!) d (Sort.scanUp (fun x=>lt C x d[a]!) d j i) j
  rw[Sort.partLoop_eq]
  simp(disch:=omega) only[p146_2,q146_2,pr3 hC,pr4 hC,bind_some']
  generalize Sort.scanUp (fun x=>lt C x d[a]!) d j i=i2 at *
  generalize Sort.scanDown (fun x=>!lt C x d[a]!) d i2 j=j2 at *
  by_cases e:j2 < i2
  ·left; simp(disch:=omega) only[ltN,dT,cond_true,if_pos (show i2 > j2 from e)]
  ·right
   simp(disch:=omega) only[ltN,dF,cond_false,if_neg (show ¬ i2 > j2 from e),MA_inR,chk_t,MA_ix,Int.toNat_natCast,MA_set,MA_inRs,MA_swp,a1,fitK,p1]
   exact⟨_,j2-1+1-(i2+1),rfl,⟨i2+1,j2-1,Sort.swp d i2 j2,by rwa [swp_size],by omega,by rw[swp_size]; omega,by rwa [swp_size],rfl,rfl,rfl⟩,by omega⟩
 unfold Sort.partition
 simp only[]
 have z1:(Sort.swp d a p).size=d.size:=swp_size _ _ _
 generalize hd:Sort.swp d a p=d1 at *
 have u1:=Sort.scanUp_ge (fun x=>lt C x d1[a]!) d1 (b-1) (a+1)
 have u2:=Sort.scanDown_le (fun x=>!lt C x d1[a]!) d1 (Sort.scanUp (fun x=>lt C x d1[a]!) d1 (b-1) (a+1)) (b-1)
 simp(disch:=omega) only[P146,p146,q146,MA_inR,chk_t,MA_ix,Int.toNat_natCast,MA_set,MA_inRs,MA_swp,hd,a1,fitK,p1,pr0 hC,pr1 hC,bind_some']
 generalize Sort.scanUp (fun x=>lt C x d1[a]!) d1 (b-1) (a+1)=i2 at *
 generalize Sort.scanDown (fun x=>!lt C x d1[a]!) d1 i2 (b-1)=j2 at *
 by_cases e:j2 < i2
 ·simp(disch:=omega) only[ltN,dT,cond_true,if_pos (show i2 > j2 from e),MA_inR,chk_t,MA_ix,Int.toNat_natCast,MA_set,MA_inRs,MA_swp]
 ·have z2:(Sort.swp d1 i2 j2).size=d1.size:=swp_size _ _ _
  have k:=key (i:=i2+1) (j:=j2-1) (d:=Sort.swp d1 i2 j2) (by omega) (by omega) (by omega) (by omega)
  have hl:=pl_le (C:=C) a _ (i2+1) (j2-1) (Sort.swp d1 i2 j2) (Nat.le_refl _)
  simp(disch:=omega) only[ltN,dF,cond_false,if_neg (show ¬ i2 > j2 from e),MA_inR,chk_t,MA_ix,Int.toNat_natCast,MA_set,MA_inRs,MA_swp,a1,fitK,p1,k,bind_some']
theorem pdq0 (hS:Sort.SWO (lt C)):∀ (n f m a b limit:Nat) (wb wp:Bool) (d:Array β),n < f→n < m→n≤1000→b-a≤n→a≤b→b≤d.size→d.size≤250→limit≤250→Sort.Below (lt C) a b d →
  goF (fun x=>p119_0 (R119 f) x.1 x.2.1 x.2.2.1 x.2.2.2.1 x.2.2.2.2.1 x.2.2.2.2.2) m ((a:Int),(b:Int),(limit:Int),wb,wp,MA v d)=some (MA v (Sort.pdq (lt C) d a b limit wb wp)):=by
 have small:∀ (f m a b limit:Nat) (wb wp:Bool) (d:Array β),0 < m→b-a≤12→a≤b→b≤d.size→d.size≤250→goF (fun x=>p119_0 (R119 f) x.1 x.2.1 x.2.2.1 x.2.2.2.1 x.2.2.2.2.1 x.2.2.2.2.2) m ((a:Int),(b:Int),(limit:Int),wb,wp,MA v d)=some (MA v (Sort.pdq (lt C) d a b limit wb wp)):=by
  intro f m a b limit wb wp d hm h12 hab hb hz
  obtain⟨m,rfl⟩:∃ m',m=m'+1:=⟨m-1,by omega⟩
  have g:decide (((b-a:Nat):Int)≤12)=true:=by simp; omega
  rw[Sort.pdq,if_pos h12]
  simp(disch:=omega) only[goF,p119_0,q119_0,pn,fitK,chk_t,g,cond_true,ins hC,bind_some']
 intro n
 induction n with
 | zero=>intro f m a b limit wb wp d h1 h2 hn h3 hab hb hz hl hB; exact small f m a b limit wb wp d h2 (by omega) hab hb hz
 | succ n ih=>
  intro f m a b limit wb wp d h1 h2 hn h3 hab hb hz hl hB
  by_cases h12:b-a≤12
  ·exact small f m a b limit wb wp d (by omega) h12 hab hb hz
  obtain⟨m,rfl⟩:∃ m',m=m'+1:=⟨m-1,by omega⟩
  obtain⟨f,rfl⟩:∃ f',f=f'+1:=⟨f-1,by omega⟩
  have g12:decide (((b-a:Nat):Int)≤12)=false:=by simp; omega
  rw[Sort.pdq,if_neg h12]
  by_cases h0:limit=0
  ·subst h0
   have g0:decide (((0:Nat):Int)=0)=true:=rfl
   simp(disch:=omega) only[goF,p119_0,q119_0,pn,fitK,chk_t,g12,cond_false,g0,cond_true,heap hC,bind_some',if_true]
  have g0:decide ((limit:Int)=0)=false:=by simp; omega
  rw[if_neg h0]
  simp only[]
  have e1:L119_1 (R119 (f+1)) ((a:Int),(b:Int),(limit:Int),wb,wp,((b-a:Nat):Int),MA v d)=some ((a:Int),(b:Int),((if(!wb)=true then limit-1 else limit:Nat):Int),wb,wp,((b-a:Nat):Int),MA v (if(!wb)=true then Sort.breakPatterns d a b else d)):=by
   cases wb
   ·simp(disch:=omega) only[L119_1,p119_1,q119_1,Bool.not_false,cond_true,brk,bind_some',p1,fitK,chk_t,if_true]
   ·simp only[L119_1,p119_1,q119_1,Bool.not_true,cond_false,Bool.false_eq_true,if_false]
  have s1:Sort.PermIn a b d (if(!wb)=true then Sort.breakPatterns d a b else d):=by
   split
   ·exact Sort.breakPatterns_holds d a b hab hb
   ·exact Sort.permIn_refl _ _ _
  have hl1:(if(!wb)=true then limit-1 else limit)≤250:=by split <;> omega
  generalize (if(!wb)=true then Sort.breakPatterns d a b else d)=d1 at *
  generalize (if(!wb)=true then limit-1 else limit)=l1 at *
  have z1:d1.size=d.size:=s1.1
  have e2:=chp hC (d:=d1) (a:=a) (b:=b) (by omega) (by omega) (by omega)
  have hc0:=Sort.choosePivot_holds (lt C) d1 a b (by omega)
  generalize Sort.choosePivot (lt C) d1 a b=c at *
  have e3:L119_2 (R119 (f+1)) ((a:Int),(b:Int),(l1:Int),wb,wp,((b-a:Nat):Int),(c.1:Int),hN c.2,MA v d1)=some ((a:Int),(b:Int),(l1:Int),wb,wp,((b-a:Nat):Int),((if c.2 = .decreasing then(b-1)-(c.1-a)else c.1:Nat):Int),hN (if c.2 = .decreasing then Sort.Hint.increasing else c.2),MA v (if c.2 = .decreasing then Sort.reverseRange d1 a b else d1)):=by
   obtain⟨c1,c2⟩:=c
   simp only at hc0
   cases c2
   ·rfl
   ·rfl
   ·have g:decide (hN Sort.Hint.decreasing=2)=true:=rfl
    simp(disch:=omega) only[L119_2,p119_2,q119_2,g,cond_true,rev,bind_some',p1,fitK,chk_t,pn,if_true]
    rfl
  have s2:Sort.PermIn a b d1 (if c.2 = .decreasing then Sort.reverseRange d1 a b else d1):=by
   split
   ·exact Sort.reverseRange_holds d1 a b hab (by omega)
   ·exact Sort.permIn_refl _ _ _
  have hpv:a≤(if c.2 = .decreasing then(b-1)-(c.1-a)else c.1)∧(if c.2 = .decreasing then(b-1)-(c.1-a)else c.1) < b:=by split <;> omega
  generalize (if c.2 = .decreasing then Sort.reverseRange d1 a b else d1)=d2 at *
  generalize (if c.2 = .decreasing then(b-1)-(c.1-a)else c.1)=pv at *
  generalize (if c.2 = .decreasing then Sort.Hint.increasing else c.2)=hint at *
  have z2:d2.size=d1.size:=s2.1
  have B2:Sort.Below (lt C) a b d2:=(hB.perm hb s1).perm (by omega) s2
  have s3:Sort.PermIn a b d2 (if(wb&&wp&&decide (hint = .increasing))=true then Sort.partialInsertionSort (lt C) d2 a b else(d2,false)).1:=by
   split
   ·exact(Sort.partialInsertionSort_holds hS d2 a b (by omega) (by omega) B2).1
   ·exact Sort.permIn_refl _ _ _
  have e4:L119_3 (R119 (f+1)) ((a:Int),(b:Int),(l1:Int),wb,wp,((b-a:Nat):Int),(pv:Int),hN hint,MA v d2)=some (cond (if(wb&&wp&&decide (hint = .increasing))=true then Sort.partialInsertionSort (lt C) d2 a b else(d2,false)).2
    (.inl (MA v (if(wb&&wp&&decide (hint = .increasing))=true then Sort.partialInsertionSort (lt C) d2 a b else(d2,false)).1))
    (.inr ((a:Int),(b:Int),(l1:Int),wb,wp,((b-a:Nat):Int),(pv:Int),MA v (if(wb&&wp&&decide (hint = .increasing))=true then Sort.partialInsertionSort (lt C) d2 a b else(d2,false)).1))):=by
   have hpis:=pis hC (d:=d2) (a:=a) (b:=b) (by omega) (by omega) (by omega)
   cases wb
   ·rfl
   ·cases wp
    ·rfl
    ·cases hint
     ·rfl
     ·have g:decide (hN Sort.Hint.increasing=1)=true:=rfl
      simp only[L119_3,p119_3,q119_3,g,cond_true,hpis,bind_some',Bool.true_and,decide_true,if_true]
      cases(Sort.partialInsertionSort (lt C) d2 a b).2 <;> rfl
     ·rfl
  generalize (if(wb&&wp&&decide (hint = .increasing))=true then Sort.partialInsertionSort (lt C) d2 a b else(d2,false))=pi at *
  obtain⟨d3,fl⟩:=pi
  simp only at s3 e4 ⊢
  have z3:d3.size=d2.size:=s3.1
  have B3:Sort.Below (lt C) a b d3:=B2.perm (by omega) s3
  rw[goF]
  generalize hG:goF (fun x=>p119_0 (R119 (f+1)) x.1 x.2.1 x.2.2.1 x.2.2.2.1 x.2.2.2.2.1 x.2.2.2.2.2) m=G
  simp(disch:=omega) only[p119_0,q119_0,pn,fitK,chk_t,g12,cond_false,g0,e1,bind_some',e2,e3,e4]
  clear e1 e2 e3 e4
  cases fl
  ·simp only[cond_false,Sum.elim_inr,Bool.false_eq_true,if_false]
   have call:∀ (x y:Nat) (dd:Array β),x≤y→y-x≤n→y≤dd.size→dd.size≤250→Sort.Below (lt C) x y dd→R119 (f+1) ((x:Int),(y:Int),(l1:Int),MA v dd)=some (MA v (Sort.pdq (lt C) dd x y l1 true true)):=fun x y dd k1 k2 k3 k4 k5=>by
    have:=ih f 18446744073709551616 x y l1 true true dd (by omega) (by omega) (by omega) k2 k1 k3 k4 hl1 k5
    have this':L119_0 (R119 f) ((x:Int),(y:Int),(l1:Int),true,true,MA v dd)=some (MA v (Sort.pdq (lt C) dd x y l1 true true)):=this
    show p119 (R119 f) _ _ _ _=_
    simp only[p119,q119,this',bind_some']
   have part:∀ (mid:Nat) (ap:Bool) (d4:Array β),Sort.partition (lt C) d3 a b pv=(mid,ap,d4) →
     ∃ s',(((P146 ((a:Int),(b:Int),(pv:Int),MA v d3)).bind fun r17=>chk (fits .i64 (r17.1-(a:Int))) (chk (fits .i64 ((b:Int)-r17.1)) (chk (fits .i64 (Int.tdiv ((b-a:Nat):Int) 8)) (cond (decide ((r17.1-(a:Int)) < ((b:Int)-r17.1)))
      ((R119 (f+1) ((a:Int),r17.1,(l1:Int),r17.2.2)).bind fun r18=>chk (fits .i64 (r17.1+1)) (some (Sum.inl ((r17.1+1),(b:Int),(l1:Int),decide (Int.tdiv ((b-a:Nat):Int) 8≤(r17.1-(a:Int))),r17.2.1,r18))))
      (chk (fits .i64 (r17.1+1)) ((R119 (f+1) ((r17.1+1),(b:Int),(l1:Int),r17.2.2)).bind fun r19=>some (Sum.inl ((a:Int),r17.1,(l1:Int),decide (Int.tdiv ((b-a:Nat):Int) 8≤((b:Int)-r17.1)),r17.2.1,r19))))))):Option ((Int×Int×Int×Bool×Bool×List E)⊕List E)))=some (Sum.inl s')∧G s'=some (MA v (if h:a≤mid∧mid < b then
       if mid-a < b-mid then Sort.pdq (lt C) (Sort.pdq (lt C) d4 a mid l1 true true) (mid+1) b l1 (decide (mid-a≥(b-a) / 8)) ap
       else Sort.pdq (lt C) (Sort.pdq (lt C) d4 (mid+1) b l1 true true) a mid l1 (decide (b-mid≥(b-a) / 8)) ap else d4)):=fun mid ap d4 hx=>by
    have hr:=prt hC (d:=d3) (a:=a) (b:=b) (p:=pv) (by omega) (by omega) (by omega) (by omega) (by omega)
    obtain⟨g1,g2,hs4,hBa,hBr,hleft,hright⟩:=Sort.round_part hS (Sort.partition_holds _) hpv.1 hpv.2 (by omega) B3 hx
    rw[hx]at hr
    simp only at hr
    have q8:Int.tdiv ((b-a:Nat):Int) 8=(((b-a) / 8:Nat):Int):=tdN _
    rw[dif_pos ⟨g1,g2⟩]
    simp(disch:=omega) only[hr,bind_some',pn,fitK,chk_t,q8,ltN,leN,a1]
    by_cases hlt:mid-a < b-mid
    ·have k:=call a mid d4 g1 (by omega) (by omega) (by omega) hBa
     obtain⟨l1',l2'⟩:=Sort.pdq_sorts (lt C) hS d4 a mid l1 true true g1 (by omega) hBa
     have hB':=(hleft _ l1' l2').1
     simp(disch:=omega) only[dT,cond_true,k,bind_some',if_pos hlt]
     refine⟨_,rfl,?_⟩
     rw[← hG]
     exact ih (f+1) m (mid+1) b l1 _ ap _ (by omega) (by omega) (by omega) (by omega) (by omega) (by rw[l1'.1]; omega) (by rw[l1'.1]; omega) hl1 hB'
    ·have k:=call (mid+1) b d4 (by omega) (by omega) (by omega) (by omega) hBr
     obtain⟨l1',l2'⟩:=Sort.pdq_sorts (lt C) hS d4 (mid+1) b l1 true true (by omega) (by omega) hBr
     have hB':=(hright _ l1' l2').1
     simp(disch:=omega) only[dF,cond_false,k,bind_some',if_neg hlt]
     refine⟨_,rfl,?_⟩
     rw[← hG]
     exact ih (f+1) m a mid l1 _ ap _ (by omega) (by omega) (by omega) (by omega) (by omega) (by rw[l1'.1]; omega) (by rw[l1'.1]; omega) hl1 hB'
   by_cases ha0:0 < a
   ·have ga:decide ((0:Int) < (a:Int))=true:=by simp; omega
    simp(disch:=omega) only[ga,cond_true,p1,fitK,chk_t,MA_inR,MA_ix,hC,bind_some',ltE]
    cases hq:lt C d3[a-1]! d3[pv]!
    ·simp only[Bool.not_false,cond_true,Bool.and_true,decide_eq_true_eq,if_pos (show a > 0 from ha0)]
     have hr:=peq hC (d:=d3) (a:=a) (b:=b) (p:=pv) (by omega) (by omega) (by omega) (by omega) (by omega)
     rcases hx:Sort.partitionEqual (lt C) d3 a b pv with⟨mid,d4⟩
     obtain⟨g1,g2,hs4,hB4,hfin⟩:=Sort.round_eq hS (Sort.partitionEqual_holds _) ha0 hpv.1 hpv.2 (by omega) B3 hq hx
     rw[hx]at hr
     simp only at hr
     simp only[hr,bind_some',dif_pos (And.intro g1 g2)]
     rw[← hG]
     exact ih (f+1) m mid b l1 wb wp d4 (by omega) (by omega) (by omega) (by omega) g2 (by omega) (by omega) hl1 hB4
    ·simp only[Bool.not_true,cond_false,Bool.and_false,Bool.false_eq_true,if_false]
     rcases hx:Sort.partition (lt C) d3 a b pv with⟨mid,ap,d4⟩
     obtain⟨s',k1,k2⟩:=part mid ap d4 hx
     rw[k1]
     exact k2
   ·have ga:decide ((0:Int) < (a:Int))=false:=by simp; omega
    have gn:decide (a > 0)=false:=by simp; omega
    simp only[ga,cond_false,gn,Bool.false_and,Bool.false_eq_true,if_false]
    rcases hx:Sort.partition (lt C) d3 a b pv with⟨mid,ap,d4⟩
    obtain⟨s',k1,k2⟩:=part mid ap d4 hx
    rw[k1]
    exact k2
  ·simp only[cond_true,Sum.elim_inl,if_true]
theorem top (hS:Sort.SWO (lt C)){d:Array β}(hz:d.size≤250):P76 (MA v d)=some (MA v (Sort.sort (lt C) d)):=by
 have hl:Sort.bitsLen d.size≤8:=(Sort.bitsLen_le_iff d.size 8).2 (by omega)
 have fu:fits .u64 (d.size:Int)=true:=fitsU (by omega) (by omega)
 have k:=pdq0 hC hS 1000 18446744073709551615 18446744073709551616 0 d.size (Sort.bitsLen d.size) true true d (by omega) (by omega) (by omega) (by omega) (by omega) (Nat.le_refl _) hz (by omega) (.inl rfl)
 have k':L119_0 (R119 18446744073709551615) (0,(d.size:Int),((Sort.bitsLen d.size:Nat):Int),true,true,MA v d)=some (MA v (Sort.sort (lt C) d)):=k
 have e:P119 (0,(d.size:Int),((Sort.bitsLen d.size:Nat):Int),MA v d)=some (MA v (Sort.sort (lt C) d)):=by
  show p119 (R119 18446744073709551615) _ _ _ _=_
  simp only[p119,q119,k',bind_some']
 simp(disch:=omega) only[P76,p76,q76,MA_len,fu,chk_t,blen,bind_some',e]
end
theorem srt (K:E→Int)(gd:E→Prop)(x0:E)(h0:gd x0)(hK:∀ x y,gd x→gd y→∃ c:Int,P77 (x,y)=some c∧(decide (c < 0)=true↔K x < K y)){l:List E}(hl:∀ x∈l,gd x)(hz:l.length≤250):
  ∃ l',P76 l=some l'∧l'.Perm l∧Sd K l' 0 l'.length:=by
 letI:Inhabited {x:E // gd x}:=⟨⟨x0,h0⟩⟩
 let C:{x:E // gd x}→{x:E // gd x}→Int:=fun x y=>Classical.choose (hK x.1 y.1 x.2 y.2)
 have hC:∀ x y:{x:E // gd x},P77 (x.1,y.1)=some (C x y):=fun x y=>(Classical.choose_spec (hK x.1 y.1 x.2 y.2)).1
 have hlt:∀ x y:{x:E // gd x},lt C x y=true↔K x.1 < K y.1:=fun x y=>(Classical.choose_spec (hK x.1 y.1 x.2 y.2)).2
 have hlf:∀ x y:{x:E // gd x},lt C x y=false↔K y.1≤K x.1:=fun x y=>by rw[← Bool.not_eq_true,hlt]; omega
 have hS:Sort.SWO (lt C):=⟨fun x=>(hlf x x).2 (Int.le_refl _),fun x y z h1 h2=>(hlt _ _).2 (Int.lt_trans ((hlt _ _).1 h1) ((hlt _ _).1 h2)),fun x y z h1 h2=>(hlf _ _).2 (Int.le_trans ((hlf _ _).1 h2) ((hlf _ _).1 h1))⟩
 let d:Array {x:E // gd x}:=(l.attach.map fun x=>⟨x.1,hl x.1 x.2⟩).toArray
 have hd:MA (fun x:{x:E // gd x}=>x.1) d=l:=by
  simp only[MA,d,List.map_map]
  exact List.attach_map_subtype_val l
 have hds:d.size=l.length:=by simp[d]
 obtain⟨s1,s2⟩:=Sort.sort_sorts (lt C) hS d
 have ht:=top (v:=fun x:{x:E // gd x}=>x.1) hC hS (d:=d) (by omega)
 rw[hd]at ht
 refine⟨_,ht,?_,fun i j q1 q2 q3=>?_⟩
 ·have hp:=s1.2.2
  have e1:∀ r:Array {x:E // gd x},r.size=d.size→r.extract 0 d.size=r:=fun r hr=>by rw[← hr]; simp
  rw[e1 _ s1.1,show d.extract 0 d.size=d by simp]at hp
  have:=hp.map (fun x:{x:E // gd x}=>x.1)
  rw[← hd]
  exact this
 ·rw[MA_len]at q3
  have e:∀ k,k < (Sort.sort (lt C) d).size→gt (MA (fun x:{x:E // gd x}=>x.1) (Sort.sort (lt C) d)) k=((Sort.sort (lt C) d)[k]!).1:=fun k hk=>by rw[← ix_gt,MA_ix hk]
  rw[e i (by omega),e j q3]
  exact(hlf _ _).1 (s2 i j q1 q2 (by have:=s1.1; omega))
end Pdq76
end Go.Proofs.YtdacabdocbhkdaaGreat.D
