/- Cut down from a longer text. -/
import Derived.Test.YtdacabdocbhkdaaGreatG16m
import Derived.Test.YtdacabdocbhkdaaGreatB3
set_option linter.unusedVariables false
set_option linter.unusedSimpArgs false
namespace Go.Proofs.YtdacabdocbhkdaaGreat.D
open Go Go.Proofs L
namespace Srt103
abbrev E:=Int×Int×List Int×Int×Int
section
variable {C:E→E→Int} (hC:∀ x y,P104 (x,y)=some (C x y)) {K:E→Int}
def Gd (C:E→E→Int)(K:E→Int)(l:List E):Prop:=∀ x∈l,∀ y∈l,(C x y < 0↔K x < K y)
theorem Gd.perm {l l':List E}(h:Gd C K l)(hp:l'.Perm l):Gd C K l':=fun x hx y hy=>h x (hp.mem_iff.1 hx) y (hp.mem_iff.1 hy)
theorem Gd.at {l:List E}(h:Gd C K l){i j:Nat}(hi:i < l.length)(hj:j < l.length):C (gt l i) (gt l j) < 0↔K (gt l i) < K (gt l j):=h _ (gt_mem hi) _ (gt_mem hj)
include hC
theorem ins1 {a b i j : Nat} {l : List E} (hb : b ≤ l.length) (hl : l.length ≤ 1000000) (h1 : a ≤ j) (h2 : j = i) (h3 : i < b) :
  ∃ r, L147_1 ((a : Int), (b : Int), (i : Int), (j : Int), l) = some r ∧ r.1 = (a : Int) ∧ r.2.1 = (b : Int) ∧ r.2.2.1 = (i : Int) ∧ Rg l r.2.2.2 a (i + 1) ∧ (Gd C K l → Sd K l a i → Sd K r.2.2.2 a (i + 1)) := by
 refine while_meas (fun s => s.2.2.2.1.toNat) (fun s => ∃ j l', s = ((a : Int), (b : Int), (i : Int), ((j : Nat) : Int), l') ∧ a ≤ j ∧ j ≤ i ∧ Rg l l' a (i + 1) ∧ (Gd C K l → Sd K l a i → ∀ p q, a ≤ p → p < q → q ≤ i → q ≠ j → K (gt l' p) ≤ K (gt l' q))) _
  ⟨j, l, rfl, h1, by omega, Rg.refl _ _ _, fun _ hs p q q1 q2 q3 q4 => hs p q q1 q2 (by omega)⟩ (by show ((j : Int)).toNat < _; omega) ?_
 rintro s ⟨j, l', rfl, j1, j2, hr, hv⟩
 have hlen := hr.len
 have hfin : ∀ P : Prop, (P → (Gd C K l → Sd K l a i → ∀ p, a ≤ p → p < j → K (gt l' p) ≤ K (gt l' j))) → P → ((fun r : Int × Int × Int × List E => r.1 = (a : Int) ∧ r.2.1 = (b : Int) ∧ r.2.2.1 = (i : Int) ∧ Rg l r.2.2.2 a (i + 1) ∧ (Gd C K l → Sd K l a i → Sd K r.2.2.2 a (i + 1))) ((a : Int), (b : Int), (i : Int), l')) := fun P hP hp =>
  ⟨rfl, rfl, rfl, hr, fun g hs p q q1 q2 q3 => by
   by_cases e : q = j
   ·subst e; exact hP hp g hs p q1 q2
   ·exact hv g hs p q q1 q2 (by omega) e⟩
 simp only [p147_1, q147_1]
 by_cases hja : a < j
 ·have e1 : decide ((a : Int) < (j : Int)) = true := by simp; omega
  have f1 : fits .i64 ((j : Int) - 1) = true := fitsN (by omega) (by omega)
  have cj : (j : Int) - 1 = ((j - 1 : Nat) : Int) := by omega
  simp only [e1, cond_true, inR_nat (show j < l'.length by omega), chk_t, f1, cj, inR_nat (show j - 1 < l'.length by omega), ix_gt, hC, bind_some']
  by_cases hc : C (gt l' j) (gt l' (j - 1)) < 0
  ·left
   have s1 : (l'.set j (gt l' (j - 1))).length = l'.length := by simp
   simp only [hc, decide_true, cond_true, fitsN (show (0 : Int) ≤ ((j - 1 : Nat) : Int) by omega) (by omega), chk_t, inR_nat (show j < l'.length by omega), inR_nat (show j - 1 < l'.length by omega), Int.toNat_natCast, s1]
   refine ⟨_, rfl, ⟨j - 1, sw l' j (j - 1), rfl, by omega, by omega, hr.trans (Rg.sw (by omega) (by omega) (by omega) (by omega) (by omega) (by omega)), fun g hs p q q1 q2 q3 q4 => ?_⟩, by show ((j - 1 : Nat) : Int).toNat < (j : Int).toNat; omega⟩
   have hv := hv g hs
   have hlt := ((g.perm hr.perm).at (show j < l'.length by omega) (show j - 1 < l'.length by omega)).1 hc
   rw [gt_sw p (by omega) (by omega), gt_sw q (by omega) (by omega)]
   rw [if_neg q4]
   by_cases e1 : q = j
   ·rw [if_pos e1]
    by_cases e2 : p = j - 1
    ·rw [if_pos e2]; omega
    ·rw [if_neg e2, if_neg (by omega)]; exact hv p (j - 1) q1 (by omega) (by omega) (by omega)
   ·rw [if_neg e1]
    by_cases e2 : p = j - 1
    ·rw [if_pos e2]; exact hv j q (by omega) (by omega) q3 e1
    ·rw [if_neg e2]
     by_cases e3 : p = j
     ·rw [if_pos e3]; exact hv (j - 1) q (by omega) (by omega) q3 e1
     ·rw [if_neg e3]; exact hv p q q1 q2 q3 e1
  ·right
   simp only [hc, decide_false, cond_false, fitsN (show (0 : Int) ≤ ((j - 1 : Nat) : Int) by omega) (by omega), chk_t]
   refine ⟨_, rfl, hfin True (fun _ g hs p q1 q2 => ?_) trivial⟩
   have hge : ¬ K (gt l' j) < K (gt l' (j - 1)) := fun h => hc (((g.perm hr.perm).at (show j < l'.length by omega) (show j - 1 < l'.length by omega)).2 h)
   by_cases e : p = j - 1
   ·rw [e]; omega
   ·have := hv g hs p (j - 1) q1 (by omega) (by omega) (by omega); omega
 ·have e1 : decide ((a : Int) < (j : Int)) = false := by simp; omega
  simp only [e1, cond_false]
  exact .inr ⟨_, rfl, hfin True (fun _ g hs p q1 q2 => by omega) trivial⟩
theorem ins {a b:Nat}{l:List E}(hab:a≤b)(hb:b≤l.length)(hl:l.length≤1000000):
  ∃ l',P147 ((a:Int),(b:Int),l)=some l'∧Rg l l' a b∧(Gd C K l→Sd K l' a b):=by
 have f1:fits .i64 ((a:Int)+1)=true:=fitsN (by omega) (by omega)
 simp only[P147,p147,q147,f1,chk_t]
 suffices h:∃ l',L147_0 ((a:Int),(b:Int),((a:Int)+1),l)=some l'∧Rg l l' a b∧(Gd C K l→Sd K l' a b)by
  obtain⟨l',h1,h2⟩:=h
  exact⟨l',by rw[h1]; rfl,h2⟩
 refine while_inv (b-(a+1)) (fun k s=>∃ l',s=((a:Int),(b:Int),((a+1+k:Nat):Int),l')∧Rg l l' a b∧(Gd C K l→Sd K l' a (a+1+k))) _ ⟨l,by simp,Rg.refl _ _ _,fun _=>Sd.one (by omega)⟩ (by omega) ?_ ?_
 ·rintro k s hk ⟨l',rfl,hr,hv⟩
  have hlen:=hr.len
  have e1:decide (((a+1+k:Nat):Int) < (b:Int))=true:=by simp; omega
  obtain⟨r,r1,r2,r3,r4,r5,r6⟩:=ins1 hC (K:=K) (a:=a) (b:=b) (i:=a+1+k) (j:=a+1+k) (l:=l') (by omega) (by omega) (by omega) rfl (by omega)
  obtain⟨x1,x2,x3,x4⟩:=r
  simp only at r2 r3 r4 r5 r6
  subst r2; subst r3; subst r4
  simp only[p147_0,q147_0,e1,cond_true,r1,bind_some',fitsN (show(0:Int)≤((a+1+k:Nat):Int)+1 by omega) (by omega),chk_t]
  exact⟨_,rfl,x4,by simp only[Prod.mk.injEq,and_true,true_and]; omega,hr.trans (r5.wide (Nat.le_refl _) (by omega)),fun g=>r6 (g.perm hr.perm) (hv g)⟩
 ·rintro s ⟨l',rfl,hr,hv⟩
  have e1:decide (((a+1+(b-(a+1)):Nat):Int) < (b:Int))=false:=by simp; omega
  simp only[p147_0,q147_0,e1,cond_false]
  exact⟨_,rfl,hr,fun g=>(hv g).sub (Nat.le_refl _) (by omega)⟩
omit hC
theorem swp {a b n:Nat}{l:List E}(h1:a+n≤b)(h2:b+n≤l.length)(hl:l.length≤1000000):
  ∃ l',P172 ((a:Int),(b:Int),(n:Int),l)=some l'∧Rg l l' a (b+n)∧∀ k,gt l' k=if a≤k∧k < a+n then gt l (k+(b-a))else if b≤k∧k < b+n then gt l (k-(b-a))else gt l k:=by
 simp only[P172,p172,q172]
 suffices h:∃ l',L172_0 ((a:Int),(b:Int),(n:Int),0,l)=some l'∧Rg l l' a (b+n)∧∀ k,gt l' k=if a≤k∧k < a+n then gt l (k+(b-a))else if b≤k∧k < b+n then gt l (k-(b-a))else gt l k by
  obtain⟨l',g1,g2⟩:=h
  exact⟨l',by rw[g1]; rfl,g2⟩
 refine while_inv n (fun i s=>∃ l',s=((a:Int),(b:Int),(n:Int),(i:Int),l')∧Rg l l' a (b+n)∧∀ k,gt l' k=if a≤k∧k < a+i then gt l (k+(b-a))else if b≤k∧k < b+i then gt l (k-(b-a))else gt l k) _
  ⟨l,rfl,Rg.refl _ _ _,fun k=>by rw[if_neg (by omega),if_neg (by omega)]⟩ (by omega) ?_ ?_
 ·rintro i s hi ⟨l',rfl,hr,hv⟩
  have hlen:=hr.len
  have c1:(a:Int)+(i:Int)=((a+i:Nat):Int):=by omega
  have c2:(b:Int)+(i:Int)=((b+i:Nat):Int):=by omega
  have s1:(l'.set (a+i) (gt l' (b+i))).length=l'.length:=by simp
  simp only[p172_0,q172_0,lt_nat_t hi,cond_true,c1,c2,fitsN (show(0:Int)≤((a+i:Nat):Int)by omega) (by omega),fitsN (show(0:Int)≤((b+i:Nat):Int)by omega) (by omega),chk_t,
   inR_nat (show b+i < l'.length by omega),inR_nat (show a+i < l'.length by omega),ix_gt,Int.toNat_natCast,s1,fitsN (show(0:Int)≤(i:Int)+1 by omega) (by omega)]
  refine⟨_,rfl,sw l' (a+i) (b+i),rfl,hr.trans (Rg.sw (by omega) (by omega) (by omega) (by omega) (by omega) (by omega)),fun k=>?_⟩
  rw[gt_sw k (by omega) (by omega),hv (a+i),hv (b+i),hv k]
  by_cases e1:k=b+i
  ·subst e1
   rw[if_pos rfl,if_neg (by omega),if_neg (by omega),if_neg (by omega),if_pos (by omega)]
   congr 1; omega
  ·rw[if_neg e1]
   by_cases e2:k=a+i
   ·subst e2
    rw[if_pos rfl,if_neg (by omega),if_neg (by omega),if_pos (by omega)]
    congr 1; omega
   ·rw[if_neg e2]
    by_cases e3:a≤k∧k < a+i
    ·rw[if_pos e3,if_pos (by omega)]
    ·by_cases e4:b≤k∧k < b+i
     ·rw[if_neg e3,if_pos e4,if_neg (by omega),if_pos (by omega)]
     ·rw[if_neg e3,if_neg e4,if_neg (by omega),if_neg (by omega)]
 ·rintro s ⟨l',rfl,hr,hv⟩
  simp only[p172_0,q172_0,lt_nat_f,cond_false]
  exact⟨_,rfl,hr,hv⟩
theorem rot {a m b:Nat}{l:List E}(h1:a < m)(h2:m < b)(hb:b≤l.length)(hl:l.length≤1000000):
  ∃ l',P166 ((a:Int),(m:Int),(b:Int),l)=some l'∧Rg l l' a b∧∀ k,gt l' k=if a≤k∧k < a+(b-m)then gt l (k+(m-a))else if a+(b-m)≤k∧k < b then gt l (k-(b-m))else gt l k:=by
 have c1:(m:Int)-(a:Int)=((m-a:Nat):Int):=by omega
 have c2:(b:Int)-(m:Int)=((b-m:Nat):Int):=by omega
 let T:Nat→E:=fun k=>if a≤k∧k < a+(b-m)then gt l (k+(m-a))else if a+(b-m)≤k∧k < b then gt l (k-(b-m))else gt l k
 have hloop:∃ r,L166_0 ((m:Int),((m-a:Nat):Int),((b-m:Nat):Int),l)=some r∧∃ i l',r=((m:Int),((i:Nat):Int),l')∧0 < i∧a+i≤m∧m+i≤b∧Rg l l' a b∧∀ k,T k=if m-i≤k∧k < m then gt l' (k+i)else if m≤k∧k < m+i then gt l' (k-i)else gt l' k:=by
  refine while_meas (fun s=>s.2.1.toNat+s.2.2.1.toNat) (fun s=>∃ i j l',s=((m:Int),((i:Nat):Int),((j:Nat):Int),l')∧0 < i∧0 < j∧a+i≤m∧m+j≤b∧Rg l l' a b∧∀ k,T k=if m-i≤k∧k < m-i+j then gt l' (k+i)else if m-i+j≤k∧k < m+j then gt l' (k-j)else gt l' k) _
   ⟨m-a,b-m,l,rfl,by omega,by omega,by omega,by omega,Rg.refl _ _ _,fun k=>?_⟩ (by show((m-a:Nat):Int).toNat+((b-m:Nat):Int).toNat < _; omega) ?_
  ·show(if a≤k∧k < a+(b-m)then gt l (k+(m-a))else if a+(b-m)≤k∧k < b then gt l (k-(b-m))else gt l k)=_
   have e1:m-(m-a)=a:=by omega
   have e2:m+(b-m)=b:=by omega
   rw[e1,e2]
  ·rintro s ⟨i,j,l',rfl,i0,j0,i1,j1,hr,hv⟩
   have hlen:=hr.len
   by_cases hij:i=j
   ·right
    subst hij
    simp only[p166_0,q166_0,not_decide_eq,cond_false]
    refine⟨_,rfl,i,l',rfl,i0,i1,j1,hr,fun k=>?_⟩
    rw[hv k,show m-i+i=m by omega]
   ·left
    have e0:(!decide ((i:Int)=(j:Int)))=true:=by simp; omega
    by_cases hlt:j < i
    ·have e1:decide ((j:Int) < (i:Int))=true:=by simp; omega
     have c3:(m:Int)-(i:Int)=((m-i:Nat):Int):=by omega
     have c4:(i:Int)-(j:Int)=((i-j:Nat):Int):=by omega
     obtain⟨l2,g1,g2,g3⟩:=swp (a:=m-i) (b:=m) (n:=j) (l:=l') (by omega) (by omega) (by omega)
     simp only[p166_0,q166_0,e0,e1,cond_true,c3,c4,fitsN (show(0:Int)≤((m-i:Nat):Int)by omega) (by omega),fitsN (show(0:Int)≤((i-j:Nat):Int)by omega) (by omega),chk_t,g1,bind_some']
     refine⟨_,rfl,⟨i-j,j,l2,rfl,by omega,j0,by omega,j1,hr.trans (g2.wide (by omega) (by omega)),fun k=>?_⟩,by show((i-j:Nat):Int).toNat+(j:Int).toNat < (i:Int).toNat+(j:Int).toNat; omega⟩
     rw[hv k]
     by_cases q1:m-i≤k∧k < m-i+j
     ·rw[if_pos q1,if_neg (by omega),if_neg (by omega),g3,if_pos (by omega)]
      congr 1; omega
     ·rw[if_neg q1]
      by_cases q2:m-i+j≤k∧k < m+j
      ·rw[if_pos q2]
       by_cases q3:k < m-i+j+j
       ·rw[if_pos (by omega),g3,if_neg (by omega),if_pos (by omega)]
        congr 1; omega
       ·rw[if_neg (by omega),if_pos (by omega),g3,if_neg (by omega),if_neg (by omega)]
      ·rw[if_neg q2,if_neg (by omega),if_neg (by omega),g3,if_neg (by omega),if_neg (by omega)]
    ·have e1:decide ((j:Int) < (i:Int))=false:=by simp; omega
     have c3:(m:Int)-(i:Int)=((m-i:Nat):Int):=by omega
     have c4:(j:Int)-(i:Int)=((j-i:Nat):Int):=by omega
     have c5:(m:Int)+(j:Int)=((m+j:Nat):Int):=by omega
     have c6:((m+j:Nat):Int)-(i:Int)=((m+j-i:Nat):Int):=by omega
     obtain⟨l2,g1,g2,g3⟩:=swp (a:=m-i) (b:=m+j-i) (n:=i) (l:=l') (by omega) (by omega) (by omega)
     simp only[p166_0,q166_0,e0,e1,cond_true,cond_false,c3,c4,c5,c6,fitsN (show(0:Int)≤((m-i:Nat):Int)by omega) (by omega),fitsN (show(0:Int)≤((j-i:Nat):Int)by omega) (by omega),fitsN (show(0:Int)≤((m+j:Nat):Int)by omega) (by omega),fitsN (show(0:Int)≤((m+j-i:Nat):Int)by omega) (by omega),chk_t,g1,bind_some']
     refine⟨_,rfl,⟨i,j-i,l2,rfl,i0,by omega,i1,by omega,hr.trans (g2.wide (by omega) (by omega)),fun k=>?_⟩,by show(i:Int).toNat+((j-i:Nat):Int).toNat < (i:Int).toNat+(j:Int).toNat; omega⟩
     rw[hv k]
     by_cases q1:m-i≤k∧k < m-i+j
     ·rw[if_pos q1]
      by_cases q2:k < m-i+(j-i)
      ·rw[if_pos (by omega),g3,if_neg (by omega),if_neg (by omega)]
      ·rw[if_neg (by omega),if_pos (by omega),g3,if_pos (by omega)]
       congr 1; omega
     ·rw[if_neg q1]
      by_cases q2:m-i+j≤k∧k < m+j
      ·rw[if_pos q2,if_neg (by omega),if_neg (by omega),g3,if_neg (by omega),if_pos (by omega)]
       congr 1; omega
      ·rw[if_neg q2,if_neg (by omega),if_neg (by omega),g3,if_neg (by omega),if_neg (by omega)]
 obtain⟨r,hr0,i,l',rfl,i0,i1,i2,hr,hv⟩:=hloop
 have hlen:=hr.len
 obtain⟨l2,g1,g2,g3⟩:=swp (a:=m-i) (b:=m) (n:=i) (l:=l') (by omega) (by omega) (by omega)
 have c3:(m:Int)-(i:Int)=((m-i:Nat):Int):=by omega
 refine⟨l2,?_,hr.trans (g2.wide (by omega) (by omega)),fun k=>?_⟩
 ·simp only[P166,p166,q166,c1,c2,fitsN (show(0:Int)≤((m-a:Nat):Int)by omega) (by omega),fitsN (show(0:Int)≤((b-m:Nat):Int)by omega) (by omega),chk_t,hr0,bind_some',c3,fitsN (show(0:Int)≤((m-i:Nat):Int)by omega) (by omega),g1]
 ·rw[show(if a≤k∧k < a+(b-m)then gt l (k+(m-a))else if a+(b-m)≤k∧k < b then gt l (k-(b-m))else gt l k)=T k from rfl,hv k,g3 k]
  have e:m-(m-i)=i:=by omega
  rw[e,show m-i+i=m by omega]
section
variable (F:Int×Int×Int×List E→Option (List E))
theorem up1 {a i:Nat}{l:List E}(h1:a < i)(h2:i≤l.length)(hl:l.length≤1000000):
  ∃ l',L148_1 F ((i:Int),(a:Int),l)=some l'∧Rg l l' a i∧∀ p,gt l' p=if a≤p∧p < i-1 then gt l (p+1)else if p=i-1 then gt l a else gt l p:=by
 refine while_inv (i-1-a) (fun t s=>∃ l',s=((i:Int),((a+t:Nat):Int),l')∧Rg l l' a i∧∀ p,gt l' p=if a≤p∧p < a+t then gt l (p+1)else if p=a+t then gt l a else gt l p) _
  ⟨l,rfl,Rg.refl _ _ _,fun p=>?_⟩ (by omega) ?_ ?_
 ·rw[if_neg (by omega)]; split
  ·subst p; rfl
  ·rfl
 ·rintro t s ht ⟨l',rfl,hr,hv⟩
  have hlen:=hr.len
  have c0:(i:Int)-1=((i-1:Nat):Int):=by omega
  have c1:((a+t:Nat):Int)+1=((a+t+1:Nat):Int):=by omega
  have s1:(l'.set (a+t) (gt l' (a+t+1))).length=l'.length:=by simp
  simp only[p148_1,q148_1,c0,c1,fitsN (show(0:Int)≤((i-1:Nat):Int)by omega) (by omega),fitsN (show(0:Int)≤((a+t+1:Nat):Int)by omega) (by omega),chk_t,lt_nat_t (show a+t < i-1 by omega),cond_true,
   inR_nat (show a+t < l'.length by omega),inR_nat (show a+t+1 < l'.length by omega),ix_gt,Int.toNat_natCast,s1]
  refine⟨_,rfl,sw l' (a+t) (a+t+1),rfl,hr.trans (Rg.sw (by omega) (by omega) (by omega) (by omega) (by omega) (by omega)),fun p=>?_⟩
  have va:gt l' (a+t)=gt l a:=by rw[hv,if_neg (by omega),if_pos rfl]
  have vb:gt l' (a+t+1)=gt l (a+t+1):=by rw[hv,if_neg (by omega),if_neg (by omega)]
  rw[gt_sw p (by omega) (by omega),va,vb,hv p]
  by_cases e1:p=a+t+1
  ·rw[if_pos e1,if_neg (by omega),if_pos (by omega)]
  ·rw[if_neg e1]
   by_cases e2:p=a+t
   ·rw[if_pos e2,if_pos (by omega),e2]
   ·rw[if_neg e2]
    by_cases e3:a≤p∧p < a+t
    ·rw[if_pos e3,if_pos (by omega)]
    ·rw[if_neg e3,if_neg e2,if_neg (by omega),if_neg (by omega)]
 ·rintro s ⟨l',rfl,hr,hv⟩
  have c0:(i:Int)-1=((i-1:Nat):Int):=by omega
  have e0:a+(i-1-a)=i-1:=by omega
  rw[e0]at hv
  simp only[p148_1,q148_1,c0,e0,fitsN (show(0:Int)≤((i-1:Nat):Int)by omega) (by omega),chk_t,lt_nat_f,cond_false]
  exact⟨_,rfl,hr,hv⟩
theorem up3 {i m:Nat}{l:List E}(h1:i≤m)(h2:m < l.length)(hl:l.length≤1000000):
  ∃ l',L148_3 F ((i:Int),(m:Int),l)=some l'∧Rg l l' i (m+1)∧∀ p,gt l' p=if i < p∧p≤m then gt l (p-1)else if p=i then gt l m else gt l p:=by
 refine while_inv (m-i) (fun t s=>∃ l',s=((i:Int),((m-t:Nat):Int),l')∧Rg l l' i (m+1)∧∀ p,gt l' p=if m-t < p∧p≤m then gt l (p-1)else if p=m-t then gt l m else gt l p) _
  ⟨l,rfl,Rg.refl _ _ _,fun p=>?_⟩ (by omega) ?_ ?_
 ·rw[if_neg (by omega)]; split
  ·have e:p=m:=by omega
   subst e; rfl
  ·rfl
 ·rintro t s ht ⟨l',rfl,hr,hv⟩
  have hlen:=hr.len
  have c1:((m-t:Nat):Int)-1=((m-(t+1):Nat):Int):=by omega
  have s1:(l'.set (m-t) (gt l' (m-(t+1)))).length=l'.length:=by simp
  simp only[p148_3,q148_3,c1,fitsN (show(0:Int)≤((m-(t+1):Nat):Int)by omega) (by omega),chk_t,lt_nat_t (show i < m-t by omega),cond_true,
   inR_nat (show m-t < l'.length by omega),inR_nat (show m-(t+1) < l'.length by omega),ix_gt,Int.toNat_natCast,s1]
  refine⟨_,rfl,sw l' (m-t) (m-(t+1)),rfl,hr.trans (Rg.sw (by omega) (by omega) (by omega) (by omega) (by omega) (by omega)),fun p=>?_⟩
  have va:gt l' (m-t)=gt l m:=by rw[hv,if_neg (by omega),if_pos rfl]
  have vb:gt l' (m-(t+1))=gt l (m-(t+1)):=by rw[hv,if_neg (by omega),if_neg (by omega)]
  rw[gt_sw p (by omega) (by omega),va,vb,hv p]
  by_cases e1:p=m-(t+1)
  ·rw[if_pos e1,if_neg (by omega),if_pos e1]
  ·rw[if_neg e1]
   by_cases e2:p=m-t
   ·rw[if_pos e2,if_pos (by omega)]
    congr 1; omega
   ·rw[if_neg e2]
    by_cases e3:m-t < p∧p≤m
    ·rw[if_pos e3,if_pos (by omega)]
    ·rw[if_neg e3,if_neg e2,if_neg (by omega),if_neg (by omega)]
 ·rintro s ⟨l',rfl,hr,hv⟩
  have e0:m-(m-i)=i:=by omega
  rw[e0]at hv
  simp only[p148_3,q148_3,e0,lt_nat_f,cond_false]
  exact⟨_,rfl,hr,hv⟩
end
include hC
theorem bs0 (F:Int×Int×Int×List E→Option (List E)){a i j:Nat}{l:List E}(h1:a < l.length)(h2:i≤j)(h3:j≤l.length)(hl:l.length≤1000000):
  ∃ k,L148_0 F ((a:Int),(i:Int),(j:Int),l)=some ((a:Int),((k:Nat):Int),l)∧i≤k∧k≤j∧((∀ p q,i≤p→p≤q→q < j→C (gt l q) (gt l a) < 0→C (gt l p) (gt l a) < 0)→Cut (fun p=>C (gt l p) (gt l a) < 0) i j k):=by
 refine while_half (fun p=>C (gt l p) (gt l a) < 0) (fun i j=>((a:Int),(i:Int),(j:Int),l)) (fun k=>((a:Int),(k:Int),l)) i j ?_ ?_ h2 (by omega)
 ·intro p q h4 h5 h6
  simp only[p148_0,q148_0,lt_nat_t h5,cond_true,half p q (by omega),fitsN (show(0:Int)≤(p:Int)+(q:Int)by omega) (by omega),fitsU (show(0:Int)≤(p:Int)+(q:Int)by omega) (by omega),fitsN (show(0:Int)≤(((p+q) / 2:Nat):Int)by omega) (by omega),
   fitsN (show(0:Int)≤(((p+q) / 2:Nat):Int)+1 by omega) (by omega),chk_t,inR_nat (show(p+q) / 2 < l.length by omega),inR_nat h1,ix_gt,hC,bind_some']
  by_cases e:C (gt l ((p+q) / 2)) (gt l a) < 0
  ·left; simp only[e,decide_true,cond_true,chk_t]; refine⟨?_,?_⟩ <;> first | rfl | trivial | exact not_false | exact fun h=>h trivial
  ·right; simp only[e,decide_false,cond_false]; refine⟨?_,?_⟩ <;> first | rfl | trivial | exact not_false | exact fun h=>h trivial
 ·intro p h4 h5
  simp only[p148_0,q148_0,lt_nat_f,cond_false]
theorem bs2 (F:Int×Int×Int×List E→Option (List E)){a i j:Nat}{l:List E}(h1:a < l.length)(h2:i≤j)(h3:j≤l.length)(hl:l.length≤1000000):
  ∃ k,L148_2 F ((a:Int),(i:Int),(j:Int),l)=some ((a:Int),((k:Nat):Int),l)∧i≤k∧k≤j∧((∀ p q,i≤p→p≤q→q < j→¬ C (gt l a) (gt l q) < 0→¬ C (gt l a) (gt l p) < 0)→Cut (fun p=>¬ C (gt l a) (gt l p) < 0) i j k):=by
 refine while_half (fun p=>¬ C (gt l a) (gt l p) < 0) (fun i j=>((a:Int),(i:Int),(j:Int),l)) (fun k=>((a:Int),(k:Int),l)) i j ?_ ?_ h2 (by omega)
 ·intro p q h4 h5 h6
  simp only[p148_2,q148_2,lt_nat_t h5,cond_true,half p q (by omega),fitsN (show(0:Int)≤(p:Int)+(q:Int)by omega) (by omega),fitsU (show(0:Int)≤(p:Int)+(q:Int)by omega) (by omega),fitsN (show(0:Int)≤(((p+q) / 2:Nat):Int)by omega) (by omega),
   fitsN (show(0:Int)≤(((p+q) / 2:Nat):Int)+1 by omega) (by omega),chk_t,inR_nat (show(p+q) / 2 < l.length by omega),inR_nat h1,ix_gt,hC,bind_some']
  by_cases e:C (gt l a) (gt l ((p+q) / 2)) < 0
  ·right; simp only[e,decide_true,Bool.not_true,cond_false]; refine⟨?_,?_⟩ <;> first | rfl | trivial | exact not_false | exact fun h=>h trivial
  ·left; simp only[e,decide_false,Bool.not_false,cond_true,chk_t]; refine⟨?_,?_⟩ <;> first | rfl | trivial | exact not_false | exact fun h=>h trivial
 ·intro p h4 h5
  simp only[p148_2,q148_2,lt_nat_f,cond_false]
theorem bs5 (F:Int×Int×Int×List E→Option (List E)){x0 x1 x2 x3 x4:Int}{t i j:Nat}{l:List E}(h1:t < l.length+i)(h2:i≤j)(h3:j≤l.length)(h4:j≤t+1)(hl:l.length≤1000000):
  ∃ k,L148_5 F (x0,x1,x2,x3,x4,(i:Int),(j:Int),(t:Int),l)=some (x0,x1,x2,x3,x4,((k:Nat):Int),l)∧i≤k∧k≤j∧((∀ p q,i≤p→p≤q→q < j→¬ C (gt l (t-q)) (gt l q) < 0→¬ C (gt l (t-p)) (gt l p) < 0)→Cut (fun p=>¬ C (gt l (t-p)) (gt l p) < 0) i j k):=by
 refine while_half (fun p=>¬ C (gt l (t-p)) (gt l p) < 0) (fun i j=>(x0,x1,x2,x3,x4,(i:Int),(j:Int),(t:Int),l)) (fun k=>(x0,x1,x2,x3,x4,(k:Int),l)) i j ?_ ?_ h2 (by omega)
 ·intro p q h5 h6 h7
  have c:(t:Int)-(((p+q) / 2:Nat):Int)=((t-(p+q) / 2:Nat):Int):=by omega
  simp only[p148_5,q148_5,lt_nat_t h6,cond_true,half p q (by omega),c,fitsN (show(0:Int)≤(p:Int)+(q:Int)by omega) (by omega),fitsU (show(0:Int)≤(p:Int)+(q:Int)by omega) (by omega),fitsN (show(0:Int)≤(((p+q) / 2:Nat):Int)by omega) (by omega),fitsN (show(0:Int)≤((t-(p+q) / 2:Nat):Int)by omega) (by omega),
   fitsN (show(0:Int)≤(((p+q) / 2:Nat):Int)+1 by omega) (by omega),chk_t,inR_nat (show(p+q) / 2 < l.length by omega),inR_nat (show t-(p+q) / 2 < l.length by omega),ix_gt,hC,bind_some']
  by_cases e:C (gt l (t-(p+q) / 2)) (gt l ((p+q) / 2)) < 0
  ·right; simp only[e,decide_true,Bool.not_true,cond_false]; refine⟨?_,?_⟩ <;> first | rfl | trivial | exact not_false | exact fun h=>h trivial
  ·left; simp only[e,decide_false,Bool.not_false,cond_true,chk_t]; refine⟨?_,?_⟩ <;> first | rfl | trivial | exact not_false | exact fun h=>h trivial
 ·intro p h5 h6
  simp only[p148_5,q148_5,lt_nat_f,cond_false]
theorem sym1 (F : Int × Int × Int × List E → Option (List E)) {a b : Nat} {l : List E} (h2 : a + 1 < b) (hb : b ≤ l.length) (hl : l.length ≤ 1000000) :
  ∃ l', p148 F (a : Int) ((a + 1 : Nat) : Int) (b : Int) l = some l' ∧ Rg l l' a b ∧ (Gd C K l → Sd K l (a + 1) b → Sd K l' a b) := by
 obtain ⟨k, k1, k2, k3, k4⟩ := bs0 hC F (a := a) (i := a + 1) (j := b) (l := l) (by omega) (by omega) hb hl
 obtain ⟨l', u1, u2, u3⟩ := up1 F (a := a) (i := k) (l := l) (by omega) (by omega) hl
 have c1 : ((a + 1 : Nat) : Int) - (a : Int) = 1 := by omega
 have f1 : fits .i64 (1 : Int) = true := by decide
 refine ⟨l', ?_, u2.wide (Nat.le_refl _) k3, fun g s => ?_⟩
 ·simp only [p148, q148, c1, f1, chk_t, decide_true, cond_true, k1, u1, bind_some']
 ·have hc : Cut (fun p => C (gt l p) (gt l a) < 0) (a + 1) b k := k4 fun p q q1 q2 q3 q4 => by
   rw [g.at (by omega) (by omega)] at q4 ⊢
   have := s.le q1 q2 q3; omega
  intro p q q1 q2 q3
  have hlo : ∀ x, a + 1 ≤ x → x < k → K (gt l x) < K (gt l a) := fun x x1 x2 => (g.at (by omega) (by omega)).1 (hc.1 x x1 x2)
  have hhi : ∀ x, k ≤ x → x < b → K (gt l a) ≤ K (gt l x) := fun x x1 x2 => by
   have : ¬ C (gt l x) (gt l a) < 0 := hc.2 x x1 x2
   rw [g.at (by omega) (by omega)] at this; omega
  rw [u3, u3]
  by_cases e1 : p < k - 1
  ·rw [if_pos (by omega)]
   by_cases e2 : q < k - 1
   ·rw [if_pos (by omega)]; exact s.le (by omega) (by omega) (by omega)
   ·rw [if_neg (by omega)]
    by_cases e3 : q = k - 1
    ·rw [if_pos e3]; have := hlo (p + 1) (by omega) (by omega); omega
    ·rw [if_neg e3]; exact s.le (by omega) (by omega) (by omega)
  ·rw [if_neg (by omega)]
   by_cases e2 : p = k - 1
   ·rw [if_pos e2, if_neg (by omega), if_neg (by omega)]; exact hhi q (by omega) q3
   ·rw [if_neg e2, if_neg (by omega), if_neg (by omega)]; exact s.le (by omega) (by omega) (by omega)
theorem sym2 (F : Int × Int × Int × List E → Option (List E)) {a m : Nat} {l : List E} (h1 : a + 1 < m) (hb : m + 1 ≤ l.length) (hl : l.length ≤ 1000000) :
  ∃ l', p148 F (a : Int) (m : Int) ((m + 1 : Nat) : Int) l = some l' ∧ Rg l l' a (m + 1) ∧ (Gd C K l → Sd K l a m → Sd K l' a (m + 1)) := by
 obtain ⟨k, k1, k2, k3, k4⟩ := bs2 hC F (a := m) (i := a) (j := m) (l := l) (by omega) (by omega) (by omega) hl
 obtain ⟨l', u1, u2, u3⟩ := up3 F (i := k) (m := m) (l := l) (by omega) (by omega) hl
 have c1 : (m : Int) - (a : Int) = ((m - a : Nat) : Int) := by omega
 have c2 : ((m + 1 : Nat) : Int) - (m : Int) = 1 := by omega
 have e1 : decide (((m - a : Nat) : Int) = 1) = false := by simp; omega
 have f1 : fits .i64 (1 : Int) = true := by decide
 refine ⟨l', ?_, u2.wide k2 (Nat.le_refl _), fun g s => ?_⟩
 ·simp only [p148, q148, c1, c2, e1, f1, fitsN (show (0 : Int) ≤ ((m - a : Nat) : Int) by omega) (by omega), chk_t, decide_true, cond_true, cond_false, k1, u1, bind_some']
 ·have hc : Cut (fun p => ¬ C (gt l m) (gt l p) < 0) a m k := k4 fun p q q1 q2 q3 q4 => by
   rw [g.at (by omega) (by omega)] at q4 ⊢
   have := s.le q1 q2 q3; omega
  intro p q q1 q2 q3
  have hlo : ∀ x, a ≤ x → x < k → K (gt l x) ≤ K (gt l m) := fun x x1 x2 => by
   have : ¬ C (gt l m) (gt l x) < 0 := hc.1 x x1 x2
   rw [g.at (by omega) (by omega)] at this; omega
  have hhi : ∀ x, k ≤ x → x < m → K (gt l m) < K (gt l x) := fun x x1 x2 => (g.at (by omega) (by omega)).1 (Classical.not_not.1 (hc.2 x x1 x2))
  rw [u3, u3]
  by_cases e1 : k < p
  ·rw [if_pos (by omega), if_pos (by omega)]; exact s.le (by omega) (by omega) (by omega)
  ·rw [if_neg (by omega)]
   by_cases e2 : p = k
   ·rw [if_pos e2, if_pos (by omega)]; have := hhi (q - 1) (by omega) (by omega); omega
   ·rw [if_neg e2]
    by_cases e3 : k < q
    ·rw [if_pos (by omega)]; exact s.le (by omega) (by omega) (by omega)
    ·rw [if_neg (by omega)]
     by_cases e4 : q = k
     ·rw [if_pos e4]; exact hlo p q1 (by omega)
     ·rw [if_neg e4]; exact s.le (by omega) (by omega) (by omega)
omit hC in
theorem sym4 (F:Int×Int×Int×List E→Option (List E)){a m b:Nat}{l:List E}(h1:a+1 < m)(h2:m+1 < b)(hb:b≤1000000):
  ∃ i j:Nat,L148_4 F ((a:Int),(m:Int),(b:Int),(((a+b) / 2:Nat):Int),(((a+b) / 2+m:Nat):Int),l)=some ((a:Int),(m:Int),(b:Int),(((a+b) / 2:Nat):Int),(((a+b) / 2+m:Nat):Int),(i:Int),(j:Int),l) ∧
   a≤i∧i≤j∧j≤m∧j≤(a+b) / 2∧(i=a∨i+b=(a+b) / 2+m)∧(a+b) / 2+m≤b+i∧(j=m∨j=(a+b) / 2):=by
 by_cases e:(a+b) / 2 < m
 ·refine⟨(a+b) / 2+m-b,(a+b) / 2,?_,by omega,by omega,by omega,by omega,by omega,by omega,by omega⟩
  have c1:(((a+b) / 2+m:Nat):Int)-(b:Int)=(((a+b) / 2+m-b:Nat):Int):=by omega
  simp only[L148_4,p148_4,q148_4,lt_nat_t e,cond_true,c1,fitsN (show(0:Int)≤(((a+b) / 2+m-b:Nat):Int)by omega) (by omega),chk_t]
 ·refine⟨a,m,?_,by omega,by omega,by omega,by omega,by omega,by omega,by omega⟩
  have e1:decide ((((a+b) / 2:Nat):Int) < (m:Int))=false:=by simp; omega
  simp only[L148_4,p148_4,q148_4,e1,cond_false]
omit hC in
theorem sym6 (F:Int×Int×Int×List E→Option (List E)){m s e:Nat}(x0 x2 x3:Int){l:List E}(h1:s≤m)(h2:m≤e)(hb:e≤l.length)(hl:l.length≤1000000):
  ∃ l',L148_6 F (x0,(m:Int),x2,x3,(s:Int),(e:Int),l)=some (x0,x2,x3,(s:Int),(e:Int),l')∧Rg l l' s e∧∀ k,gt l' k=if s≤k∧k < s+(e-m)then gt l (k+(m-s))else if s+(e-m)≤k∧k < e then gt l (k-(e-m))else gt l k:=by
 have hsame:(s=m∨m=e)→∀ k,gt l k=if s≤k∧k < s+(e-m)then gt l (k+(m-s))else if s+(e-m)≤k∧k < e then gt l (k-(e-m))else gt l k:=fun h k=>by
  rcases h with h | h
  ·subst h
   by_cases q:s≤k∧k < s+(e-s)
   ·rw[if_pos q]; congr 1; omega
   ·rw[if_neg q,if_neg (by omega)]
  ·subst h
   rw[if_neg (by omega)]; split
   ·congr 1; omega
   ·rfl
 by_cases e1:s < m
 ·by_cases e2:m < e
  ·obtain⟨l',r1,r2,r3⟩:=rot (a:=s) (m:=m) (b:=e) (l:=l) e1 e2 hb hl
   refine⟨l',?_,r2,r3⟩
   simp only[L148_6,p148_6,q148_6,lt_nat_t e1,lt_nat_t e2,cond_true,r1,bind_some']
  ·have d2:decide ((m:Int) < (e:Int))=false:=by simp; omega
   refine⟨l,?_,Rg.refl _ _ _,hsame (.inr (by omega))⟩
   simp only[L148_6,p148_6,q148_6,lt_nat_t e1,d2,cond_true,cond_false]
 ·have d1:decide ((s:Int) < (m:Int))=false:=by simp; omega
  refine⟨l,?_,Rg.refl _ _ _,hsame (.inl (by omega))⟩
  simp only[L148_6,p148_6,q148_6,d1,cond_false]
omit hC in
theorem sd_join {l:List E}{a c b:Nat}(h1:Sd K l a c)(h2:Sd K l c b)(h3:∀ i j,a≤i→i < c→c≤j→j < b→K (gt l i)≤K (gt l j)):Sd K l a b:=fun i j q1 q2 q3=>by
 by_cases e:j < c
 ·exact h1 i j q1 q2 e
 ·by_cases e':i < c
  ·exact h3 i j q1 e' (by omega) q3
  ·exact h2 i j (by omega) q2 q3
theorem sym : ∀ (f : Nat) {a m b : Nat} {l : List E}, a < m → m < b → b ≤ l.length → l.length ≤ 1000000 → b ≤ a + f →
  ∃ l', R148 f ((a : Int), (m : Int), (b : Int), l) = some l' ∧ Rg l l' a b ∧ (Gd C K l → Sd K l a m → Sd K l m b → Sd K l' a b)
 | 0, a, m, b, l, h1, h2, hb, hl, hf => by omega
 | f + 1, a, m, b, l, h1, h2, hb, hl, hf => by
  show ∃ l', p148 (R148 f) (a : Int) (m : Int) (b : Int) l = some l' ∧ _
  by_cases e1 : m = a + 1
  ·subst e1
   obtain ⟨l', r1, r2, r3⟩ := sym1 hC (K := K) (R148 f) (a := a) (b := b) (l := l) h2 hb hl
   exact ⟨l', r1, r2, fun g _ s => r3 g s⟩
  by_cases e2 : b = m + 1
  ·subst e2
   obtain ⟨l', r1, r2, r3⟩ := sym2 hC (K := K) (R148 f) (a := a) (m := m) (l := l) (by omega) hb hl
   exact ⟨l', r1, r2, fun g s _ => r3 g s⟩
  obtain ⟨i, j, i0, i1, i2, i3, i4, i5, i6, i7⟩ := sym4 (R148 f) (a := a) (m := m) (b := b) (l := l) (by omega) (by omega) (by omega)
  obtain ⟨s, s1, s2, s3, s4⟩ := bs5 hC (R148 f) (x0 := (a : Int)) (x1 := (m : Int)) (x2 := (b : Int)) (x3 := (((a + b) / 2 : Nat) : Int)) (x4 := (((a + b) / 2 + m : Nat) : Int)) (t := (a + b) / 2 + m - 1) (i := i) (j := j) (l := l) (by omega) i2 (by omega) (by omega) hl
  obtain ⟨l1, t1, t2, t3⟩ := sym6 (R148 f) (m := m) (s := s) (e := (a + b) / 2 + m - s) (a : Int) (b : Int) (((a + b) / 2 : Nat) : Int) (l := l) (by omega) (by omega) (by omega) hl
  have hl1 := t2.len
  obtain ⟨l2, u1, u2, u3⟩ : ∃ l2, (cond (decide ((a : Int) < (s : Int)) && decide ((s : Int) < (((a + b) / 2 : Nat) : Int))) (R148 f ((a : Int), (s : Int), (((a + b) / 2 : Nat) : Int), l1)) (some l1)) = some l2 ∧ Rg l1 l2 a ((a + b) / 2) ∧ (Gd C K l1 → Sd K l1 a s → Sd K l1 s ((a + b) / 2) → Sd K l2 a ((a + b) / 2)) := by
   by_cases q : a < s ∧ s < (a + b) / 2
   ·rw [lt_nat_t q.1, lt_nat_t q.2]
    exact sym f q.1 q.2 (by omega) (by omega) (by omega)
   ·have : (decide ((a : Int) < (s : Int)) && decide ((s : Int) < (((a + b) / 2 : Nat) : Int))) = false := by
     rw [Bool.and_eq_false_iff, decide_eq_false_iff_not, decide_eq_false_iff_not]; omega
    rw [this]
    exact ⟨l1, rfl, Rg.refl _ _ _, fun _ x y => sd_join x y fun p r q1 q2 q3 q4 => by omega⟩
  have hl2 := u2.len
  obtain ⟨l3, v1, v2, v3⟩ : ∃ l3, (cond (decide ((((a + b) / 2 : Nat) : Int) < (((a + b) / 2 + m - s : Nat) : Int)) && decide ((((a + b) / 2 + m - s : Nat) : Int) < (b : Int))) (R148 f ((((a + b) / 2 : Nat) : Int), (((a + b) / 2 + m - s : Nat) : Int), (b : Int), l2)) (some l2)) = some l3 ∧ Rg l2 l3 ((a + b) / 2) b ∧ (Gd C K l2 → Sd K l2 ((a + b) / 2) ((a + b) / 2 + m - s) → Sd K l2 ((a + b) / 2 + m - s) b → Sd K l3 ((a + b) / 2) b) := by
   by_cases q : (a + b) / 2 < (a + b) / 2 + m - s ∧ (a + b) / 2 + m - s < b
   ·rw [lt_nat_t q.1, lt_nat_t q.2]
    exact sym f q.1 q.2 (by omega) (by omega) (by omega)
   ·have : (decide ((((a + b) / 2 : Nat) : Int) < (((a + b) / 2 + m - s : Nat) : Int)) && decide ((((a + b) / 2 + m - s : Nat) : Int) < (b : Int))) = false := by
     rw [Bool.and_eq_false_iff, decide_eq_false_iff_not, decide_eq_false_iff_not]; omega
    rw [this]
    exact ⟨l2, rfl, Rg.refl _ _ _, fun _ x y => sd_join x y fun p r q1 q2 q3 q4 => by omega⟩
  refine ⟨l3, ?_, (t2.wide (by omega) (by omega)).trans ((u2.wide (Nat.le_refl _) (by omega)).trans (v2.wide (by omega) (Nat.le_refl _))), fun g sa sb => ?_⟩
  ·have c1 : (m : Int) - (a : Int) = ((m - a : Nat) : Int) := by omega
   have c2 : (b : Int) - (m : Int) = ((b - m : Nat) : Int) := by omega
   have d1 : decide (((m - a : Nat) : Int) = 1) = false := by simp; omega
   have d2 : decide (((b - m : Nat) : Int) = 1) = false := by simp; omega
   have c3 : (((a + b) / 2 : Nat) : Int) + (m : Int) = (((a + b) / 2 + m : Nat) : Int) := by omega
   have c4 : (((a + b) / 2 + m : Nat) : Int) - 1 = (((a + b) / 2 + m - 1 : Nat) : Int) := by omega
   have c5 : (((a + b) / 2 + m : Nat) : Int) - (s : Int) = (((a + b) / 2 + m - s : Nat) : Int) := by omega
   simp only [p148, q148, c1, c2, d1, d2, half a b (by omega), c3, fitsN (show (0 : Int) ≤ ((m - a : Nat) : Int) by omega) (by omega), fitsN (show (0 : Int) ≤ ((b - m : Nat) : Int) by omega) (by omega), fitsN (show (0 : Int) ≤ (a : Int) + (b : Int) by omega) (by omega), fitsU (show (0 : Int) ≤ (a : Int) + (b : Int) by omega) (by omega),
    fitsN (show (0 : Int) ≤ (((a + b) / 2 : Nat) : Int) by omega) (by omega), fitsN (show (0 : Int) ≤ (((a + b) / 2 + m : Nat) : Int) by omega) (by omega), chk_t, cond_false, i0, bind_some', c4, fitsN (show (0 : Int) ≤ (((a + b) / 2 + m - 1 : Nat) : Int) by omega) (by omega), s1, c5, fitsN (show (0 : Int) ≤ (((a + b) / 2 + m - s : Nat) : Int) by omega) (by omega), t1]
   revert u1 v1
   cases decide ((a : Int) < (s : Int)) <;> cases decide ((s : Int) < (((a + b) / 2 : Nat) : Int)) <;> cases decide ((((a + b) / 2 : Nat) : Int) < (((a + b) / 2 + m - s : Nat) : Int)) <;> cases decide ((((a + b) / 2 + m - s : Nat) : Int) < (b : Int)) <;>
    (simp only [Bool.and_true, Bool.and_false, Bool.true_and, Bool.false_and, cond_true, cond_false]; intro u1 v1; first | (rw [u1, bind_some', v1]; rfl) | (cases u1; rw [v1]; rfl) | (rw [u1, bind_some']; exact v1) | (cases u1; exact v1))
  ·
   have hcut : Cut (fun p => ¬ C (gt l ((a + b) / 2 + m - 1 - p)) (gt l p) < 0) i j s := s4 fun p q q1 q2 q3 q4 => by
    rw [g.at (by omega) (by omega)] at q4 ⊢
    have w1 := sa.le (show a ≤ p by omega) q2 (show q < m by omega)
    have w2 := sb.le (show m ≤ (a + b) / 2 + m - 1 - q by omega) (show (a + b) / 2 + m - 1 - q ≤ (a + b) / 2 + m - 1 - p by omega) (show (a + b) / 2 + m - 1 - p < b by omega)
    omega
   have hlo : i < s → K (gt l (s - 1)) ≤ K (gt l ((a + b) / 2 + m - s)) := fun q => by
    have : ¬ C (gt l ((a + b) / 2 + m - 1 - (s - 1))) (gt l (s - 1)) < 0 := hcut.1 (s - 1) (by omega) (by omega)
    rw [g.at (by omega) (by omega), show (a + b) / 2 + m - 1 - (s - 1) = (a + b) / 2 + m - s by omega] at this; omega
   have hhi : s < j → K (gt l ((a + b) / 2 + m - s - 1)) < K (gt l s) := fun q => by
    have : C (gt l ((a + b) / 2 + m - 1 - s)) (gt l s) < 0 := Classical.not_not.1 (hcut.2 s (Nat.le_refl _) q)
    rw [g.at (by omega) (by omega), show (a + b) / 2 + m - 1 - s = (a + b) / 2 + m - s - 1 by omega] at this; omega
   have em : s + ((a + b) / 2 + m - s - m) = (a + b) / 2 := by omega
   rw [em] at t3
   have g1 : ∀ k, k < s → gt l1 k = gt l k := fun k q => by rw [t3, if_neg (by omega), if_neg (by omega)]
   have g2 : ∀ k, s ≤ k → k < (a + b) / 2 → gt l1 k = gt l (k + (m - s)) := fun k q q' => by rw [t3, if_pos ⟨q, q'⟩]
   have g3 : ∀ k, (a + b) / 2 ≤ k → k < (a + b) / 2 + m - s → gt l1 k = gt l (k - ((a + b) / 2 + m - s - m)) := fun k q q' => by rw [t3, if_neg (by omega), if_pos ⟨q, q'⟩]
   have g4 : ∀ k, (a + b) / 2 + m - s ≤ k → gt l1 k = gt l k := fun k q => by rw [t3, if_neg (by omega), if_neg (by omega)]
   have x1 : Sd K l1 a s := fun p q q1 q2 q3 => by rw [g1 p (by omega), g1 q q3]; exact sa.le q1 (by omega) (by omega)
   have x2 : Sd K l1 s ((a + b) / 2) := fun p q q1 q2 q3 => by rw [g2 p q1 (by omega), g2 q (by omega) q3]; exact sb.le (by omega) (by omega) (by omega)
   have x3 : Sd K l1 ((a + b) / 2) ((a + b) / 2 + m - s) := fun p q q1 q2 q3 => by rw [g3 p q1 (by omega), g3 q (by omega) q3]; exact sa.le (by omega) (by omega) (by omega)
   have x4 : Sd K l1 ((a + b) / 2 + m - s) b := fun p q q1 q2 q3 => by rw [g4 p q1, g4 q (by omega)]; exact sb.le (by omega) (by omega) (by omega)
   have cross : ∀ p q, a ≤ p → p < (a + b) / 2 → (a + b) / 2 ≤ q → q < b → K (gt l1 p) ≤ K (gt l1 q) := fun p q q1 q2 q3 q4 => by
    by_cases w1 : p < s
    ·rw [g1 p w1]
     by_cases w2 : q < (a + b) / 2 + m - s
     ·rw [g3 q q3 w2]; exact sa.le (by omega) (by omega) (by omega)
     ·rw [g4 q (by omega)]
      have y1 := sa.le q1 (show p ≤ s - 1 by omega) (by omega)
      have y2 := sb.le (show m ≤ (a + b) / 2 + m - s by omega) (show (a + b) / 2 + m - s ≤ q by omega) q4
      have y3 := hlo (by omega)
      omega
    ·rw [g2 p (by omega) q2]
     by_cases w2 : q < (a + b) / 2 + m - s
     ·rw [g3 q q3 w2]
      have y1 := sb.le (show m ≤ p + (m - s) by omega) (show p + (m - s) ≤ (a + b) / 2 + m - s - 1 by omega) (by omega)
      have y2 := sa.le (show a ≤ s by omega) (show s ≤ q - ((a + b) / 2 + m - s - m) by omega) (by omega)
      have y3 := hhi (by omega)
      omega
     ·rw [g4 q (by omega)]; exact sb.le (by omega) (by omega) (by omega)
   have gd1 := g.perm t2.perm
   have gd2 := gd1.perm u2.perm
   have z1 := u3 gd1 x1 x2
   have z2 := v3 gd2 (x3.out u2 (.inr (Nat.le_refl _))) (x4.out u2 (.inr (by omega)))
   refine sd_join (z1.out v2 (.inl (Nat.le_refl _))) z2 fun p q q1 q2 q3 q4 => ?_
   rw [v2.lo p q2]
   obtain ⟨p', p1, p2, p3⟩ := u2.mem (by omega) q1 q2
   obtain ⟨q', r1, r2, r3⟩ := v2.mem (by omega) q3 q4
   rw [p3, r3, u2.hi q' r1]
   exact cross p' q' p1 p2 r1 r2
def Bk (K:E→Int)(l:List E)(w a n:Nat):Prop:=∀ u,a≤u*w→u*w < n→Sd K l (u*w) (min (u*w+w) n)
theorem stb2 {n w:Nat}{l:List E}(hw:0 < w)(hwn:w≤n)(hn:n≤l.length)(hl:l.length≤1000000):
  ∃ r,L126_2 ((n:Int),(w:Int),0,2*(w:Int),l)=some r∧∃ t l',r=((n:Int),(w:Int),((t*(2*w):Nat):Int),l')∧t*(2*w)≤n∧n < t*(2*w)+2*w∧Rg l l' 0 n∧(Gd C K l→Bk K l w 0 n→(∀ u,u < t→Sd K l' (u*(2*w)) (u*(2*w)+2*w))∧Bk K l' w (t*(2*w)) n):=by
 refine while_meas (fun s=>((n:Int)+2*w-s.2.2.2.1).toNat) (fun s=>∃ t l',s=((n:Int),(w:Int),((t*(2*w):Nat):Int),((t*(2*w)+2*w:Nat):Int),l')∧t*(2*w)≤n∧Rg l l' 0 n∧(Gd C K l→Bk K l w 0 n→(∀ u,u < t→Sd K l' (u*(2*w)) (u*(2*w)+2*w))∧Bk K l' w (t*(2*w)) n)) _
  ⟨0,l,by simp,by omega,Rg.refl _ _ _,fun _ h=>⟨fun u hu=>by omega,by rw[Nat.zero_mul]; exact h⟩⟩ (by show((n:Int)+2*w-2*w).toNat < _; omega) ?_
 rintro s ⟨t,l',rfl,h1,hr,hv⟩
 have hlen:=hr.len
 have e0:(t+1)*(2*w)=t*(2*w)+2*w:=by rw[Nat.succ_mul]
 have e1:(2*t)*w=t*(2*w):=by rw[Nat.mul_comm 2 t,Nat.mul_assoc]
 have e2:(2*t+1)*w=t*(2*w)+w:=by rw[Nat.succ_mul,e1]
 generalize hX:t*(2*w)=X at *
 by_cases hb:X+2*w≤n
 ·left
  have d1:decide (((X+2*w:Nat):Int)≤(n:Int))=true:=by simp; omega
  have c1:((X:Nat):Int)+(w:Int)=((X+w:Nat):Int):=by omega
  have c2:2*(w:Int)=((2*w:Nat):Int):=by omega
  have c3:((X+2*w:Nat):Int)+((2*w:Nat):Int)=((X+2*w+2*w:Nat):Int):=by omega
  obtain⟨l2,s1,s2,s3⟩:=sym hC (K:=K) 18446744073709551616 (a:=X) (m:=X+w) (b:=X+2*w) (l:=l') (by omega) (by omega) (by omega) (by omega) (by omega)
  have s1':P148 (((X:Nat):Int),((X+w:Nat):Int),((X+2*w:Nat):Int),l')=some l2:=s1
  simp only[p126_2,q126_2,d1,cond_true,c1,c2,c3,fitsN (show(0:Int)≤((X+w:Nat):Int)by omega) (by omega),fitsN (show(0:Int)≤((2*w:Nat):Int)by omega) (by omega),fitsN (show(0:Int)≤((X+2*w+2*w:Nat):Int)by omega) (by omega),chk_t,s1',bind_some']
  refine⟨_,rfl,⟨t+1,l2,by rw[e0],by omega,hr.trans (s2.wide (by omega) (by omega)),fun g h=>?_⟩,by show((n:Int)+2*w-((X+2*w+2*w:Nat):Int)).toNat < ((n:Int)+2*w-((X+2*w:Nat):Int)).toNat; omega⟩
  obtain⟨v1,v2⟩:=hv g h
  rw[e0]
  refine⟨fun u hu=>?_,fun u u1 u2=>(v2 u (by omega) u2).out s2 (.inr (by omega))⟩
  by_cases e:u=t
  ·rw[e,hX]
   have w1:=v2 (2*t) (by omega) (by omega)
   have w2:=v2 (2*t+1) (by omega) (by omega)
   rw[e1]at w1
   rw[e2]at w2
   exact s3 (g.perm hr.perm) (w1.sub (Nat.le_refl _) (by omega)) (w2.sub (Nat.le_refl _) (by omega))
  ·have:=Nat.mul_le_mul_right (2*w) (show u+1≤t by omega)
   rw[Nat.succ_mul,hX]at this
   exact(v1 u (by omega)).out s2 (.inl (by omega))
 ·right
  have d1:decide (((X+2*w:Nat):Int)≤(n:Int))=false:=by simp; omega
  simp only[p126_2,q126_2,d1,cond_false]
  exact⟨_,rfl,t,l',by rw[hX],by omega,by omega,hr,by rw[hX]; exact hv⟩
theorem stb1 {n w:Nat}{l:List E}(hw:0 < w)(hw1:w≤2*n+20)(hn:n≤l.length)(hl:l.length≤1000000):
  ∃ l',L126_1 ((n:Int),(w:Int),l)=some l'∧Rg l l' 0 n∧(Gd C K l→Bk K l w 0 n→Sd K l' 0 n):=by
 refine while_meas (fun s=>((n:Int)-s.2.1).toNat) (fun s=>∃ (v:Nat) (l':List E),s=((n:Int),(v:Int),l')∧0 < v∧v≤2*n+20∧Rg l l' 0 n∧(Gd C K l→Bk K l w 0 n→Bk K l' v 0 n)) _
  ⟨w,l,rfl,hw,hw1,Rg.refl _ _ _,fun _ h=>h⟩ (by show((n:Int)-(w:Int)).toNat < _; omega) ?_
 rintro s ⟨v,l',rfl,v0,v1,hr,hv⟩
 have hlen:=hr.len
 by_cases hb:v < n
 ·left
  have c2:2*(v:Int)=((2*v:Nat):Int):=by omega
  have c4:(v:Int)*2=((2*v:Nat):Int):=by omega
  obtain⟨r,r0,t,l2,rfl,r1,r2,r3,r4⟩:=stb2 hC (K:=K) (n:=n) (w:=v) (l:=l') v0 (by omega) (by omega) (by omega)
  rw[c2]at r0
  have hl2:=r3.len
  have e1:(2*t)*v=t*(2*v):=by rw[Nat.mul_comm 2 t,Nat.mul_assoc]
  have e2:(2*t+1)*v=t*(2*v)+v:=by rw[Nat.succ_mul,e1]
  generalize hX:t*(2*v)=X at *
  have c1:((X:Nat):Int)+(v:Int)=((X+v:Nat):Int):=by omega
  have hfin:∀ l3,Rg l2 l3 (X) n→(Gd C K l2→Bk K l2 v (X) n→X < n→Sd K l3 (X) n)→(Gd C K l→Bk K l w 0 n→Bk K l3 (2*v) 0 n):=fun l3 k1 k2 g h u u1 u2=>by
   obtain⟨z1,z2⟩:=r4 (g.perm hr.perm) (hv g h)
   by_cases e:u < t
   ·have:=Nat.mul_le_mul_right (2*v) (show u+1≤t by omega)
    rw[Nat.succ_mul,hX]at this
    exact((z1 u e).out k1 (.inl (by omega))).sub (Nat.le_refl _) (by omega)
   ·by_cases e':u=t
    ·subst e'
     rw[hX]at u2 ⊢
     exact(k2 ((g.perm hr.perm).perm r3.perm) z2 u2).sub (Nat.le_refl _) (by omega)
    ·have:=Nat.mul_le_mul_right (2*v) (show t+1≤u by omega)
     rw[Nat.succ_mul,hX]at this
     omega
  by_cases hx:X+v < n
  ·obtain⟨l3,s1,s2,s3⟩:=sym hC (K:=K) 18446744073709551616 (a:=X) (m:=X+v) (b:=n) (l:=l2) (by omega) (by omega) (by omega) (by omega) (by omega)
   have s1':P148 (((X:Nat):Int),((X+v:Nat):Int),(n:Int),l2)=some l3:=s1
   simp only[p126_1,q126_1,lt_nat_t hb,cond_true,c2,c4,fitsN (show(0:Int)≤((2*v:Nat):Int)by omega) (by omega),chk_t,r0,bind_some',c1,fitsN (show(0:Int)≤((X+v:Nat):Int)by omega) (by omega),lt_nat_t hx,s1']
   refine⟨_,rfl,⟨2*v,l3,rfl,by omega,by omega,(hr.trans r3).trans (s2.wide (by omega) (Nat.le_refl _)),hfin l3 s2 fun g z _=>?_⟩,by show((n:Int)-((2*v:Nat):Int)).toNat < ((n:Int)-(v:Int)).toNat; omega⟩
   have w1:=z (2*t) (by omega) (by omega)
   have w2:=z (2*t+1) (by omega) (by omega)
   rw[e1]at w1
   rw[e2]at w2
   exact s3 g (w1.sub (Nat.le_refl _) (by omega)) (w2.sub (Nat.le_refl _) (by omega))
  ·have d1:decide (((X+v:Nat):Int) < (n:Int))=false:=by simp; omega
   simp only[p126_1,q126_1,lt_nat_t hb,cond_true,cond_false,c2,c4,fitsN (show(0:Int)≤((2*v:Nat):Int)by omega) (by omega),chk_t,r0,bind_some',c1,fitsN (show(0:Int)≤((X+v:Nat):Int)by omega) (by omega),d1]
   refine⟨_,rfl,⟨2*v,l2,rfl,by omega,by omega,hr.trans r3,hfin l2 (Rg.refl _ _ _) fun g z _=>?_⟩,by show((n:Int)-((2*v:Nat):Int)).toNat < ((n:Int)-(v:Int)).toNat; omega⟩
   have w1:=z (2*t) (by omega) (by omega)
   rw[e1]at w1
   exact w1.sub (Nat.le_refl _) (by omega)
 ·right
  have d1:decide ((v:Int) < (n:Int))=false:=by simp; omega
  simp only[p126_1,q126_1,d1,cond_false]
  refine⟨_,rfl,hr,fun g h=>?_⟩
  by_cases hz:n=0
  ·exact Sd.one (by omega)
  ·have:=hv g h 0 (by omega) (by omega)
   rw[Nat.zero_mul]at this
   exact this.sub (Nat.le_refl _) (by omega)
theorem stb0 {n:Nat}{l:List E}(hn:n≤l.length)(hl:l.length≤1000000):
  ∃ r,L126_0 ((n:Int),20,0,20,l)=some r∧∃ t l',r=((n:Int),20,((t*20:Nat):Int),l')∧t*20≤n∧n < t*20+20∧Rg l l' 0 n∧(Gd C K l→∀ u,u < t→Sd K l' (u*20) (u*20+20)):=by
 refine while_meas (fun s=>((n:Int)+20-s.2.2.2.1).toNat) (fun s=>∃ t l',s=((n:Int),20,((t*20:Nat):Int),((t*20+20:Nat):Int),l')∧t*20≤n∧Rg l l' 0 n∧(Gd C K l→∀ u,u < t→Sd K l' (u*20) (u*20+20))) _
  ⟨0,l,by simp,by omega,Rg.refl _ _ _,fun _ u hu=>by omega⟩ (by show((n:Int)+20-20).toNat < _; omega) ?_
 rintro s ⟨t,l',rfl,h1,hr,hv⟩
 have hlen:=hr.len
 by_cases hb:t*20+20≤n
 ·left
  have d1:decide (((t*20+20:Nat):Int)≤(n:Int))=true:=by simp; omega
  have c3:((t*20+20:Nat):Int)+20=(((t+1)*20+20:Nat):Int):=by omega
  obtain⟨l2,s1,s2,s3⟩:=ins hC (K:=K) (a:=t*20) (b:=t*20+20) (l:=l') (by omega) (by omega) (by omega)
  simp only[p126_0,q126_0,d1,cond_true,s1,bind_some',c3,fitsN (show(0:Int)≤(((t+1)*20+20:Nat):Int)by omega) (by omega),chk_t]
  refine⟨_,rfl,⟨t+1,l2,by rw[show(t+1)*20=t*20+20 by omega],by omega,hr.trans (s2.wide (by omega) (by omega)),fun g u hu=>?_⟩,by show((n:Int)+20-(((t+1)*20+20:Nat):Int)).toNat < ((n:Int)+20-((t*20+20:Nat):Int)).toNat; omega⟩
  by_cases e:u=t
  ·subst e; exact s3 (g.perm hr.perm)
  ·exact(hv g u (by omega)).out s2 (.inl (by omega))
 ·right
  have d1:decide (((t*20+20:Nat):Int)≤(n:Int))=false:=by simp; omega
  simp only[p126_0,q126_0,d1,cond_false]
  exact⟨_,rfl,t,l',rfl,h1,by omega,hr,hv⟩
theorem srt (l:List E)(hl:l.length≤1000000):∃ l',P103 l=some l'∧Rg l l' 0 l.length∧(Gd C K l→Sd K l' 0 l.length):=by
 obtain⟨r,r0,t,l1,rfl,r1,r2,r3,r4⟩:=stb0 hC (K:=K) (n:=l.length) (l:=l) (Nat.le_refl _) hl
 have hl1:=r3.len
 obtain⟨l2,s1,s2,s3⟩:=ins hC (K:=K) (a:=t*20) (b:=l.length) (l:=l1) r1 (by omega) (by omega)
 have hl2:=s2.len
 obtain⟨l3,u1,u2,u3⟩:=stb1 hC (K:=K) (n:=l.length) (w:=20) (l:=l2) (by omega) (by omega) (by omega) (by omega)
 refine⟨l3,?_,(r3.trans (s2.wide (by omega) (Nat.le_refl _))).trans u2,fun g=>?_⟩
 ·have u1':L126_1 ((l.length:Int),20,l2)=some l3:=u1
  simp only[P103,p103,q103,P126,p126,q126,r0,bind_some',s1,u1']
 ·refine u3 ((g.perm r3.perm).perm s2.perm) fun u _ hu=>?_
  by_cases e:u < t
  ·exact((r4 g u e).out s2 (.inl (by omega))).sub (Nat.le_refl _) (by omega)
  ·obtain rfl:u=t:=by omega
   exact(s3 (g.perm r3.perm)).sub (Nat.le_refl _) (by omega)
end
end Srt103
end Go.Proofs.YtdacabdocbhkdaaGreat.D
