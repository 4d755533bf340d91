/- Cut down from longer texts. -/
import Derived.Test.YtfknkinmnecoeaaG6q
import Derived.Test.YtfknkinmnecoeaaB3q
import Derived.Sort.LotD4
set_option linter.unusedVariables false
set_option linter.unusedSimpArgs false
set_option linter.unusedSectionVars false
set_option maxRecDepth 100000
namespace Go.Proofs.Ytfknkinmnecoeaa.D
open Go Go.Proofs Go.Proofs.Ytfknkinmnecoeaa.L
namespace Srt78
abbrev E:=Int×Int×Int×Int×Int×Int
section
variable {C:E→E→Int} (hC:∀ x y,P79 (x,y)=some (C x y)) {K:E→Int}
def Gd (C:E→E→Int)(K:E→Int)(l:List E):Prop:=∀ x∈l,∀ y∈l,(C x y < 0↔K x < K y)
theorem Gd.perm {l l':List E}(h:Gd C K l)(hp:l'.Perm l):Gd C K l':=fun x hx y hy=>h x (hp.mem_iff.1 hx) y (hp.mem_iff.1 hy)
theorem Gd.at {l:List E}(h:Gd C K l){i j:Nat}(hi:i < l.length)(hj:j < l.length):C (gt l i) (gt l j) < 0↔K (gt l i) < K (gt l j):=h _ (bF hi) _ (bF hj)
include hC
theorem IP {a b i j : Nat} {l : List E} (hb : b ≤ l.length) (hl : l.length ≤ 1000000) (h1 : a ≤ j) (h2 : j = i) (h3 : i < b) :
  ∃ r, yT ((a : Int), (b : Int), (i : Int), (j : Int), l) = some r ∧ r.1 = (a : Int) ∧ r.2.1 = (b : Int) ∧ r.2.2.1 = (i : Int) ∧ Rg l r.2.2.2 a (i + 1) ∧ (Gd C K l → Sd K l a i → Sd K r.2.2.2 a (i + 1)) := by
 refine eO (fun s => s.2.2.2.1.toNat) (fun s => ∃ j l', s = ((a : Int), (b : Int), (i : Int), ((j : Nat) : Int), l') ∧ a ≤ j ∧ j ≤ i ∧ Rg l l' a (i + 1) ∧ (Gd C K l → Sd K l a i → ∀ p q, a ≤ p → p < q → q ≤ i → q ≠ j → K (gt l' p) ≤ K (gt l' q))) _
  ⟨j, l, rfl, h1, by omega, Rg.refl _ _ _, fun _ hs p q q1 q2 q3 q4 => hs p q q1 q2 (by omega)⟩ (by show ((j : Int)).toNat < _; omega) ?_
 rintro s ⟨j, l', rfl, j1, j2, hr, hv⟩;have hlen := hr.len;have hfin : ∀ P : Prop, (P → (Gd C K l → Sd K l a i → ∀ p, a ≤ p → p < j → K (gt l' p) ≤ K (gt l' j))) → P → ((fun r : Int × Int × Int × List E => r.1 = (a : Int) ∧ r.2.1 = (b : Int) ∧ r.2.2.1 = (i : Int) ∧ Rg l r.2.2.2 a (i + 1) ∧ (Gd C K l → Sd K l a i → Sd K r.2.2.2 a (i + 1))) ((a : Int), (b : Int), (i : Int), l')) := fun P hP hp =>
  ⟨rfl, rfl, rfl, hr, fun g hs p q q1 q2 q3 => by
   by_cases e : q = j
   ·subst e; exact hP hp g hs p q1 q2
   ·exact hv g hs p q q1 q2 (by omega) e⟩
 simp only [u5, Ep, yS];by_cases hja : a < j
 ·have e1 : decide ((a : Int) < (j : Int)) = true := by simp; omega
  have f1 : ah .i64 ((j : Int) - 1) = true := ay (by omega) (by omega);have cj : (j : Int) - 1 = ((j - 1 : Nat) : Int) := by omega
  simp only [e1, cond_true, am (show j < l'.length by omega), az, f1, cj, am (show j - 1 < l'.length by omega), aP, hC, aa];by_cases hc : C (gt l' j) (gt l' (j - 1)) < 0
  ·left;have s1 : (l'.set j (gt l' (j - 1))).length = l'.length := by simp
   simp only [hc, decide_true, cond_true, ay (show (0 : Int) ≤ ((j - 1 : Nat) : Int) by omega) (by omega), az, am (show j < l'.length by omega), am (show j - 1 < l'.length by omega), Int.toNat_natCast, s1];refine ⟨_, rfl, ⟨j - 1, sw l' j (j - 1), rfl, by omega, by omega, hr.trans (Rg.sw (by omega) (by omega) (by omega) (by omega) (by omega) (by omega)), fun g hs p q q1 q2 q3 q4 => ?_⟩, by show ((j - 1 : Nat) : Int).toNat < (j : Int).toNat; omega⟩;have hv := hv g hs;have hlt := ((g.perm hr.perm).at (show j < l'.length by omega) (show j - 1 < l'.length by omega)).1 hc;rw [nj p (by omega) (by omega), nj q (by omega) (by omega)];rw [if_neg q4];by_cases e1 : q = j
   ·rw [if_pos e1];by_cases e2 : p = j - 1
    ·rw [if_pos e2]; omega
    ·rw [if_neg e2, if_neg (by omega)]; exact hv p (j - 1) q1 (by omega) (by omega) (by omega)
   ·rw [if_neg e1];by_cases e2 : p = j - 1
    ·rw [if_pos e2]; exact hv j q (by omega) (by omega) q3 e1
    ·rw [if_neg e2];by_cases e3 : p = j
     ·rw [if_pos e3]; exact hv (j - 1) q (by omega) (by omega) q3 e1
     ·rw [if_neg e3]; exact hv p q q1 q2 q3 e1
  ·right;simp only [hc, decide_false, cond_false, ay (show (0 : Int) ≤ ((j - 1 : Nat) : Int) by omega) (by omega), az];refine ⟨_, rfl, hfin True (fun _ g hs p q1 q2 => ?_) trivial⟩;have hge : ¬ K (gt l' j) < K (gt l' (j - 1)) := fun h => hc (((g.perm hr.perm).at (show j < l'.length by omega) (show j - 1 < l'.length by omega)).2 h);by_cases e : p = j - 1
   ·rw [e]; omega
   ·have := hv g hs p (j - 1) q1 (by omega) (by omega) (by omega); omega
 ·have e1 : decide ((a : Int) < (j : Int)) = false := by simp; omega
  simp only [e1, cond_false];exact .inr ⟨_, rfl, hfin True (fun _ g hs p q1 q2 => by omega) trivial⟩
theorem ins {a b:Nat}{l:List E}(hab:a≤b)(hb:b≤l.length)(hl:l.length≤1000000):
  ∃ l',rm ((a:Int),(b:Int),l)=some l'∧Rg l l' a b∧(Gd C K l→Sd K l' a b):=by
 have f1:ah .i64 ((a:Int)+1)=true:=ay (by omega) (by omega);simp only[u3,rm,ST,PX,f1,az]
 suffices h:∃ l',yV ((a:Int),(b:Int),((a:Int)+1),l)=some l'∧Rg l l' a b∧(Gd C K l→Sd K l' a b)by
  obtain⟨l',h1,h2⟩:=h;exact⟨l',by rw[h1]; rfl,h2⟩
 refine cO (b-(a+1)) (fun k s=>∃ l',s=((a:Int),(b:Int),((a+1+k:Nat):Int),l')∧Rg l l' a b∧(Gd C K l→Sd K l' a (a+1+k))) _ ⟨l,by simp,Rg.refl _ _ _,fun _=>Sd.one (by omega)⟩ (by omega) ?_ ?_
 ·rintro k s hk ⟨l',rfl,hr,hv⟩;have hlen:=hr.len;have e1:decide (((a+1+k:Nat):Int) < (b:Int))=true:=by simp; omega
  obtain⟨r,r1,r2,r3,r4,r5,r6⟩:=IP hC (K:=K) (a:=a) (b:=b) (i:=a+1+k) (j:=a+1+k) (l:=l') (by omega) (by omega) (by omega) rfl (by omega);obtain⟨x1,x2,x3,x4⟩:=r;simp only at r2 r3 r4 r5 r6;subst r2; subst r3; subst r4;simp only[u4,yU,ux,e1,cond_true,r1,aa,ay (show(0:Int)≤((a+1+k:Nat):Int)+1 by omega) (by omega),az];exact⟨_,rfl,x4,by simp only[Prod.mk.injEq,and_true,true_and]; omega,hr.trans (r5.wide (Nat.le_refl _) (by omega)),fun g=>r6 (g.perm hr.perm) (hv g)⟩
 ·rintro s ⟨l',rfl,hr,hv⟩;have e1:decide (((a+1+(b-(a+1)):Nat):Int) < (b:Int))=false:=by simp; omega
  simp only[u4,yU,ux,e1,cond_false];exact⟨_,rfl,hr,fun g=>(hv g).sub (Nat.le_refl _) (by omega)⟩
omit hC
theorem swp {a b n:Nat}{l:List E}(h1:a+n≤b)(h2:b+n≤l.length)(hl:l.length≤1000000):
  ∃ l',np ((a:Int),(b:Int),(n:Int),l)=some l'∧Rg l l' a (b+n)∧∀ k,gt l' k=if a≤k∧k < a+n then gt l (k+(b-a))else if b≤k∧k < b+n then gt l (k-(b-a))else gt l k:=by
 simp only[u4,np,KD,It]
 suffices h:∃ l',tf ((a:Int),(b:Int),(n:Int),0,l)=some l'∧Rg l l' a (b+n)∧∀ k,gt l' k=if a≤k∧k < a+n then gt l (k+(b-a))else if b≤k∧k < b+n then gt l (k-(b-a))else gt l k by
  obtain⟨l',g1,g2⟩:=h;exact⟨l',by rw[g1]; rfl,g2⟩
 refine cO n (fun i s=>∃ l',s=((a:Int),(b:Int),(n:Int),(i:Int),l')∧Rg l l' a (b+n)∧∀ k,gt l' k=if a≤k∧k < a+i then gt l (k+(b-a))else if b≤k∧k < b+i then gt l (k-(b-a))else gt l k) _
  ⟨l,rfl,Rg.refl _ _ _,fun k=>by rw[if_neg (by omega),if_neg (by omega)]⟩ (by omega) ?_ ?_
 ·rintro i s hi ⟨l',rfl,hr,hv⟩;have hlen:=hr.len;have c1:(a:Int)+(i:Int)=((a+i:Nat):Int):=by omega
  have c2:(b:Int)+(i:Int)=((b+i:Nat):Int):=by omega
  have s1:(l'.set (a+i) (gt l' (b+i))).length=l'.length:=by simp
  simp only[u5,te,pW,aw hi,cond_true,c1,c2,ay (show(0:Int)≤((a+i:Nat):Int)by omega) (by omega),ay (show(0:Int)≤((b+i:Nat):Int)by omega) (by omega),az,
   am (show b+i < l'.length by omega),am (show a+i < l'.length by omega),aP,Int.toNat_natCast,s1,ay (show(0:Int)≤(i:Int)+1 by omega) (by omega)]
  refine⟨_,rfl,sw l' (a+i) (b+i),rfl,hr.trans (Rg.sw (by omega) (by omega) (by omega) (by omega) (by omega) (by omega)),fun k=>?_⟩;rw[nj k (by omega) (by omega),hv (a+i),hv (b+i),hv k];by_cases e1:k=b+i
  ·subst e1;rw[if_pos rfl,if_neg (by omega),if_neg (by omega),if_neg (by omega),if_pos (by omega)];congr 1; omega
  ·rw[if_neg e1];by_cases e2:k=a+i
   ·subst e2;rw[if_pos rfl,if_neg (by omega),if_neg (by omega),if_pos (by omega)];congr 1; omega
   ·rw[if_neg e2];by_cases e3:a≤k∧k < a+i
    ·rw[if_pos e3,if_pos (by omega)]
    ·by_cases e4:b≤k∧k < b+i
     ·rw[if_neg e3,if_pos e4,if_neg (by omega),if_pos (by omega)]
     ·rw[if_neg e3,if_neg e4,if_neg (by omega),if_neg (by omega)]
 ·rintro s ⟨l',rfl,hr,hv⟩;simp only[u5,te,pW,aE,cond_false];exact⟨_,rfl,hr,hv⟩
theorem XM {a m b:Nat}{l:List E}(h1:a < m)(h2:m < b)(hb:b≤l.length)(hl:l.length≤1000000):
  ∃ l',dA ((a:Int),(m:Int),(b:Int),l)=some l'∧Rg l l' a b∧∀ k,gt l' k=if a≤k∧k < a+(b-m)then gt l (k+(m-a))else if a+(b-m)≤k∧k < b then gt l (k-(b-m))else gt l k:=by
 have c1:(m:Int)-(a:Int)=((m-a:Nat):Int):=by omega
 have c2:(b:Int)-(m:Int)=((b-m:Nat):Int):=by omega
 let T:Nat→E:=fun k=>if a≤k∧k < a+(b-m)then gt l (k+(m-a))else if a+(b-m)≤k∧k < b then gt l (k-(b-m))else gt l k
 have hloop:∃ r,tg ((m:Int),((m-a:Nat):Int),((b-m:Nat):Int),l)=some r∧∃ i l',r=((m:Int),((i:Nat):Int),l')∧0 < i∧a+i≤m∧m+i≤b∧Rg l l' a b∧∀ k,T k=if m-i≤k∧k < m then gt l' (k+i)else if m≤k∧k < m+i then gt l' (k-i)else gt l' k:=by
  refine eO (fun s=>s.2.1.toNat+s.2.2.1.toNat) (fun s=>∃ i j l',s=((m:Int),((i:Nat):Int),((j:Nat):Int),l')∧0 < i∧0 < j∧a+i≤m∧m+j≤b∧Rg l l' a b∧∀ k,T k=if m-i≤k∧k < m-i+j then gt l' (k+i)else if m-i+j≤k∧k < m+j then gt l' (k-j)else gt l' k) _
   ⟨m-a,b-m,l,rfl,by omega,by omega,by omega,by omega,Rg.refl _ _ _,fun k=>?_⟩ (by show((m-a:Nat):Int).toNat+((b-m:Nat):Int).toNat < _; omega) ?_
  ·show(if a≤k∧k < a+(b-m)then gt l (k+(m-a))else if a+(b-m)≤k∧k < b then gt l (k-(b-m))else gt l k)=_;have e1:m-(m-a)=a:=by omega
   have e2:m+(b-m)=b:=by omega
   rw[e1,e2]
  ·rintro s ⟨i,j,l',rfl,i0,j0,i1,j1,hr,hv⟩;have hlen:=hr.len;by_cases hij:i=j
   ·right;subst hij;simp only[u4,pX,nq,nW,cond_false];refine⟨_,rfl,i,l',rfl,i0,i1,j1,hr,fun k=>?_⟩;rw[hv k,show m-i+i=m by omega]
   ·left;have e0:(!decide ((i:Int)=(j:Int)))=true:=by simp; omega
    by_cases hlt:j < i
    ·have e1:decide ((j:Int) < (i:Int))=true:=by simp; omega
     have c3:(m:Int)-(i:Int)=((m-i:Nat):Int):=by omega
     have c4:(i:Int)-(j:Int)=((i-j:Nat):Int):=by omega
     obtain⟨l2,g1,g2,g3⟩:=swp (a:=m-i) (b:=m) (n:=j) (l:=l') (by omega) (by omega) (by omega);simp only[u4,pX,nq,e0,e1,cond_true,c3,c4,ay (show(0:Int)≤((m-i:Nat):Int)by omega) (by omega),ay (show(0:Int)≤((i-j:Nat):Int)by omega) (by omega),az,g1,aa];refine⟨_,rfl,⟨i-j,j,l2,rfl,by omega,j0,by omega,j1,hr.trans (g2.wide (by omega) (by omega)),fun k=>?_⟩,by show((i-j:Nat):Int).toNat+(j:Int).toNat < (i:Int).toNat+(j:Int).toNat; omega⟩;rw[hv k];by_cases q1:m-i≤k∧k < m-i+j
     ·rw[if_pos q1,if_neg (by omega),if_neg (by omega),g3,if_pos (by omega)];congr 1; omega
     ·rw[if_neg q1];by_cases q2:m-i+j≤k∧k < m+j
      ·rw[if_pos q2];by_cases q3:k < m-i+j+j
       ·rw[if_pos (by omega),g3,if_neg (by omega),if_pos (by omega)];congr 1; omega
       ·rw[if_neg (by omega),if_pos (by omega),g3,if_neg (by omega),if_neg (by omega)]
      ·rw[if_neg q2,if_neg (by omega),if_neg (by omega),g3,if_neg (by omega),if_neg (by omega)]
    ·have e1:decide ((j:Int) < (i:Int))=false:=by simp; omega
     have c3:(m:Int)-(i:Int)=((m-i:Nat):Int):=by omega
     have c4:(j:Int)-(i:Int)=((j-i:Nat):Int):=by omega
     have c5:(m:Int)+(j:Int)=((m+j:Nat):Int):=by omega
     have c6:((m+j:Nat):Int)-(i:Int)=((m+j-i:Nat):Int):=by omega
     obtain⟨l2,g1,g2,g3⟩:=swp (a:=m-i) (b:=m+j-i) (n:=i) (l:=l') (by omega) (by omega) (by omega);simp only[u4,pX,nq,e0,e1,cond_true,cond_false,c3,c4,c5,c6,ay (show(0:Int)≤((m-i:Nat):Int)by omega) (by omega),ay (show(0:Int)≤((j-i:Nat):Int)by omega) (by omega),ay (show(0:Int)≤((m+j:Nat):Int)by omega) (by omega),ay (show(0:Int)≤((m+j-i:Nat):Int)by omega) (by omega),az,g1,aa];refine⟨_,rfl,⟨i,j-i,l2,rfl,i0,by omega,i1,by omega,hr.trans (g2.wide (by omega) (by omega)),fun k=>?_⟩,by show(i:Int).toNat+((j-i:Nat):Int).toNat < (i:Int).toNat+(j:Int).toNat; omega⟩;rw[hv k];by_cases q1:m-i≤k∧k < m-i+j
     ·rw[if_pos q1];by_cases q2:k < m-i+(j-i)
      ·rw[if_pos (by omega),g3,if_neg (by omega),if_neg (by omega)]
      ·rw[if_neg (by omega),if_pos (by omega),g3,if_pos (by omega)];congr 1; omega
     ·rw[if_neg q1];by_cases q2:m-i+j≤k∧k < m+j
      ·rw[if_pos q2,if_neg (by omega),if_neg (by omega),g3,if_neg (by omega),if_pos (by omega)];congr 1; omega
      ·rw[if_neg q2,if_neg (by omega),if_neg (by omega),g3,if_neg (by omega),if_neg (by omega)]
 obtain⟨r,hr0,i,l',rfl,i0,i1,i2,hr,hv⟩:=hloop;have hlen:=hr.len;obtain⟨l2,g1,g2,g3⟩:=swp (a:=m-i) (b:=m) (n:=i) (l:=l') (by omega) (by omega) (by omega);have c3:(m:Int)-(i:Int)=((m-i:Nat):Int):=by omega
 refine⟨l2,?_,hr.trans (g2.wide (by omega) (by omega)),fun k=>?_⟩
 ·simp only[u4,dA,KF,Iw,c1,c2,ay (show(0:Int)≤((m-a:Nat):Int)by omega) (by omega),ay (show(0:Int)≤((b-m:Nat):Int)by omega) (by omega),az,hr0,aa,c3,ay (show(0:Int)≤((m-i:Nat):Int)by omega) (by omega),g1]
 ·rw[show(if a≤k∧k < a+(b-m)then gt l (k+(m-a))else if a+(b-m)≤k∧k < b then gt l (k-(b-m))else gt l k)=T k from rfl,hv k,g3 k];have e:m-(m-i)=i:=by omega
  rw[e,show m-i+i=m by omega]
section
variable (F:Int×Int×Int×List E→Option (List E))
theorem XN {a i:Nat}{l:List E}(h1:a < i)(h2:i≤l.length)(hl:l.length≤1000000):
  ∃ l',ze F ((i:Int),(a:Int),l)=some l'∧Rg l l' a i∧∀ p,gt l' p=if a≤p∧p < i-1 then gt l (p+1)else if p=i-1 then gt l a else gt l p:=by
 refine cO (i-1-a) (fun t s=>∃ l',s=((i:Int),((a+t:Nat):Int),l')∧Rg l l' a i∧∀ p,gt l' p=if a≤p∧p < a+t then gt l (p+1)else if p=a+t then gt l a else gt l p) _
  ⟨l,rfl,Rg.refl _ _ _,fun p=>?_⟩ (by omega) ?_ ?_
 ·rw[if_neg (by omega)]; split
  ·subst p; rfl
  ·rfl
 ·rintro t s ht ⟨l',rfl,hr,hv⟩;have hlen:=hr.len;have c0:(i:Int)-1=((i-1:Nat):Int):=by omega
  have c1:((a+t:Nat):Int)+1=((a+t+1:Nat):Int):=by omega
  have s1:(l'.set (a+t) (gt l' (a+t+1))).length=l'.length:=by simp
  simp only[u3,zd,uC,c0,c1,ay (show(0:Int)≤((i-1:Nat):Int)by omega) (by omega),ay (show(0:Int)≤((a+t+1:Nat):Int)by omega) (by omega),az,aw (show a+t < i-1 by omega),cond_true,
   am (show a+t < l'.length by omega),am (show a+t+1 < l'.length by omega),aP,Int.toNat_natCast,s1]
  refine⟨_,rfl,sw l' (a+t) (a+t+1),rfl,hr.trans (Rg.sw (by omega) (by omega) (by omega) (by omega) (by omega) (by omega)),fun p=>?_⟩;have va:gt l' (a+t)=gt l a:=by rw[hv,if_neg (by omega),if_pos rfl]
  have vb:gt l' (a+t+1)=gt l (a+t+1):=by rw[hv,if_neg (by omega),if_neg (by omega)]
  rw[nj p (by omega) (by omega),va,vb,hv p];by_cases e1:p=a+t+1
  ·rw[if_pos e1,if_neg (by omega),if_pos (by omega)]
  ·rw[if_neg e1];by_cases e2:p=a+t
   ·rw[if_pos e2,if_pos (by omega),e2]
   ·rw[if_neg e2];by_cases e3:a≤p∧p < a+t
    ·rw[if_pos e3,if_pos (by omega)]
    ·rw[if_neg e3,if_neg e2,if_neg (by omega),if_neg (by omega)]
 ·rintro s ⟨l',rfl,hr,hv⟩;have c0:(i:Int)-1=((i-1:Nat):Int):=by omega
  have e0:a+(i-1-a)=i-1:=by omega
  rw[e0]at hv;simp only[u3,zd,uC,c0,e0,ay (show(0:Int)≤((i-1:Nat):Int)by omega) (by omega),az,aE,cond_false];exact⟨_,rfl,hr,hv⟩
theorem XO {i m:Nat}{l:List E}(h1:i≤m)(h2:m < l.length)(hl:l.length≤1000000):
  ∃ l',zi F ((i:Int),(m:Int),l)=some l'∧Rg l l' i (m+1)∧∀ p,gt l' p=if i < p∧p≤m then gt l (p-1)else if p=i then gt l m else gt l p:=by
 refine cO (m-i) (fun t s=>∃ l',s=((i:Int),((m-t:Nat):Int),l')∧Rg l l' i (m+1)∧∀ p,gt l' p=if m-t < p∧p≤m then gt l (p-1)else if p=m-t then gt l m else gt l p) _
  ⟨l,rfl,Rg.refl _ _ _,fun p=>?_⟩ (by omega) ?_ ?_
 ·rw[if_neg (by omega)]; split
  ·have e:p=m:=by omega
   subst e; rfl
  ·rfl
 ·rintro t s ht ⟨l',rfl,hr,hv⟩;have hlen:=hr.len;have c1:((m-t:Nat):Int)-1=((m-(t+1):Nat):Int):=by omega
  have s1:(l'.set (m-t) (gt l' (m-(t+1)))).length=l'.length:=by simp
  simp only[u3,zh,uE,c1,ay (show(0:Int)≤((m-(t+1):Nat):Int)by omega) (by omega),az,aw (show i < m-t by omega),cond_true,
   am (show m-t < l'.length by omega),am (show m-(t+1) < l'.length by omega),aP,Int.toNat_natCast,s1]
  refine⟨_,rfl,sw l' (m-t) (m-(t+1)),rfl,hr.trans (Rg.sw (by omega) (by omega) (by omega) (by omega) (by omega) (by omega)),fun p=>?_⟩;have va:gt l' (m-t)=gt l m:=by rw[hv,if_neg (by omega),if_pos rfl]
  have vb:gt l' (m-(t+1))=gt l (m-(t+1)):=by rw[hv,if_neg (by omega),if_neg (by omega)]
  rw[nj p (by omega) (by omega),va,vb,hv p];by_cases e1:p=m-(t+1)
  ·rw[if_pos e1,if_neg (by omega),if_pos e1]
  ·rw[if_neg e1];by_cases e2:p=m-t
   ·rw[if_pos e2,if_pos (by omega)];congr 1; omega
   ·rw[if_neg e2];by_cases e3:m-t < p∧p≤m
    ·rw[if_pos e3,if_pos (by omega)]
    ·rw[if_neg e3,if_neg e2,if_neg (by omega),if_neg (by omega)]
 ·rintro s ⟨l',rfl,hr,hv⟩;have e0:m-(m-i)=i:=by omega
  rw[e0]at hv;simp only[u3,zh,uE,e0,aE,cond_false];exact⟨_,rfl,hr,hv⟩
end
include hC
theorem XP (F:Int×Int×Int×List E→Option (List E)){a i j:Nat}{l:List E}(h1:a < l.length)(h2:i≤j)(h3:j≤l.length)(hl:l.length≤1000000):
  ∃ k,zc F ((a:Int),(i:Int),(j:Int),l)=some ((a:Int),((k:Nat):Int),l)∧i≤k∧k≤j∧((∀ p q,i≤p→p≤q→q < j→C (gt l q) (gt l a) < 0→C (gt l p) (gt l a) < 0)→Cut (fun p=>C (gt l p) (gt l a) < 0) i j k):=by
 refine gp (fun p=>C (gt l p) (gt l a) < 0) (fun i j=>((a:Int),(i:Int),(j:Int),l)) (fun k=>((a:Int),(k:Int),l)) i j ?_ ?_ h2 (by omega)
 ·intro p q h4 h5 h6;simp only[u4,zb,uB,aw h5,cond_true,Cq p q (by omega),ay (show(0:Int)≤(p:Int)+(q:Int)by omega) (by omega),rj (show(0:Int)≤(p:Int)+(q:Int)by omega) (by omega),ay (show(0:Int)≤(((p+q) / 2:Nat):Int)by omega) (by omega),
   ay (show(0:Int)≤(((p+q) / 2:Nat):Int)+1 by omega) (by omega),az,am (show(p+q) / 2 < l.length by omega),am h1,aP,hC,aa]
  by_cases e:C (gt l ((p+q) / 2)) (gt l a) < 0
  ·left; simp only[e,decide_true,cond_true,az]; refine⟨?_,?_⟩ <;> first | rfl | trivial | exact not_false | exact fun h=>h trivial
  ·right; simp only[e,decide_false,cond_false]; refine⟨?_,?_⟩ <;> first | rfl | trivial | exact not_false | exact fun h=>h trivial
 ·intro p h4 h5;simp only[u4,zb,uB,aE,cond_false]
theorem XQ (F:Int×Int×Int×List E→Option (List E)){a i j:Nat}{l:List E}(h1:a < l.length)(h2:i≤j)(h3:j≤l.length)(hl:l.length≤1000000):
  ∃ k,zg F ((a:Int),(i:Int),(j:Int),l)=some ((a:Int),((k:Nat):Int),l)∧i≤k∧k≤j∧((∀ p q,i≤p→p≤q→q < j→¬ C (gt l a) (gt l q) < 0→¬ C (gt l a) (gt l p) < 0)→Cut (fun p=>¬ C (gt l a) (gt l p) < 0) i j k):=by
 refine gp (fun p=>¬ C (gt l a) (gt l p) < 0) (fun i j=>((a:Int),(i:Int),(j:Int),l)) (fun k=>((a:Int),(k:Int),l)) i j ?_ ?_ h2 (by omega)
 ·intro p q h4 h5 h6;simp only[u4,zf,uD,aw h5,cond_true,Cq p q (by omega),ay (show(0:Int)≤(p:Int)+(q:Int)by omega) (by omega),rj (show(0:Int)≤(p:Int)+(q:Int)by omega) (by omega),ay (show(0:Int)≤(((p+q) / 2:Nat):Int)by omega) (by omega),
   ay (show(0:Int)≤(((p+q) / 2:Nat):Int)+1 by omega) (by omega),az,am (show(p+q) / 2 < l.length by omega),am h1,aP,hC,aa]
  by_cases e:C (gt l a) (gt l ((p+q) / 2)) < 0
  ·right; simp only[e,decide_true,Bool.not_true,cond_false]; refine⟨?_,?_⟩ <;> first | rfl | trivial | exact not_false | exact fun h=>h trivial
  ·left; simp only[e,decide_false,Bool.not_false,cond_true,az]; refine⟨?_,?_⟩ <;> first | rfl | trivial | exact not_false | exact fun h=>h trivial
 ·intro p h4 h5;simp only[u4,zf,uD,aE,cond_false]
theorem XR (F:Int×Int×Int×List E→Option (List E)){x0 x1 x2 x3 x4:Int}{t i j:Nat}{l:List E}(h1:t < l.length+i)(h2:i≤j)(h3:j≤l.length)(h4:j≤t+1)(hl:l.length≤1000000):
  ∃ k,L92_5 F (x0,x1,x2,x3,x4,(i:Int),(j:Int),(t:Int),l)=some (x0,x1,x2,x3,x4,((k:Nat):Int),l)∧i≤k∧k≤j∧((∀ p q,i≤p→p≤q→q < j→¬ C (gt l (t-q)) (gt l q) < 0→¬ C (gt l (t-p)) (gt l p) < 0)→Cut (fun p=>¬ C (gt l (t-p)) (gt l p) < 0) i j k):=by
 refine gp (fun p=>¬ C (gt l (t-p)) (gt l p) < 0) (fun i j=>(x0,x1,x2,x3,x4,(i:Int),(j:Int),(t:Int),l)) (fun k=>(x0,x1,x2,x3,x4,(k:Int),l)) i j ?_ ?_ h2 (by omega)
 ·intro p q h5 h6 h7;have c:(t:Int)-(((p+q) / 2:Nat):Int)=((t-(p+q) / 2:Nat):Int):=by omega
  simp only[u9,zk,uG,aw h6,cond_true,Cq p q (by omega),c,ay (show(0:Int)≤(p:Int)+(q:Int)by omega) (by omega),rj (show(0:Int)≤(p:Int)+(q:Int)by omega) (by omega),ay (show(0:Int)≤(((p+q) / 2:Nat):Int)by omega) (by omega),ay (show(0:Int)≤((t-(p+q) / 2:Nat):Int)by omega) (by omega),
   ay (show(0:Int)≤(((p+q) / 2:Nat):Int)+1 by omega) (by omega),az,am (show(p+q) / 2 < l.length by omega),am (show t-(p+q) / 2 < l.length by omega),aP,hC,aa]
  by_cases e:C (gt l (t-(p+q) / 2)) (gt l ((p+q) / 2)) < 0
  ·right; simp only[e,decide_true,Bool.not_true,cond_false]; refine⟨?_,?_⟩ <;> first | rfl | trivial | exact not_false | exact fun h=>h trivial
  ·left; simp only[e,decide_false,Bool.not_false,cond_true,az]; refine⟨?_,?_⟩ <;> first | rfl | trivial | exact not_false | exact fun h=>h trivial
 ·intro p h5 h6;simp only[u9,zk,uG,aE,cond_false]
theorem So (F : Int × Int × Int × List E → Option (List E)) {a b : Nat} {l : List E} (h2 : a + 1 < b) (hb : b ≤ l.length) (hl : l.length ≤ 1000000) :
  ∃ l', p92 F (a : Int) ((a + 1 : Nat) : Int) (b : Int) l = some l' ∧ Rg l l' a b ∧ (Gd C K l → Sd K l (a + 1) b → Sd K l' a b) := by
 obtain ⟨k, k1, k2, k3, k4⟩ := XP hC F (a := a) (i := a + 1) (j := b) (l := l) (by omega) (by omega) hb hl;obtain ⟨l', u1, u2, u3⟩ := XN F (a := a) (i := k) (l := l) (by omega) (by omega) hl;have c1 : ((a + 1 : Nat) : Int) - (a : Int) = 1 := by omega
 have f1 : ah .i64 (1 : Int) = true := by decide
 refine ⟨l', ?_, u2.wide (Nat.le_refl _) k3, fun g s => ?_⟩
 ·simp only [p92, KV, c1, f1, az, decide_true, cond_true, k1, u1, aa]
 ·have hc : Cut (fun p => C (gt l p) (gt l a) < 0) (a + 1) b k := k4 fun p q q1 q2 q3 q4 => by
   rw [g.at (by omega) (by omega)] at q4 ⊢;have := s.le q1 q2 q3; omega
  intro p q q1 q2 q3;have hlo : ∀ x, a + 1 ≤ x → x < k → K (gt l x) < K (gt l a) := fun x x1 x2 => (g.at (by omega) (by omega)).1 (hc.1 x x1 x2);have hhi : ∀ x, k ≤ x → x < b → K (gt l a) ≤ K (gt l x) := fun x x1 x2 => by
   have : ¬ C (gt l x) (gt l a) < 0 := hc.2 x x1 x2;rw [g.at (by omega) (by omega)] at this; omega
  rw [u3, u3];by_cases e1 : p < k - 1
  ·rw [if_pos (by omega)];by_cases e2 : q < k - 1
   ·rw [if_pos (by omega)]; exact s.le (by omega) (by omega) (by omega)
   ·rw [if_neg (by omega)];by_cases e3 : q = k - 1
    ·rw [if_pos e3]; have := hlo (p + 1) (by omega) (by omega); omega
    ·rw [if_neg e3]; exact s.le (by omega) (by omega) (by omega)
  ·rw [if_neg (by omega)];by_cases e2 : p = k - 1
   ·rw [if_pos e2, if_neg (by omega), if_neg (by omega)]; exact hhi q (by omega) q3
   ·rw [if_neg e2, if_neg (by omega), if_neg (by omega)]; exact s.le (by omega) (by omega) (by omega)
theorem Sp (F : Int × Int × Int × List E → Option (List E)) {a m : Nat} {l : List E} (h1 : a + 1 < m) (hb : m + 1 ≤ l.length) (hl : l.length ≤ 1000000) :
  ∃ l', p92 F (a : Int) (m : Int) ((m + 1 : Nat) : Int) l = some l' ∧ Rg l l' a (m + 1) ∧ (Gd C K l → Sd K l a m → Sd K l' a (m + 1)) := by
 obtain ⟨k, k1, k2, k3, k4⟩ := XQ hC F (a := m) (i := a) (j := m) (l := l) (by omega) (by omega) (by omega) hl;obtain ⟨l', u1, u2, u3⟩ := XO F (i := k) (m := m) (l := l) (by omega) (by omega) hl;have c1 : (m : Int) - (a : Int) = ((m - a : Nat) : Int) := by omega
 have c2 : ((m + 1 : Nat) : Int) - (m : Int) = 1 := by omega
 have e1 : decide (((m - a : Nat) : Int) = 1) = false := by simp; omega
 have f1 : ah .i64 (1 : Int) = true := by decide
 refine ⟨l', ?_, u2.wide k2 (Nat.le_refl _), fun g s => ?_⟩
 ·simp only [p92, KV, c1, c2, e1, f1, ay (show (0 : Int) ≤ ((m - a : Nat) : Int) by omega) (by omega), az, decide_true, cond_true, cond_false, k1, u1, aa]
 ·have hc : Cut (fun p => ¬ C (gt l m) (gt l p) < 0) a m k := k4 fun p q q1 q2 q3 q4 => by
   rw [g.at (by omega) (by omega)] at q4 ⊢;have := s.le q1 q2 q3; omega
  intro p q q1 q2 q3;have hlo : ∀ x, a ≤ x → x < k → K (gt l x) ≤ K (gt l m) := fun x x1 x2 => by
   have : ¬ C (gt l m) (gt l x) < 0 := hc.1 x x1 x2;rw [g.at (by omega) (by omega)] at this; omega
  have hhi : ∀ x, k ≤ x → x < m → K (gt l m) < K (gt l x) := fun x x1 x2 => (g.at (by omega) (by omega)).1 (Classical.not_not.1 (hc.2 x x1 x2));rw [u3, u3];by_cases e1 : k < p
  ·rw [if_pos (by omega), if_pos (by omega)]; exact s.le (by omega) (by omega) (by omega)
  ·rw [if_neg (by omega)];by_cases e2 : p = k
   ·rw [if_pos e2, if_pos (by omega)]; have := hhi (q - 1) (by omega) (by omega); omega
   ·rw [if_neg e2];by_cases e3 : k < q
    ·rw [if_pos (by omega)]; exact s.le (by omega) (by omega) (by omega)
    ·rw [if_neg (by omega)];by_cases e4 : q = k
     ·rw [if_pos e4]; exact hlo p q1 (by omega)
     ·rw [if_neg e4]; exact s.le (by omega) (by omega) (by omega)
omit hC in
theorem Sq (F:Int×Int×Int×List E→Option (List E)){a m b:Nat}{l:List E}(h1:a+1 < m)(h2:m+1 < b)(hb:b≤1000000):
  ∃ i j:Nat,rn F ((a:Int),(m:Int),(b:Int),(((a+b) / 2:Nat):Int),(((a+b) / 2+m:Nat):Int),l)=some ((a:Int),(m:Int),(b:Int),(((a+b) / 2:Nat):Int),(((a+b) / 2+m:Nat):Int),(i:Int),(j:Int),l) ∧
   a≤i∧i≤j∧j≤m∧j≤(a+b) / 2∧(i=a∨i+b=(a+b) / 2+m)∧(a+b) / 2+m≤b+i∧(j=m∨j=(a+b) / 2):=by
 by_cases e:(a+b) / 2 < m
 ·refine⟨(a+b) / 2+m-b,(a+b) / 2,?_,by omega,by omega,by omega,by omega,by omega,by omega,by omega⟩;have c1:(((a+b) / 2+m:Nat):Int)-(b:Int)=(((a+b) / 2+m-b:Nat):Int):=by omega
  simp only[rn,zj,uF,aw e,cond_true,c1,ay (show(0:Int)≤(((a+b) / 2+m-b:Nat):Int)by omega) (by omega),az]
 ·refine⟨a,m,?_,by omega,by omega,by omega,by omega,by omega,by omega,by omega⟩;have e1:decide ((((a+b) / 2:Nat):Int) < (m:Int))=false:=by simp; omega
  simp only[rn,zj,uF,e1,cond_false]
omit hC in
theorem Sr (F:Int×Int×Int×List E→Option (List E)){m s e:Nat}(x0 x2 x3:Int){l:List E}(h1:s≤m)(h2:m≤e)(hb:e≤l.length)(hl:l.length≤1000000):
  ∃ l',L92_6 F (x0,(m:Int),x2,x3,(s:Int),(e:Int),l)=some (x0,x2,x3,(s:Int),(e:Int),l')∧Rg l l' s e∧∀ k,gt l' k=if s≤k∧k < s+(e-m)then gt l (k+(m-s))else if s+(e-m)≤k∧k < e then gt l (k-(e-m))else gt l k:=by
 have hsame:(s=m∨m=e)→∀ k,gt l k=if s≤k∧k < s+(e-m)then gt l (k+(m-s))else if s+(e-m)≤k∧k < e then gt l (k-(e-m))else gt l k:=fun h k=>by
  rcases h with h | h
  ·subst h;by_cases q:s≤k∧k < s+(e-s)
   ·rw[if_pos q]; congr 1; omega
   ·rw[if_neg q,if_neg (by omega)]
  ·subst h;rw[if_neg (by omega)]; split
   ·congr 1; omega
   ·rfl
 by_cases e1:s < m
 ·by_cases e2:m < e
  ·obtain⟨l',r1,r2,r3⟩:=XM (a:=s) (m:=m) (b:=e) (l:=l) e1 e2 hb hl;refine⟨l',?_,r2,r3⟩;simp only[L92_6,uH,rq,aw e1,aw e2,cond_true,r1,aa]
  ·have d2:decide ((m:Int) < (e:Int))=false:=by simp; omega
   refine⟨l,?_,Rg.refl _ _ _,hsame (.inr (by omega))⟩;simp only[L92_6,uH,rq,aw e1,d2,cond_true,cond_false]
 ·have d1:decide ((s:Int) < (m:Int))=false:=by simp; omega
  refine⟨l,?_,Rg.refl _ _ _,hsame (.inl (by omega))⟩;simp only[L92_6,uH,rq,d1,cond_false]
omit hC in
theorem qc {l:List E}{a c b:Nat}(h1:Sd K l a c)(h2:Sd K l c b)(h3:∀ i j,a≤i→i < c→c≤j→j < b→K (gt l i)≤K (gt l j)):Sd K l a b:=fun i j q1 q2 q3=>by
 by_cases e:j < c
 ·exact h1 i j q1 q2 e
 ·by_cases e':i < c
  ·exact h3 i j q1 e' (by omega) q3
  ·exact h2 i j (by omega) q2 q3
theorem OS : ∀ (f : Nat) {a m b : Nat} {l : List E}, a < m → m < b → b ≤ l.length → l.length ≤ 1000000 → b ≤ a + f →
  ∃ l', R92 f ((a : Int), (m : Int), (b : Int), l) = some l' ∧ Rg l l' a b ∧ (Gd C K l → Sd K l a m → Sd K l m b → Sd K l' a b)
 | 0, a, m, b, l, h1, h2, hb, hl, hf => by omega
 | f + 1, a, m, b, l, h1, h2, hb, hl, hf => by
  show ∃ l', p92 (R92 f) (a : Int) (m : Int) (b : Int) l = some l' ∧ _;by_cases e1 : m = a + 1
  ·subst e1;obtain ⟨l', r1, r2, r3⟩ := So hC (K := K) (R92 f) (a := a) (b := b) (l := l) h2 hb hl;exact ⟨l', r1, r2, fun g _ s => r3 g s⟩
  by_cases e2 : b = m + 1
  ·subst e2;obtain ⟨l', r1, r2, r3⟩ := Sp hC (K := K) (R92 f) (a := a) (m := m) (l := l) (by omega) hb hl;exact ⟨l', r1, r2, fun g s _ => r3 g s⟩
  obtain ⟨i, j, i0, i1, i2, i3, i4, i5, i6, i7⟩ := Sq (R92 f) (a := a) (m := m) (b := b) (l := l) (by omega) (by omega) (by omega);obtain ⟨s, s1, s2, s3, s4⟩ := XR hC (R92 f) (x0 := (a : Int)) (x1 := (m : Int)) (x2 := (b : Int)) (x3 := (((a + b) / 2 : Nat) : Int)) (x4 := (((a + b) / 2 + m : Nat) : Int)) (t := (a + b) / 2 + m - 1) (i := i) (j := j) (l := l) (by omega) i2 (by omega) (by omega) hl;obtain ⟨l1, t1, t2, t3⟩ := Sr (R92 f) (m := m) (s := s) (e := (a + b) / 2 + m - s) (a : Int) (b : Int) (((a + b) / 2 : Nat) : Int) (l := l) (by omega) (by omega) (by omega) hl;have hl1 := t2.len;obtain ⟨l2, u1, u2, u3⟩ : ∃ l2, (cond (decide ((a : Int) < (s : Int)) && decide ((s : Int) < (((a + b) / 2 : Nat) : Int))) (R92 f ((a : Int), (s : Int), (((a + b) / 2 : Nat) : Int), l1)) (some l1)) = some l2 ∧ Rg l1 l2 a ((a + b) / 2) ∧ (Gd C K l1 → Sd K l1 a s → Sd K l1 s ((a + b) / 2) → Sd K l2 a ((a + b) / 2)) := by
   by_cases q : a < s ∧ s < (a + b) / 2
   ·rw [aw q.1, aw q.2];exact OS f q.1 q.2 (by omega) (by omega) (by omega)
   ·have : (decide ((a : Int) < (s : Int)) && decide ((s : Int) < (((a + b) / 2 : Nat) : Int))) = false := by
     rw [Bool.and_eq_false_iff, decide_eq_false_iff_not, decide_eq_false_iff_not]; omega
    rw [this];exact ⟨l1, rfl, Rg.refl _ _ _, fun _ x y => qc x y fun p r q1 q2 q3 q4 => by omega⟩
  have hl2 := u2.len;obtain ⟨l3, v1, v2, v3⟩ : ∃ l3, (cond (decide ((((a + b) / 2 : Nat) : Int) < (((a + b) / 2 + m - s : Nat) : Int)) && decide ((((a + b) / 2 + m - s : Nat) : Int) < (b : Int))) (R92 f ((((a + b) / 2 : Nat) : Int), (((a + b) / 2 + m - s : Nat) : Int), (b : Int), l2)) (some l2)) = some l3 ∧ Rg l2 l3 ((a + b) / 2) b ∧ (Gd C K l2 → Sd K l2 ((a + b) / 2) ((a + b) / 2 + m - s) → Sd K l2 ((a + b) / 2 + m - s) b → Sd K l3 ((a + b) / 2) b) := by
   by_cases q : (a + b) / 2 < (a + b) / 2 + m - s ∧ (a + b) / 2 + m - s < b
   ·rw [aw q.1, aw q.2];exact OS f q.1 q.2 (by omega) (by omega) (by omega)
   ·have : (decide ((((a + b) / 2 : Nat) : Int) < (((a + b) / 2 + m - s : Nat) : Int)) && decide ((((a + b) / 2 + m - s : Nat) : Int) < (b : Int))) = false := by
     rw [Bool.and_eq_false_iff, decide_eq_false_iff_not, decide_eq_false_iff_not]; omega
    rw [this];exact ⟨l2, rfl, Rg.refl _ _ _, fun _ x y => qc x y fun p r q1 q2 q3 q4 => by omega⟩
  refine ⟨l3, ?_, (t2.wide (by omega) (by omega)).trans ((u2.wide (Nat.le_refl _) (by omega)).trans (v2.wide (by omega) (Nat.le_refl _))), fun g sa sb => ?_⟩
  ·have c1 : (m : Int) - (a : Int) = ((m - a : Nat) : Int) := by omega
   have c2 : (b : Int) - (m : Int) = ((b - m : Nat) : Int) := by omega
   have d1 : decide (((m - a : Nat) : Int) = 1) = false := by simp; omega
   have d2 : decide (((b - m : Nat) : Int) = 1) = false := by simp; omega
   have c3 : (((a + b) / 2 : Nat) : Int) + (m : Int) = (((a + b) / 2 + m : Nat) : Int) := by omega
   have c4 : (((a + b) / 2 + m : Nat) : Int) - 1 = (((a + b) / 2 + m - 1 : Nat) : Int) := by omega
   have c5 : (((a + b) / 2 + m : Nat) : Int) - (s : Int) = (((a + b) / 2 + m - s : Nat) : Int) := by omega
   simp only [p92, KV, c1, c2, d1, d2, Cq a b (by omega), c3, ay (show (0 : Int) ≤ ((m - a : Nat) : Int) by omega) (by omega), ay (show (0 : Int) ≤ ((b - m : Nat) : Int) by omega) (by omega), ay (show (0 : Int) ≤ (a : Int) + (b : Int) by omega) (by omega), rj (show (0 : Int) ≤ (a : Int) + (b : Int) by omega) (by omega),
    ay (show (0 : Int) ≤ (((a + b) / 2 : Nat) : Int) by omega) (by omega), ay (show (0 : Int) ≤ (((a + b) / 2 + m : Nat) : Int) by omega) (by omega), az, cond_false, i0, aa, c4, ay (show (0 : Int) ≤ (((a + b) / 2 + m - 1 : Nat) : Int) by omega) (by omega), s1, c5, ay (show (0 : Int) ≤ (((a + b) / 2 + m - s : Nat) : Int) by omega) (by omega), t1]
   revert u1 v1
   cases decide ((a : Int) < (s : Int)) <;> cases decide ((s : Int) < (((a + b) / 2 : Nat) : Int)) <;> cases decide ((((a + b) / 2 : Nat) : Int) < (((a + b) / 2 + m - s : Nat) : Int)) <;> cases decide ((((a + b) / 2 + m - s : Nat) : Int) < (b : Int)) <;>
    (simp only [Bool.and_true, Bool.and_false, Bool.true_and, Bool.false_and, cond_true, cond_false]; intro u1 v1; first | (rw [u1, aa, v1]; rfl) | (cases u1; rw [v1]; rfl) | (rw [u1, aa]; exact v1) | (cases u1; exact v1))
  ·
   have hcut : Cut (fun p => ¬ C (gt l ((a + b) / 2 + m - 1 - p)) (gt l p) < 0) i j s := s4 fun p q q1 q2 q3 q4 => by
    rw [g.at (by omega) (by omega)] at q4 ⊢;have w1 := sa.le (show a ≤ p by omega) q2 (show q < m by omega);have w2 := sb.le (show m ≤ (a + b) / 2 + m - 1 - q by omega) (show (a + b) / 2 + m - 1 - q ≤ (a + b) / 2 + m - 1 - p by omega) (show (a + b) / 2 + m - 1 - p < b by omega);omega
   have hlo : i < s → K (gt l (s - 1)) ≤ K (gt l ((a + b) / 2 + m - s)) := fun q => by
    have : ¬ C (gt l ((a + b) / 2 + m - 1 - (s - 1))) (gt l (s - 1)) < 0 := hcut.1 (s - 1) (by omega) (by omega);rw [g.at (by omega) (by omega), show (a + b) / 2 + m - 1 - (s - 1) = (a + b) / 2 + m - s by omega] at this; omega
   have hhi : s < j → K (gt l ((a + b) / 2 + m - s - 1)) < K (gt l s) := fun q => by
    have : C (gt l ((a + b) / 2 + m - 1 - s)) (gt l s) < 0 := Classical.not_not.1 (hcut.2 s (Nat.le_refl _) q);rw [g.at (by omega) (by omega), show (a + b) / 2 + m - 1 - s = (a + b) / 2 + m - s - 1 by omega] at this; omega
   have em : s + ((a + b) / 2 + m - s - m) = (a + b) / 2 := by omega
   rw [em] at t3;have g1 : ∀ k, k < s → gt l1 k = gt l k := fun k q => by rw [t3, if_neg (by omega), if_neg (by omega)]
   have g2 : ∀ k, s ≤ k → k < (a + b) / 2 → gt l1 k = gt l (k + (m - s)) := fun k q q' => by rw [t3, if_pos ⟨q, q'⟩]
   have g3 : ∀ k, (a + b) / 2 ≤ k → k < (a + b) / 2 + m - s → gt l1 k = gt l (k - ((a + b) / 2 + m - s - m)) := fun k q q' => by rw [t3, if_neg (by omega), if_pos ⟨q, q'⟩]
   have g4 : ∀ k, (a + b) / 2 + m - s ≤ k → gt l1 k = gt l k := fun k q => by rw [t3, if_neg (by omega), if_neg (by omega)]
   have x1 : Sd K l1 a s := fun p q q1 q2 q3 => by rw [g1 p (by omega), g1 q q3]; exact sa.le q1 (by omega) (by omega)
   have x2 : Sd K l1 s ((a + b) / 2) := fun p q q1 q2 q3 => by rw [g2 p q1 (by omega), g2 q (by omega) q3]; exact sb.le (by omega) (by omega) (by omega)
   have x3 : Sd K l1 ((a + b) / 2) ((a + b) / 2 + m - s) := fun p q q1 q2 q3 => by rw [g3 p q1 (by omega), g3 q (by omega) q3]; exact sa.le (by omega) (by omega) (by omega)
   have x4 : Sd K l1 ((a + b) / 2 + m - s) b := fun p q q1 q2 q3 => by rw [g4 p q1, g4 q (by omega)]; exact sb.le (by omega) (by omega) (by omega)
   have cross : ∀ p q, a ≤ p → p < (a + b) / 2 → (a + b) / 2 ≤ q → q < b → K (gt l1 p) ≤ K (gt l1 q) := fun p q q1 q2 q3 q4 => by
    by_cases w1 : p < s
    ·rw [g1 p w1];by_cases w2 : q < (a + b) / 2 + m - s
     ·rw [g3 q q3 w2]; exact sa.le (by omega) (by omega) (by omega)
     ·rw [g4 q (by omega)];have y1 := sa.le q1 (show p ≤ s - 1 by omega) (by omega);have y2 := sb.le (show m ≤ (a + b) / 2 + m - s by omega) (show (a + b) / 2 + m - s ≤ q by omega) q4;have y3 := hlo (by omega);omega
    ·rw [g2 p (by omega) q2];by_cases w2 : q < (a + b) / 2 + m - s
     ·rw [g3 q q3 w2];have y1 := sb.le (show m ≤ p + (m - s) by omega) (show p + (m - s) ≤ (a + b) / 2 + m - s - 1 by omega) (by omega);have y2 := sa.le (show a ≤ s by omega) (show s ≤ q - ((a + b) / 2 + m - s - m) by omega) (by omega);have y3 := hhi (by omega);omega
     ·rw [g4 q (by omega)]; exact sb.le (by omega) (by omega) (by omega)
   have gd1 := g.perm t2.perm;have gd2 := gd1.perm u2.perm;have z1 := u3 gd1 x1 x2;have z2 := v3 gd2 (x3.out u2 (.inr (Nat.le_refl _))) (x4.out u2 (.inr (by omega)));refine qc (z1.out v2 (.inl (Nat.le_refl _))) z2 fun p q q1 q2 q3 q4 => ?_;rw [v2.lo p q2];obtain ⟨p', p1, p2, p3⟩ := u2.mem (by omega) q1 q2;obtain ⟨q', r1, r2, r3⟩ := v2.mem (by omega) q3 q4;rw [p3, r3, u2.hi q' r1];exact cross p' q' p1 p2 r1 r2
def Bk (K:E→Int)(l:List E)(w a n:Nat):Prop:=∀ u,a≤u*w→u*w < n→Sd K l (u*w) (min (u*w+w) n)
theorem Ss {n w:Nat}{l:List E}(hw:0 < w)(hwn:w≤n)(hn:n≤l.length)(hl:l.length≤1000000):
  ∃ r,zo ((n:Int),(w:Int),0,2*(w:Int),l)=some r∧∃ t l',r=((n:Int),(w:Int),((t*(2*w):Nat):Int),l')∧t*(2*w)≤n∧n < t*(2*w)+2*w∧Rg l l' 0 n∧(Gd C K l→Bk K l w 0 n→(∀ u,u < t→Sd K l' (u*(2*w)) (u*(2*w)+2*w))∧Bk K l' w (t*(2*w)) n):=by
 refine eO (fun s=>((n:Int)+2*w-s.2.2.2.1).toNat) (fun s=>∃ t l',s=((n:Int),(w:Int),((t*(2*w):Nat):Int),((t*(2*w)+2*w:Nat):Int),l')∧t*(2*w)≤n∧Rg l l' 0 n∧(Gd C K l→Bk K l w 0 n→(∀ u,u < t→Sd K l' (u*(2*w)) (u*(2*w)+2*w))∧Bk K l' w (t*(2*w)) n)) _
  ⟨0,l,by simp,by omega,Rg.refl _ _ _,fun _ h=>⟨fun u hu=>by omega,by rw[Nat.zero_mul]; exact h⟩⟩ (by show((n:Int)+2*w-2*w).toNat < _; omega) ?_
 rintro s ⟨t,l',rfl,h1,hr,hv⟩;have hlen:=hr.len;have e0:(t+1)*(2*w)=t*(2*w)+2*w:=by rw[Nat.succ_mul]
 have e1:(2*t)*w=t*(2*w):=by rw[Nat.mul_comm 2 t,Nat.mul_assoc]
 have e2:(2*t+1)*w=t*(2*w)+w:=by rw[Nat.succ_mul,e1]
 generalize hX:t*(2*w)=X at *;by_cases hb:X+2*w≤n
 ·left;have d1:decide (((X+2*w:Nat):Int)≤(n:Int))=true:=by simp; omega
  have c1:((X:Nat):Int)+(w:Int)=((X+w:Nat):Int):=by omega
  have c2:2*(w:Int)=((2*w:Nat):Int):=by omega
  have c3:((X+2*w:Nat):Int)+((2*w:Nat):Int)=((X+2*w+2*w:Nat):Int):=by omega
  obtain⟨l2,s1,s2,s3⟩:=OS hC (K:=K) 18446744073709551616 (a:=X) (m:=X+w) (b:=X+2*w) (l:=l') (by omega) (by omega) (by omega) (by omega) (by omega);have s1':sf (((X:Nat):Int),((X+w:Nat):Int),((X+2*w:Nat):Int),l')=some l2:=s1;simp only[u5,zn,uK,d1,cond_true,c1,c2,c3,ay (show(0:Int)≤((X+w:Nat):Int)by omega) (by omega),ay (show(0:Int)≤((2*w:Nat):Int)by omega) (by omega),ay (show(0:Int)≤((X+2*w+2*w:Nat):Int)by omega) (by omega),az,s1',aa];refine⟨_,rfl,⟨t+1,l2,by rw[e0],by omega,hr.trans (s2.wide (by omega) (by omega)),fun g h=>?_⟩,by show((n:Int)+2*w-((X+2*w+2*w:Nat):Int)).toNat < ((n:Int)+2*w-((X+2*w:Nat):Int)).toNat; omega⟩;obtain⟨v1,v2⟩:=hv g h;rw[e0];refine⟨fun u hu=>?_,fun u u1 u2=>(v2 u (by omega) u2).out s2 (.inr (by omega))⟩;by_cases e:u=t
  ·rw[e,hX];have w1:=v2 (2*t) (by omega) (by omega);have w2:=v2 (2*t+1) (by omega) (by omega);rw[e1]at w1;rw[e2]at w2;exact s3 (g.perm hr.perm) (w1.sub (Nat.le_refl _) (by omega)) (w2.sub (Nat.le_refl _) (by omega))
  ·have:=Nat.mul_le_mul_right (2*w) (show u+1≤t by omega);rw[Nat.succ_mul,hX]at this;exact(v1 u (by omega)).out s2 (.inl (by omega))
 ·right;have d1:decide (((X+2*w:Nat):Int)≤(n:Int))=false:=by simp; omega
  simp only[u5,zn,uK,d1,cond_false];exact⟨_,rfl,t,l',by rw[hX],by omega,by omega,hr,by rw[hX]; exact hv⟩
theorem Su {n w:Nat}{l:List E}(hw:0 < w)(hw1:w≤2*n+20)(hn:n≤l.length)(hl:l.length≤1000000):
  ∃ l',uM ((n:Int),(w:Int),l)=some l'∧Rg l l' 0 n∧(Gd C K l→Bk K l w 0 n→Sd K l' 0 n):=by
 refine eO (fun s=>((n:Int)-s.2.1).toNat) (fun s=>∃ (v:Nat) (l':List E),s=((n:Int),(v:Int),l')∧0 < v∧v≤2*n+20∧Rg l l' 0 n∧(Gd C K l→Bk K l w 0 n→Bk K l' v 0 n)) _
  ⟨w,l,rfl,hw,hw1,Rg.refl _ _ _,fun _ h=>h⟩ (by show((n:Int)-(w:Int)).toNat < _; omega) ?_
 rintro s ⟨v,l',rfl,v0,v1,hr,hv⟩;have hlen:=hr.len;by_cases hb:v < n
 ·left;have c2:2*(v:Int)=((2*v:Nat):Int):=by omega
  have c4:(v:Int)*2=((2*v:Nat):Int):=by omega
  obtain⟨r,r0,t,l2,rfl,r1,r2,r3,r4⟩:=Ss hC (K:=K) (n:=n) (w:=v) (l:=l') v0 (by omega) (by omega) (by omega);rw[c2]at r0;have hl2:=r3.len;have e1:(2*t)*v=t*(2*v):=by rw[Nat.mul_comm 2 t,Nat.mul_assoc]
  have e2:(2*t+1)*v=t*(2*v)+v:=by rw[Nat.succ_mul,e1]
  generalize hX:t*(2*v)=X at *;have c1:((X:Nat):Int)+(v:Int)=((X+v:Nat):Int):=by omega
  have hfin:∀ l3,Rg l2 l3 (X) n→(Gd C K l2→Bk K l2 v (X) n→X < n→Sd K l3 (X) n)→(Gd C K l→Bk K l w 0 n→Bk K l3 (2*v) 0 n):=fun l3 k1 k2 g h u u1 u2=>by
   obtain⟨z1,z2⟩:=r4 (g.perm hr.perm) (hv g h);by_cases e:u < t
   ·have:=Nat.mul_le_mul_right (2*v) (show u+1≤t by omega);rw[Nat.succ_mul,hX]at this;exact((z1 u e).out k1 (.inl (by omega))).sub (Nat.le_refl _) (by omega)
   ·by_cases e':u=t
    ·subst e';rw[hX]at u2 ⊢;exact(k2 ((g.perm hr.perm).perm r3.perm) z2 u2).sub (Nat.le_refl _) (by omega)
    ·have:=Nat.mul_le_mul_right (2*v) (show t+1≤u by omega);rw[Nat.succ_mul,hX]at this;omega
  by_cases hx:X+v < n
  ·obtain⟨l3,s1,s2,s3⟩:=OS hC (K:=K) 18446744073709551616 (a:=X) (m:=X+v) (b:=n) (l:=l2) (by omega) (by omega) (by omega) (by omega) (by omega);have s1':sf (((X:Nat):Int),((X+v:Nat):Int),(n:Int),l2)=some l3:=s1;simp only[u3,uL,rt,aw hb,cond_true,c2,c4,ay (show(0:Int)≤((2*v:Nat):Int)by omega) (by omega),az,r0,aa,c1,ay (show(0:Int)≤((X+v:Nat):Int)by omega) (by omega),aw hx,s1'];refine⟨_,rfl,⟨2*v,l3,rfl,by omega,by omega,(hr.trans r3).trans (s2.wide (by omega) (Nat.le_refl _)),hfin l3 s2 fun g z _=>?_⟩,by show((n:Int)-((2*v:Nat):Int)).toNat < ((n:Int)-(v:Int)).toNat; omega⟩;have w1:=z (2*t) (by omega) (by omega);have w2:=z (2*t+1) (by omega) (by omega);rw[e1]at w1;rw[e2]at w2;exact s3 g (w1.sub (Nat.le_refl _) (by omega)) (w2.sub (Nat.le_refl _) (by omega))
  ·have d1:decide (((X+v:Nat):Int) < (n:Int))=false:=by simp; omega
   simp only[u3,uL,rt,aw hb,cond_true,cond_false,c2,c4,ay (show(0:Int)≤((2*v:Nat):Int)by omega) (by omega),az,r0,aa,c1,ay (show(0:Int)≤((X+v:Nat):Int)by omega) (by omega),d1];refine⟨_,rfl,⟨2*v,l2,rfl,by omega,by omega,hr.trans r3,hfin l2 (Rg.refl _ _ _) fun g z _=>?_⟩,by show((n:Int)-((2*v:Nat):Int)).toNat < ((n:Int)-(v:Int)).toNat; omega⟩;have w1:=z (2*t) (by omega) (by omega);rw[e1]at w1;exact w1.sub (Nat.le_refl _) (by omega)
 ·right;have d1:decide ((v:Int) < (n:Int))=false:=by simp; omega
  simp only[u3,uL,rt,d1,cond_false];refine⟨_,rfl,hr,fun g h=>?_⟩;by_cases hz:n=0
  ·exact Sd.one (by omega)
  ·have:=hv g h 0 (by omega) (by omega);rw[Nat.zero_mul]at this;exact this.sub (Nat.le_refl _) (by omega)
theorem Sv {n:Nat}{l:List E}(hn:n≤l.length)(hl:l.length≤1000000):
  ∃ r,zm ((n:Int),20,0,20,l)=some r∧∃ t l',r=((n:Int),20,((t*20:Nat):Int),l')∧t*20≤n∧n < t*20+20∧Rg l l' 0 n∧(Gd C K l→∀ u,u < t→Sd K l' (u*20) (u*20+20)):=by
 refine eO (fun s=>((n:Int)+20-s.2.2.2.1).toNat) (fun s=>∃ t l',s=((n:Int),20,((t*20:Nat):Int),((t*20+20:Nat):Int),l')∧t*20≤n∧Rg l l' 0 n∧(Gd C K l→∀ u,u < t→Sd K l' (u*20) (u*20+20))) _
  ⟨0,l,by simp,by omega,Rg.refl _ _ _,fun _ u hu=>by omega⟩ (by show((n:Int)+20-20).toNat < _; omega) ?_
 rintro s ⟨t,l',rfl,h1,hr,hv⟩;have hlen:=hr.len;by_cases hb:t*20+20≤n
 ·left;have d1:decide (((t*20+20:Nat):Int)≤(n:Int))=true:=by simp; omega
  have c3:((t*20+20:Nat):Int)+20=(((t+1)*20+20:Nat):Int):=by omega
  obtain⟨l2,s1,s2,s3⟩:=ins hC (K:=K) (a:=t*20) (b:=t*20+20) (l:=l') (by omega) (by omega) (by omega);simp only[u5,zl,uJ,d1,cond_true,s1,aa,c3,ay (show(0:Int)≤(((t+1)*20+20:Nat):Int)by omega) (by omega),az];refine⟨_,rfl,⟨t+1,l2,by rw[show(t+1)*20=t*20+20 by omega],by omega,hr.trans (s2.wide (by omega) (by omega)),fun g u hu=>?_⟩,by show((n:Int)+20-(((t+1)*20+20:Nat):Int)).toNat < ((n:Int)+20-((t*20+20:Nat):Int)).toNat; omega⟩;by_cases e:u=t
  ·subst e; exact s3 (g.perm hr.perm)
  ·exact(hv g u (by omega)).out s2 (.inl (by omega))
 ·right;have d1:decide (((t*20+20:Nat):Int)≤(n:Int))=false:=by simp; omega
  simp only[u5,zl,uJ,d1,cond_false];exact⟨_,rfl,t,l',rfl,h1,by omega,hr,hv⟩
theorem srt (l:List E)(hl:l.length≤1000000):∃ l',P78 l=some l'∧Rg l l' 0 l.length∧(Gd C K l→Sd K l' 0 l.length):=by
 obtain⟨r,r0,t,l1,rfl,r1,r2,r3,r4⟩:=Sv hC (K:=K) (n:=l.length) (l:=l) (Nat.le_refl _) hl;have hl1:=r3.len;obtain⟨l2,s1,s2,s3⟩:=ins hC (K:=K) (a:=t*20) (b:=l.length) (l:=l1) r1 (by omega) (by omega);have hl2:=s2.len;obtain⟨l3,u1,u2,u3⟩:=Su hC (K:=K) (n:=l.length) (w:=20) (l:=l2) (by omega) (by omega) (by omega) (by omega);refine⟨l3,?_,(r3.trans (s2.wide (by omega) (Nat.le_refl _))).trans u2,fun g=>?_⟩
 ·have u1':uM ((l.length:Int),20,l2)=some l3:=u1;simp only[u2,P78,SY,Qb,P87,SW,P6,r0,aa,s1,u1']
 ·refine u3 ((g.perm r3.perm).perm s2.perm) fun u _ hu=>?_;by_cases e:u < t
  ·exact((r4 g u e).out s2 (.inl (by omega))).sub (Nat.le_refl _) (by omega)
  ·obtain rfl:u=t:=by omega
   exact(s3 (g.perm r3.perm)).sub (Nat.le_refl _) (by omega)
end
end Srt78
abbrev CT:=Int×Int×Int×List Int×List (Int×Int)×Int×Int×Int×Int
abbrev RT:=Int×Int×Int×Int×Int×Int
abbrev BT:=Int×List CT×List RT
def zC:CT:=(0,0,0,[],[],0,0,0,0)
def fc (l:List CT)(f:Int):Option CT:=l.find? fun c=>decide (c.1=f)
def IT:Option CT→CT×Bool
 | some c=>(c,true)
 | none=>(zC,false)
def okT (l:List (Int×Int)):Bool:=be l.length fun i=>wi (gt l i).1 0 10000000&&(wi (gt l i).2 0 1000&&(decide (i=0)||decide ((gt l (i-1)).1 < (gt l i).1)))
def lw (c:CT):Bool:=wi c.1 0 99&&(decide (0≤c.2.1)&&(decide (c.2.1≤c.2.2.1)&&(decide (c.2.2.1≤99)&&(wi c.2.2.2.1.length 1 6&&(decide (c.2.2.2.2.1.length≤4)&&(wi c.2.2.2.2.2.1 0 10000000&&(wi c.2.2.2.2.2.2.2.1 0 10000000&&(wi c.2.2.2.2.2.2.1 0 1000&&(wi c.2.2.2.2.2.2.2.2 0 100000000&&((be c.2.2.2.1.length fun i=>wi (gt c.2.2.2.1 i) 0 1000)&&okT c.2.2.2.2.1))))))))))
def nY (b:BT):Bool:=(be b.2.1.length fun i=>lw (gt b.2.1 i)&&be i fun k=>!decide ((gt b.2.1 k).1=(gt b.2.1 i).1))&&(wi b.1 0 500&&decide (b.2.1.length≤6))
def AD (c:CT)(r:RT):Bool:=wi r.1 0 99&&((decide (r.2.1=1)||decide (r.2.1=2))&&(wi r.2.2.2.1 c.2.1 c.2.2.1&&(wi r.2.2.2.2.1 0 9&&wi r.2.2.2.2.2 0 10000000)))
def sj (l:List CT)(r:RT):Bool:=match fc l r.2.2.1 with
 | some c=>AD c r
 | none=>false
def xd (l:List RT)(i:Nat):Bool:=be i fun k=>!(decide ((gt l k).1=(gt l i).1)&&!decide (gt l k=gt l i))
def iJ (c:List CT)(l:List RT):Bool:=be l.length fun i=>sj c (gt l i)&&xd l i
def bO (b:BT):Int:=cond (nY b) (cond (decide (b.2.2.length≤40)&&iJ b.2.1 b.2.2) 0 81) 80
theorem OT (x y:RT):(((((decide (x.1=y.1)&&decide (x.2.1=y.2.1))&&decide (x.2.2.1=y.2.2.1))&&decide (x.2.2.2.1=y.2.2.2.1))&&decide (x.2.2.2.2.1=y.2.2.2.2.1))&&decide (x.2.2.2.2.2=y.2.2.2.2.2))=decide (x=y):=by
 obtain⟨a,b,c,d,e,f⟩:=x;obtain⟨a',b',c',d',e',f'⟩:=y;rw[Bool.eq_iff_iff]
 simp[Prod.ext_iff,and_assoc]
theorem js (x a b:Int):P48 (x,a,b)=some (wi x a b):=ui x a b
theorem gv (x a b:Int):P40 (x,a,b)=some (wi x a b):=ui x a b
theorem qf (x:Int):P46 x=some (wi x 0 10000000):=by simp only[P46,SL,Pw,gv,aa]
theorem tq (x:Int):P70 x=some (wi x 0 1000):=by simp only[P70,SM,PB,gv,aa]
theorem tr (b:BT)(f:Int)(hb:b.2.1.length≤1000):gq (b,f)=some (IT (fc b.2.1 f)):=by
 have h:=c8 (step:=fun x=>vA x.1 x.2.1 x.2.2.1 x.2.2.2.1 x.2.2.2.2.1 x.2.2.2.2.2.1 x.2.2.2.2.2.2.1 x.2.2.2.2.2.2.2.1 x.2.2.2.2.2.2.2.2.1 x.2.2.2.2.2.2.2.2.2) b.2.1.length (fun k=>(f,(k:Int),b,0,0,0,0,0,0,0)) (fun k=>decide ((gt b.2.1 k).1=f)) (fun k=>.inl (true,b,gt b.2.1 k)) (.inr (b,0,0,0,0,0,0,0))
  (fun k hk _=>by
   simp only[OQ,vA,vz,aw hk,cond_true,am hk,az,aP,aC (show k < 9223372036854775807 by omega),aR];cases decide ((gt b.2.1 k).1=f) <;> rfl) (fun _=>by simp only[OQ,vA,vz,aE,cond_false]) (by omega)
 rcases h with⟨k,hk,h1,h2,h3⟩ | ⟨h2,h3⟩
 ·have e:vB (f,0,b,0,0,0,0,0,0,0)=some (.inl (true,b,gt b.2.1 k)):=h3;simp only[u2,gq,RG,Ow,e,aa,fQ];rw[fc,l8 hk h1 h2]; rfl
 ·have e:vB (f,0,b,0,0,0,0,0,0,0)=some (.inr (b,0,0,0,0,0,0,0)):=h3;simp only[u2,gq,RG,Ow,e,aa,bW];rw[fc,pU h2]; rfl
theorem IU (c:CT)(h1:c.2.2.2.1.length≤1000)(h2:c.2.2.2.2.1.length≤1000):P67 c=some (lw c):=by
 have e0:z7 (0,c)=some (cond (be c.2.2.2.1.length fun i=>wi (gt c.2.2.2.1 i) 0 1000) (.inr c) (.inl (false,c))):=
  bS c.2.2.2.1.length (fun k=>((k:Int),c)) (fun i=>wi (gt c.2.2.2.1 i) 0 1000) _ _ (fun k hk=>by
   simp only[u2,z6,vr,aw hk,cond_true,am hk,az,aP,aC (show k < 9223372036854775807 by omega),aR,js,aa];cases wi (gt c.2.2.2.1 k) 0 1000 <;> rfl) (by simp only[u2,z6,vr,aE,cond_false]) (by omega)
 have e1:z9 (0,c)=some (cond (okT c.2.2.2.2.1) (.inr c) (.inl (false,c))):=
  bS c.2.2.2.2.1.length (fun k=>((k:Int),c)) (fun i=>wi (gt c.2.2.2.2.1 i).1 0 10000000&&(wi (gt c.2.2.2.2.1 i).2 0 1000&&(decide (i=0)||decide ((gt c.2.2.2.2.1 (i-1)).1 < (gt c.2.2.2.2.1 i).1)))) _ _ (fun k hk=>by
   simp only[u2,z8,vt,aw hk,cond_true,am hk,az,aP,aC (show k < 9223372036854775807 by omega),aR,js,aa];cases wi (gt c.2.2.2.2.1 k).1 0 10000000
   ·rfl
   cases wi (gt c.2.2.2.2.1 k).2 0 1000
   ·rfl
   by_cases hk0:k=0
   ·subst hk0; rfl
   ·have q1:decide ((0:Int) < (k:Int))=true:=by simp; omega
    have q2:(k:Int)-1=((k-1:Nat):Int):=by omega
    simp only[q1,q2,Bool.not_true,cond_false,cond_true,ay (show(0:Int)≤((k-1:Nat):Int)by omega) (by omega),az,am (show k-1 < c.2.2.2.2.1.length by omega),aP,Bool.true_and,hk0,decide_false,Bool.false_or];by_cases q3:(gt c.2.2.2.2.1 (k-1)).1 < (gt c.2.2.2.2.1 k).1
    ·have q4:decide ((gt c.2.2.2.2.1 k).1≤(gt c.2.2.2.2.1 (k-1)).1)=false:=by simp; omega
     simp only[q3,q4,decide_true,cond_true,cond_false]
    ·have q4:decide ((gt c.2.2.2.2.1 k).1≤(gt c.2.2.2.2.1 (k-1)).1)=true:=by simp; omega
     simp only[q3,q4,decide_false,cond_true,cond_false]) (by simp only[u2,z8,vt,aE,cond_false]) (by omega)
 have n0:∀ x:Int,decide (x < 0)=!decide (0≤x):=fun x=>by rw[Bool.eq_iff_iff]; simp
 have n1:decide (c.2.2.1 < c.2.1)=!decide (c.2.1≤c.2.2.1):=by rw[Bool.eq_iff_iff]; simp
 have n2:decide (99 < c.2.2.1)=!decide (c.2.2.1≤99):=by rw[Bool.eq_iff_iff]; simp
 have n3:decide (4 < (c.2.2.2.2.1.length:Int))=!decide (c.2.2.2.2.1.length≤4):=by rw[Bool.eq_iff_iff]; simp; omega
 simp only[P67,TA,RA,js,aa,n0,n1,n2,n3,lw,e0];cases wi c.1 0 99
 ·rfl
 cases decide (0≤c.2.1)
 ·rfl
 cases decide (c.2.1≤c.2.2.1)
 ·rfl
 cases decide (c.2.2.1≤99)
 ·rfl
 cases wi (c.2.2.2.1.length:Int) 1 6
 ·rfl
 cases decide (c.2.2.2.2.1.length≤4)
 ·rfl
 cases wi c.2.2.2.2.2.1 0 10000000
 ·rfl
 cases wi c.2.2.2.2.2.2.2.1 0 10000000
 ·rfl
 cases wi c.2.2.2.2.2.2.1 0 1000
 ·rfl
 cases wi c.2.2.2.2.2.2.2.2 0 100000000
 ·rfl
 cases be c.2.2.2.1.length fun i=>wi (gt c.2.2.2.1 i) 0 1000
 ·rfl
 simp only[Bool.not_true,cond_false,cond_true,aa,bW,e1];cases okT c.2.2.2.2.1 <;> rfl
def qg (b:BT):Prop:=b.2.1.length≤1000∧b.2.2.length≤1000∧∀ c∈b.2.1,c.2.2.2.1.length≤1000∧c.2.2.2.2.1.length≤1000
theorem IV (b:BT)(hb:qg b):P43 b=some (nY b):=by
 obtain⟨h1,_,h3⟩:=hb;have e1:∀ i,i < b.2.1.length→Ab ((i:Int),0,b)=some (cond (be i fun k=>!decide ((gt b.2.1 k).1=(gt b.2.1 i).1)) (.inr ((i:Int),b)) (.inl (false,b))):=fun i hi=>
  bS i (fun k=>((i:Int),(k:Int),b)) (fun k=>!decide ((gt b.2.1 k).1=(gt b.2.1 i).1)) _ _ (fun k hk=>by
   simp only[u3,Aa,vu,aw hk,cond_true,am hi,am (show k < b.2.1.length by omega),az,aP,aC (show k < 9223372036854775807 by omega),aR];cases decide ((gt b.2.1 k).1=(gt b.2.1 i).1) <;> rfl) (by simp only[u3,Aa,vu,aE,cond_false]) (by omega)
 have e0:Ad (0,b)=some (cond (be b.2.1.length fun i=>lw (gt b.2.1 i)&&be i fun k=>!decide ((gt b.2.1 k).1=(gt b.2.1 i).1)) (.inr b) (.inl (false,b))):=
  bS b.2.1.length (fun k=>((k:Int),b)) (fun i=>lw (gt b.2.1 i)&&be i fun k=>!decide ((gt b.2.1 k).1=(gt b.2.1 i).1)) _ _ (fun k hk=>by
   have hc:=h3 _ (bF hk);simp only[u2,Ac,vw,aw hk,cond_true,am hk,az,aP,IU _ hc.1 hc.2,aa,e1 k hk,aC (show k < 9223372036854775807 by omega),aR];cases lw (gt b.2.1 k)
   ·rfl
   cases be k fun i=>!decide ((gt b.2.1 i).1=(gt b.2.1 k).1)
   ·rfl
   simp only[Bool.not_true,cond_false,cond_true,aa,bW,aC (show k < 9223372036854775807 by omega),az]; rfl) (by simp only[u2,Ac,vw,aE,cond_false]) (by omega)
 have n3:decide ((b.2.1.length:Int)≤6)=decide (b.2.1.length≤6):=by rw[Bool.eq_iff_iff]; simp; omega
 simp only[P43,TB,RE,e0,aa,nY];cases be b.2.1.length fun i=>lw (gt b.2.1 i)&&be i fun k=>!decide ((gt b.2.1 k).1=(gt b.2.1 i).1)
 ·rfl
 simp only[cond_true,bW,js,aa,n3];cases wi b.1 0 500 <;> rfl
theorem IW (b:BT)(l:List RT)(hb:qg b)(hl:l.length≤1000):P44 (b,l)=some (iJ b.2.1 l):=by
 have e1:∀ (i:Nat) (x y z w:Bool),i < l.length→Af (l,(i:Int),0,x,y,z,w,b,gt l i)=some (cond (xd l i) (.inr (l,(i:Int),x,y,z,w,b,gt l i)) (.inl (false,b,gt l i))):=fun i x y z w hi=>
  bS i (fun k=>(l,(i:Int),(k:Int),x,y,z,w,b,gt l i)) (fun k=>!(decide ((gt l k).1=(gt l i).1)&&!decide (gt l k=gt l i))) _ _ (fun k hk=>by
   simp only[u9,Ae,vC,aw hk,cond_true,am (show k < l.length by omega),az,aP,aC (show k < 9223372036854775807 by omega),aR,OT];cases decide ((gt l k).1=(gt l i).1)
   ·rfl
   cases decide (gt l k=gt l i) <;> rfl) (by simp only[u9,Ae,vC,aE,cond_false]) (by omega)
 have e0:Ah (l,0,b)=some (cond (iJ b.2.1 l) (.inr b) (.inl (false,b))):=
  bS l.length (fun k=>(l,(k:Int),b)) (fun i=>sj b.2.1 (gt l i)&&xd l i) _ _ (fun k hk=>by
   simp only[u3,Ag,vD,aw hk,cond_true,am hk,az,aP,tr b _ hb.1,aa,js,sj];cases hf:fc b.2.1 (gt l k).2.2.1 with
   | none=>rfl
   | some c=>
    simp only[IT,AD,Bool.not_true,cond_false];cases wi (gt l k).1 0 99
    ·rfl
    cases q1:decide ((gt l k).2.1=1)
    ·cases q2:decide ((gt l k).2.1=2)
     ·rfl
     simp only[Bool.not_true,Bool.not_false,cond_false,cond_true];cases wi (gt l k).2.2.2.1 c.2.1 c.2.2.1
     ·rfl
     cases wi (gt l k).2.2.2.2.1 0 9
     ·rfl
     cases wi (gt l k).2.2.2.2.2 0 10000000
     ·rfl
     simp only[Bool.not_true,cond_false,e1 k _ _ _ _ hk,aa];cases xd l k
     ·rfl
     simp only[cond_true,bW,aC (show k < 9223372036854775807 by omega),az]; rfl
    ·simp only[Bool.not_true,Bool.not_false,cond_false,cond_true];cases wi (gt l k).2.2.2.1 c.2.1 c.2.2.1
     ·rfl
     cases wi (gt l k).2.2.2.2.1 0 9
     ·rfl
     cases wi (gt l k).2.2.2.2.2 0 10000000
     ·rfl
     simp only[Bool.not_true,cond_false,e1 k _ _ _ _ hk,aa];cases xd l k
     ·rfl
     simp only[cond_true,bW,aC (show k < 9223372036854775807 by omega),az]; rfl) (by simp only[u3,Ag,vD,aE,cond_false]) (by omega)
 simp only[u2,P44,TC,RJ,e0,aa];cases iJ b.2.1 l <;> rfl
theorem AE (b:BT)(hb:qg b):gz b=some (bO b):=by
 have n3:decide (40 < (b.2.2.length:Int))=!decide (b.2.2.length≤40):=by rw[Bool.eq_iff_iff]; simp; omega
 simp only[gz,TD,RN,IV b hb,IW b _ hb hb.2.1,aa,n3,bO];cases nY b
 ·rfl
 cases decide (b.2.2.length≤40)
 ·rfl
 cases iJ b.2.1 b.2.2 <;> rfl
def lx (l:List RT):Nat→List RT
 | 0=>[]
 | n+1=>if 0 < n∧gt l n=gt l (n-1)then lx l n else lx l n++[gt l n]
theorem ma (l:List RT){n:Nat}(h:n < l.length):l.take (n+1)=l.take n++[gt l n]:=by
 rw[List.take_add_one,List.getElem?_eq_getElem h,dz h]; rfl
theorem ka (l:List RT):∀ n,n≤l.length→(∀ k,k+1 < n→gt l (k+1)≠gt l k)→lx l n=l.take n
 | 0,_,_=>by simp[lx]
 | n+1,h,hd=>by
  rw[lx,if_neg,ka l n (by omega) fun k hk=>hd k (by omega),ma l (by omega)];rintro⟨h0,e⟩;have:=hd (n-1) (by omega);rw[show n-1+1=n by omega]at this;exact this e
theorem vS (l:List RT):∀ n,(lx l n).length≤n
 | 0=>by simp[lx]
 | n+1=>by have:=vS l n; rw[lx]; split <;> simp <;> omega
theorem mb (l:List RT):∀ n,∀ x,x∈lx l n↔∃ k,k < n∧gt l k=x
 | 0,x=>by simp[lx]
 | n+1,x=>by
  rw[lx];split
  ·rename_i h;rw[mb l n];constructor
   ·rintro⟨k,hk,e⟩; exact⟨k,by omega,e⟩
   ·rintro⟨k,hk,e⟩;by_cases hkn:k=n
    ·subst hkn; exact⟨k-1,by omega,by rw[← h.2]; exact e⟩
    ·exact⟨k,by omega,e⟩
  ·rw[List.mem_append,mb l n,List.mem_singleton];constructor
   ·rintro(⟨k,hk,e⟩ | e)
    ·exact⟨k,by omega,e⟩
    ·exact⟨n,by omega,e.symm⟩
   ·rintro⟨k,hk,e⟩;by_cases hkn:k=n
    ·subst hkn; exact .inr e.symm
    ·exact .inl ⟨k,by omega,e⟩
theorem AF {α:Type}(l:List α)(w n:Nat)(z:α)(h:w≤l.length):(nS l w n z).take w=l.take w:=by
 unfold nS;rw[List.take_append_of_le_length (by simp; omega),List.take_take,Nat.min_self]
theorem DA {α:Type}(l:List α)(w n:Nat)(z:α)(h:w+n≤l.length):(nS l w n z).length=l.length:=by
 unfold nS; simp; omega
theorem AG (l:List RT){r:Nat}(hr:0 < r)(hl:r < l.length)(h1000:l.length≤1000)(he:gt l r=gt l (r-1))(hd:∀ k,k+1 < r→gt l (k+1)≠gt l k):
  ∃ y,zq ((r:Int),(r:Int),((l.length-r:Nat):Int),1,l)=some y∧∃ w l1,y=(((w:Nat):Int),l1)∧l1.length=l.length∧w≤l.length∧l1.take w=lx l l.length:=by
 refine cO (l.length-r-1) (fun t s=>∃ w l1,s=(((w:Nat):Int),(r:Int),((l.length-r:Nat):Int),((t+1:Nat):Int),l1)∧l1.length=l.length∧w≤r+t∧l1.take w=lx l (r+t+1)∧∀ k,w≤k→gt l1 k=gt l k) _
  ⟨r,l,rfl,rfl,by omega,?_,fun _ _=>rfl⟩ (by omega) ?_ ?_
 ·show l.take r=lx l (r+0+1);rw[Nat.add_zero,lx,if_pos ⟨hr,he⟩,ka l r (by omega) hd]
 ·rintro t s ht ⟨w,l1,rfl,h1,h2,h3,h4⟩;have q:((t+1:Nat):Int)-1=((t:Nat):Int):=by omega
  have v1:=h4 (r+(t+1)) (by omega);have v2:=h4 (r+t) (by omega);simp only[u5,zp,uN,Int.toNat_natCast,aw (show t+1 < l.length-r by omega),cond_true,am (show t+1 < l.length-r by omega),q,am (show t < l.length-r by omega),ay (show(0:Int)≤((t:Nat):Int)by omega) (by omega),az,yG,OT,v1,v2,
   am (show w < l1.length by omega),aC (show w < 9223372036854775807 by omega),aC (show t+1 < 9223372036854775807 by omega)]
  have e0:lx l (r+(t+1)+1)=if 0 < r+(t+1)∧gt l (r+(t+1))=gt l (r+t)then lx l (r+t+1)else lx l (r+t+1)++[gt l (r+(t+1))]:=rfl;by_cases e:gt l (r+(t+1))=gt l (r+t)
  ·simp only[e,decide_true,Bool.not_true,cond_false];exact⟨_,rfl,w,l1,rfl,h1,by omega,by rw[e0,if_pos ⟨by omega,e⟩]; exact h3,h4⟩
  ·simp only[e,decide_false,Bool.not_false,cond_true];refine⟨_,rfl,w+1,l1.set w (gt l (r+(t+1))),by simp only[aR],by simpa using h1,by omega,?_,fun k hk=>?_⟩
   ·rw[e0,if_neg fun h=>e h.2,← h3,ma _ (by simp; omega),kV _ _ _ _ (by omega),if_pos rfl];congr 1;exact List.take_set_of_le (Nat.le_refl _)
   ·rw[kV _ _ _ _ (by omega),if_neg (by omega)]; exact h4 k (by omega)
 ·rintro s ⟨w,l1,rfl,h1,h2,h3,h4⟩;have q:l.length-r-1+1=l.length-r:=by omega
  simp only[u5,zp,uN,Int.toNat_natCast,q,aE,cond_false];refine⟨_,rfl,w,l1,rfl,h1,by omega,?_⟩;rw[h3]; congr 1; omega
theorem IY (l:List RT)(hl:l.length≤1000):P80 l=some (lx l l.length):=by
 by_cases hs:l.length < 2
 ·have d:decide ((l.length:Int) < 2)=true:=by simp; omega
  simp only[P80,Oc,K5,d,cond_true];rw[ka l l.length (Nat.le_refl _) (fun k hk=>by omega),List.take_length]
 have d:decide ((l.length:Int) < 2)=false:=by simp; omega
 have h:=c8 (step:=fun x=>uP x.1 x.2) (l.length-1) (fun k=>(((k+1:Nat):Int),l)) (fun k=>decide (gt l (k+1)=gt l k)) (fun _=>.inl (lx l l.length)) (.inr l)
  (fun k hk hp=>by
   have q:((k+1:Nat):Int)-1=((k:Nat):Int):=by omega
   simp only[u2,uP,uO,aw (show k+1 < l.length by omega),cond_true,am (show k+1 < l.length by omega),am (show k < l.length by omega),q,ay (show(0:Int)≤((k:Nat):Int)by omega) (by omega),az,aP,OT,aC (show k+1 < 9223372036854775807 by omega)];by_cases e:gt l (k+1)=gt l k
   ·have hd:∀ j,j+1 < k+1→gt l (j+1)≠gt l j:=fun j hj=>by simpa using hp j (by omega)
    obtain⟨y,y1,w,l1,rfl,y2,y3,y4⟩:=AG l (r:=k+1) (by omega) (by omega) hl e hd;have c1:(l.length:Int)-((k+1:Nat):Int)=((l.length-(k+1):Nat):Int):=by omega
    have c2:(l1.length:Int)-(w:Int)=((l1.length-w:Nat):Int):=by omega
    have b1:decide ((0:Int)≤((k+1:Nat):Int))=true:=by simp; omega
    have b2:decide (((k+1:Nat):Int)≤(l.length:Int))=true:=by simp; omega
    have b3:∀ n:Nat,decide ((n:Int)≤(n:Int))=true:=fun n=>by simp
    have b4:decide (0 < l.length)=true:=by simp; omega
    have b5:decide ((0:Int)≤(w:Int))=true:=by simp
    have b6:decide ((w:Int)≤(l1.length:Int))=true:=by simp; omega
    have b7:decide (0 < l1.length)=true:=by simp; omega
    simp only[e,decide_true,cond_true,b1,b2,b3,b4,az,c1,Int.toNat_natCast,y1,aa,b5,b6,b7,c2,DA l1 w (l1.length-w) _ (by omega),AF l1 w _ _ (by omega),y4]
   ·simp only[e,decide_false,cond_false]; rfl)
  (fun _=>by
   have d2:decide (((l.length-1+1:Nat):Int) < (l.length:Int))=false:=by simp; omega
   simp only[u2,uP,uO,d2,cond_false]) (by omega)
 rcases h with⟨k,hk,h1,h2,h3⟩ | ⟨h2,h3⟩
 ·have e:uQ (1,l)=some (.inl (lx l l.length)):=h3;simp only[P80,Oc,K5,d,cond_false,e,aa,fQ]
 ·have e:uQ (1,l)=some (.inr l):=h3;simp only[P80,Oc,K5,d,cond_false,e,aa,bW];rw[ka l l.length (Nat.le_refl _) (fun k hk=>by simpa using h2 k (by omega)),List.take_length]
theorem IZ (l:List RT)(hl:l.length≤1000):P77 l=some l:=by
 have:bD 48 (([]:List RT).length+l.length)=true:=ci (by simp; omega);simp only[P77,SQ,PR,this,az,List.nil_append];cases hl:decide (l.length=0)
 ·rfl
 ·have:l=[]:=by simpa using hl
  subst this; simp[B1]
def I0 (x y:RT):Int:=IntKind.wrap .i64 (x.1-y.1)
theorem I1 (x y:RT):P79 (x,y)=some (I0 x y):=rfl
def rM (x:RT):Int:=x.1
def AH (l:List RT):Prop:=∀ r∈l,0≤r.1∧r.1≤99
theorem XS {l:List RT}(h:AH l):Srt78.Gd I0 rM l:=fun x hx y hy=>by
 have h1:=h x hx;have h2:=h y hy;have:=cF (n:=x.1-y.1) (by omega) (by omega);rw[ah,decide_eq_true_eq]at this;unfold I0 rM;rw[this]; omega
def NC (l:List RT):Prop:=∀ x∈l,∀ y∈l,x.1=y.1→x=y
def I2 (l:List RT):Bool:=be (l.length-1) fun k=>!(decide ((gt l (k+1)).1=(gt l k).1)&&!decide (gt l (k+1)=gt l k))
theorem vT {l:List RT}(hs:Sd rM l 0 l.length):I2 l=true↔NC l:=by
 unfold I2;rw[aK];constructor
 ·intro h;have key:∀ d i,i+d < l.length→(gt l i).1=(gt l (i+d)).1→gt l i=gt l (i+d):=by
   intro d
   induction d with
   | zero=>intro i _ _; rfl
   | succ d ih=>
    intro i hi he;have a1:=hs.le (Nat.zero_le i) (show i≤i+d by omega) (by omega);have a2:=hs.le (Nat.zero_le (i+d)) (show i+d≤i+(d+1)by omega) (by omega);unfold rM at a1 a2;have e1:=ih i (by omega) (by omega);have e2:=h (i+d) (by omega);rw[e1];have e3:(gt l (i+d+1)).1=(gt l (i+d)).1:=by rw[show i+d+1=i+(d+1)by omega]; omega
    simp only[e3,decide_true,Bool.true_and,Bool.not_not,decide_eq_true_eq]at e2;exact e2.symm
  intro x hx y hy e;obtain⟨i,hi,rfl⟩:=dR hx;obtain⟨j,hj,rfl⟩:=dR hy;rcases Nat.le_total i j with hij | hij
  ·have:=key (j-i) i (by omega);rw[show i+(j-i)=j by omega]at this;exact this e
  ·have:=key (i-j) j (by omega);rw[show j+(i-j)=i by omega]at this;exact(this e.symm).symm
 ·intro h k hk;by_cases e:(gt l (k+1)).1=(gt l k).1
  ·simp[h _ (bF (show k+1 < l.length by omega)) _ (bF (show k < l.length by omega)) e]
  ·simp[e]
def NL (l:List RT):Prop:=l.Pairwise fun x y=>x.1 < y.1
theorem vU {l:List RT}(hs:Sd rM l 0 l.length)(hn:NC l):∀ n,n≤l.length→NL (lx l n)
 | 0,_=>by simp[lx,NL]
 | n+1,h=>by
  have ih:=vU hs hn n (by omega);rw[lx];split
  ·exact ih
  ·rename_i hne;unfold NL;rw[List.pairwise_append];refine⟨ih,by simp,fun x hx y hy=>?_⟩;rw[List.mem_singleton]at hy;subst hy;obtain⟨k,hk,rfl⟩:=(mb l n x).1 hx;have a1:=hs.le (Nat.zero_le k) (show k≤n-1 by omega) (by omega);have a2:=hs.le (Nat.zero_le (n-1)) (show n-1≤n by omega) (by omega);unfold rM at a1 a2;rcases Int.lt_or_le (gt l k).1 (gt l n).1 with hlt | hge
   ·exact hlt
   ·exact absurd ⟨by omega,hn _ (bF (show n < l.length by omega)) _ (bF (show n-1 < l.length by omega)) (by omega)⟩ hne
theorem AI (l:List RT)(hl:l.length≤1000):∃ v l',P56 l=some (v,l')∧l'.length≤l.length∧(AH l→(v=true↔NC l)∧(v=true→NL l'∧∀ x,x∈l'↔x∈l)):=by
 obtain⟨s,s1,s2,s3⟩:=Srt78.srt I1 (K:=rM) l (by omega);have hsl:=s2.len;have e0:zu (1,s)=some (cond (I2 s) (.inr s) (.inl (false,s))):=by
  refine bS (s.length-1) (fun k=>(((k+1:Nat):Int),s)) (fun k=>!(decide ((gt s (k+1)).1=(gt s k).1)&&!decide (gt s (k+1)=gt s k))) _ _ (fun k hk=>?_) ?_ (by omega)
  ·have q:((k+1:Nat):Int)-1=((k:Nat):Int):=by omega
   simp only[u2,zt,uR,aw (show k+1 < s.length by omega),cond_true,am (show k+1 < s.length by omega),am (show k < s.length by omega),q,ay (show(0:Int)≤((k:Nat):Int)by omega) (by omega),az,aP,OT,aC (show k+1 < 9223372036854775807 by omega)];cases decide ((gt s (k+1)).1=(gt s k).1)
   ·rfl
   cases decide (gt s (k+1)=gt s k) <;> rfl
  ·have d2:decide (((s.length-1+1:Nat):Int) < (s.length:Int))=false:=by simp; omega
   simp only[u2,zt,uR,d2,cond_false]
 have hfin:P56 l=some (I2 s,cond (I2 s) (lx s s.length) []):=by
  simp only[P56,SZ,Qe,IZ l hl,aa,s1,e0];cases I2 s
  ·rfl
  ·simp only[cond_true,aa,bW,IY s (by omega)]
 refine⟨_,_,hfin,?_,fun hi=>?_⟩
 ·have:=vS s s.length;cases I2 s <;> simp <;> omega
 ·have hs:Sd rM s 0 s.length:=by rw[hsl]; exact s3 (XS hi)
  have hnc:NC s↔NC l:=by
   unfold NC;constructor
   ·exact fun h x hx y hy=>h x (s2.perm.mem_iff.2 hx) y (s2.perm.mem_iff.2 hy)
   ·exact fun h x hx y hy=>h x (s2.perm.mem_iff.1 hx) y (s2.perm.mem_iff.1 hy)
  refine⟨(vT hs).trans hnc,fun hv=>?_⟩;rw[hv];refine⟨vU hs ((vT hs).1 hv) _ (Nat.le_refl _),fun x=>?_⟩;show x∈lx s s.length↔x∈l;rw[mb,← s2.perm.mem_iff];exact⟨fun⟨k,hk,e⟩=>e▸bF hk,fun h=>dR h⟩
theorem I3 (l:List CT)(f:Int)(hl:l.length≤1000):(∃ k,k < l.length∧Bl (l,f)=some (k:Int)∧fc l f=some (gt l k))∨(Bl (l,f)=some (-1)∧fc l f=none):=by
 have h:=c8 (step:=fun x=>uo x.1 x.2.1 x.2.2.1 x.2.2.2) l.length (fun k=>(l,f,(l.length:Int),(k:Int))) (fun k=>decide ((gt l k).1=f)) (fun k=>.inl (k:Int)) (.inr ())
  (fun k hk _=>by
   simp only[u2,u4,uo,un,aw hk,cond_true,am hk,az,aP,aC (show k < 9223372036854775807 by omega),aR,Bj,SK,Pm,aa];cases decide ((gt l k).1=f) <;> rfl) (fun _=>by simp only[u4,uo,un,aE,cond_false]) (by omega)
 rcases h with⟨k,hk,h1,h2,h3⟩ | ⟨h2,h3⟩
 ·have e:up (l,f,(l.length:Int),0)=some (.inl (k:Int)):=h3;exact .inl ⟨k,hk,by simp only[u2,Bl,Po,N5,e,aa,fQ],by rw[fc,l8 hk h1 h2]⟩
 ·have e:up (l,f,(l.length:Int),0)=some (.inr ()):=h3;exact .inr ⟨by simp only[u2,Bl,Po,N5,e,aa,bW],by rw[fc,pU h2]⟩
theorem nA (b:BT)(f:Int)(hl:b.2.1.length≤1000):P47 (b,f)=some (IT (fc b.2.1 f)):=by
 rcases I3 b.2.1 f hl with⟨k,hk,h1,h2⟩ | ⟨h1,h2⟩
 ·have d:decide ((k:Int) < 0)=false:=by simp
  simp only[u2,P47,Ps,N6,h1,aa,d,cond_false,am hk,az,aP,h2]; rfl
 ·simp only[u2,P47,Ps,N6,h1,aa,h2]; rfl
theorem I4 (l:List Int)(hl:l.length≤1000):P71 l=some (!(be l.length fun i=>wi (gt l i) 0 1000)):=by
 have h:=c8 (step:=fun x=>ur x.1 x.2.1 x.2.2) l.length (fun k=>(l,(l.length:Int),(k:Int))) (fun k=>!wi (gt l k) 0 1000) (fun k=>.inl (k:Int)) (.inr ())
  (fun k hk _=>by
   simp only[u3,ur,uq,aw hk,cond_true,am hk,az,aP,aC (show k < 9223372036854775807 by omega),aR,P72,SO,PF,tq,aa];cases wi (gt l k) 0 1000 <;> rfl) (fun _=>by simp only[u3,ur,uq,aE,cond_false]) (by omega)
 rcases h with⟨k,hk,h1,h2,h3⟩ | ⟨h2,h3⟩
 ·have e:ut (l,(l.length:Int),0)=some (.inl (k:Int)):=h3;have d:decide ((0:Int)≤(k:Int))=true:=by simp
  have a:(be l.length fun i=>wi (gt l i) 0 1000)=false:=by
   cases q:be l.length fun i=>wi (gt l i) 0 1000
   ·rfl
   ·rw[aK.1 q k hk]at h1; cases h1
  simp only[P71,PL,N9,P85,PH,N8,e,aa,fQ,d,a]; rfl
 ·have e:ut (l,(l.length:Int),0)=some (.inr ()):=h3;have a:(be l.length fun i=>wi (gt l i) 0 1000)=true:=aK.2 fun k hk=>by simpa using h2 k hk
  simp only[P71,PL,N9,P85,PH,N8,e,aa,bW,a]; rfl
theorem I5 (c:CT)(h1:c.2.2.2.1.length≤1000)(h2:c.2.2.2.2.1.length≤1000):P50 c=some (lw c):=by
 have e1:yQ (c.2.2.2.2.1,(c.2.2.2.2.1.length:Int),0,c)=some (cond (okT c.2.2.2.2.1) (.inr c) (.inl (false,c))):=
  bS c.2.2.2.2.1.length (fun k=>(c.2.2.2.2.1,(c.2.2.2.2.1.length:Int),(k:Int),c)) (fun i=>wi (gt c.2.2.2.2.1 i).1 0 10000000&&(wi (gt c.2.2.2.2.1 i).2 0 1000&&(decide (i=0)||decide ((gt c.2.2.2.2.1 (i-1)).1 < (gt c.2.2.2.2.1 i).1)))) _ _ (fun k hk=>by
   simp only[u4,yP,uv,aw hk,cond_true,am hk,az,aP,aC (show k < 9223372036854775807 by omega),aR,qf,tq,aa];cases wi (gt c.2.2.2.2.1 k).1 0 10000000
   ·rfl
   cases wi (gt c.2.2.2.2.1 k).2 0 1000
   ·rfl
   by_cases hk0:k=0
   ·subst hk0; rfl
   ·have q1:decide ((0:Int) < (k:Int))=true:=by simp; omega
    have q2:(k:Int)-1=((k-1:Nat):Int):=by omega
    simp only[q1,q2,Bool.not_true,cond_false,cond_true,ay (show(0:Int)≤((k-1:Nat):Int)by omega) (by omega),az,am (show k-1 < c.2.2.2.2.1.length by omega),aP,Bool.true_and,hk0,decide_false,Bool.false_or];by_cases q3:(gt c.2.2.2.2.1 (k-1)).1 < (gt c.2.2.2.2.1 k).1
    ·have q4:decide ((gt c.2.2.2.2.1 k).1≤(gt c.2.2.2.2.1 (k-1)).1)=false:=by simp; omega
     simp only[q3,q4,decide_true,cond_true,cond_false]
    ·have q4:decide ((gt c.2.2.2.2.1 k).1≤(gt c.2.2.2.2.1 (k-1)).1)=true:=by simp; omega
     simp only[q3,q4,decide_false,cond_true,cond_false]) (by simp only[u4,yP,uv,aE,cond_false]) (by omega)
 have n3:decide ((c.2.2.2.2.1.length:Int)≤4)=decide (c.2.2.2.2.1.length≤4):=by rw[Bool.eq_iff_iff]; simp; omega
 have hv:∀ z:Bool,(decide (0≤c.2.1)&&(decide (c.2.1≤c.2.2.1)&&(decide (c.2.2.1≤99)&&z)))=(decide (c.2.1≤c.2.2.1)&&(wi c.2.1 0 99&&(wi c.2.2.1 0 99&&z))):=fun z=>by
  cases z
  ·simp
  ·rw[Bool.eq_iff_iff]; simp only[Bool.and_eq_true,decide_eq_true_eq,cu,and_true]; omega
 have hk:lw c=(okT c.2.2.2.2.1&&(wi c.2.2.2.1.length 1 6&&(decide (c.2.1≤c.2.2.1)&&(wi c.2.1 0 99&&(wi c.2.2.1 0 99&&((be c.2.2.2.1.length fun i=>wi (gt c.2.2.2.1 i) 0 1000)&&(wi c.1 0 99&&(decide (c.2.2.2.2.1.length≤4)&&(wi c.2.2.2.2.2.1 0 10000000&&(wi c.2.2.2.2.2.2.2.1 0 10000000&&(wi c.2.2.2.2.2.2.1 0 1000&&wi c.2.2.2.2.2.2.2.2 0 100000000))))))))))):=by
  unfold lw;rw[hv];generalize okT c.2.2.2.2.1=x1;generalize (be c.2.2.2.1.length fun i=>wi (gt c.2.2.2.1 i) 0 1000)=x2;generalize wi c.1 0 99=x3;generalize decide (c.2.1≤c.2.2.1)=x4;generalize wi (c.2.2.2.1.length:Int) 1 6=x5;generalize wi c.2.1 0 99=x6;generalize wi c.2.2.1 0 99=x7;generalize decide (c.2.2.2.2.1.length≤4)=x8;cases x1 <;> cases x2 <;> cases x3 <;> cases x4 <;> cases x5 <;> cases x6 <;> cases x7 <;> cases x8 <;> simp
 rw[hk];simp only[P50,SP,PN,e1,aa];cases okT c.2.2.2.2.1
 ·rfl
 simp only[cond_true,bW,gv,qf,tq,I4 _ h1,aa,n3,Bool.not_not];cases wi (c.2.2.2.1.length:Int) 1 6
 ·simp only[cond_false];cases decide (c.2.1≤c.2.2.1)
  ·rfl
  cases wi c.2.1 0 99 <;> rfl
 simp only[cond_true];cases decide (c.2.1≤c.2.2.1)
 ·cases(be c.2.2.2.1.length fun i=>wi (gt c.2.2.2.1 i) 0 1000) <;> rfl
 simp only[cond_true];cases wi c.2.1 0 99
 ·cases(be c.2.2.2.1.length fun i=>wi (gt c.2.2.2.1 i) 0 1000) <;> rfl
 simp only[cond_true];cases(be c.2.2.2.1.length fun i=>wi (gt c.2.2.2.1 i) 0 1000)
 ·cases wi c.2.2.1 0 99 <;> rfl
 cases wi c.2.2.1 0 99
 ·rfl
 cases wi c.1 0 99
 ·rfl
 cases decide (c.2.2.2.2.1.length≤4)
 ·rfl
 cases wi c.2.2.2.2.2.1 0 10000000
 ·rfl
 cases wi c.2.2.2.2.2.2.2.1 0 10000000
 ·rfl
 cases wi c.2.2.2.2.2.2.1 0 1000
 ·rfl
 cases wi c.2.2.2.2.2.2.2.2 0 100000000 <;> rfl
theorem I6 (b:BT)(r:RT)(hb:b.2.1.length≤1000):E2 (b,r)=some (sj b.2.1 r):=by
 have hk:wi r.2.1 1 2=(decide (r.2.1=1)||decide (r.2.1=2)):=by rw[Bool.eq_iff_iff]; simp[wi]; omega
 simp only[u2,E2,S6,Qi,nA b _ hb,gv,qf,aa,sj,hk];cases fc b.2.1 r.2.2.1 with
 | none=>rfl
 | some c=>
  simp only[IT,AD,cond_true];cases wi r.1 0 99
  ·rfl
  cases(decide (r.2.1=1)||decide (r.2.1=2))
  ·rfl
  cases wi r.2.2.2.1 c.2.1 c.2.2.1
  ·rfl
  cases wi r.2.2.2.2.1 0 9
  ·rfl
  cases wi r.2.2.2.2.2 0 10000000 <;> rfl
theorem I7 (b:BT)(l:List RT)(hb:b.2.1.length≤1000)(hl:l.length≤1000):CN (l,b)=some (!(be l.length fun i=>sj b.2.1 (gt l i))):=by
 have h:=c8 (step:=fun x=>uT x.1 x.2.1 x.2.2.1 x.2.2.2) l.length (fun k=>(l,b,(l.length:Int),(k:Int))) (fun k=>!sj b.2.1 (gt l k)) (fun k=>.inl (k:Int)) (.inr ())
  (fun k hk _=>by
   simp only[u2,u4,uT,uS,aw hk,cond_true,am hk,az,aP,aC (show k < 9223372036854775807 by omega),aR,Bn,S7,Qm,I6 b _ hb,aa];cases sj b.2.1 (gt l k) <;> rfl) (fun _=>by simp only[u4,uT,uS,aE,cond_false]) (by omega)
 rcases h with⟨k,hk,h1,h2,h3⟩ | ⟨h2,h3⟩
 ·have e:uU (l,b,(l.length:Int),0)=some (.inl (k:Int)):=h3;have d:decide ((0:Int)≤(k:Int))=true:=by simp
  have a:(be l.length fun i=>sj b.2.1 (gt l i))=false:=by
   cases q:be l.length fun i=>sj b.2.1 (gt l i)
   ·rfl
   ·rw[aK.1 q k hk]at h1; cases h1
  simp only[u2,CN,Qs,Og,E5,Qo,Of,e,aa,fQ,d,a]; rfl
 ·have e:uU (l,b,(l.length:Int),0)=some (.inr ()):=h3;have a:(be l.length fun i=>sj b.2.1 (gt l i))=true:=aK.2 fun k hk=>by simpa using h2 k hk
  simp only[u2,CN,Qs,Og,E5,Qo,Of,e,aa,bW,a]; rfl
theorem AJ {l:List RT}:(∀ i,i < l.length→xd l i=true)↔NC l:=by
 constructor
 ·intro h x hx y hy e;obtain⟨i,hi,rfl⟩:=dR hx;obtain⟨j,hj,rfl⟩:=dR hy;rcases Nat.lt_trichotomy i j with q | q | q
  ·simpa [e]using aK.1 (h j hj) i q
  ·rw[q]
  ·have:=aK.1 (h i hi) j q;simp only[e,decide_true,Bool.true_and,Bool.not_not,decide_eq_true_eq]at this;exact this.symm
 ·intro h i hi;refine aK.2 fun k hk=>?_;by_cases e:(gt l k).1=(gt l i).1
  ·simp[h _ (bF (show k < l.length by omega)) _ (bF hi) e]
  ·simp[e]
theorem kb {c:List CT}{l:List RT}:iJ c l=true↔(∀ r∈l,sj c r=true)∧NC l:=by
 unfold iJ;rw[aK,← AJ];constructor
 ·intro h;exact⟨fun r hr=>by obtain⟨i,hi,rfl⟩:=dR hr; exact(Bool.and_eq_true_iff.1 (h i hi)).1,fun i hi=>(Bool.and_eq_true_iff.1 (h i hi)).2⟩
 ·intro h k hk;exact Bool.and_eq_true_iff.2 ⟨h.1 _ (bF hk),h.2 k hk⟩
theorem AK {c:List CT}{r:RT}(h:sj c r=true):∃ k,fc c r.2.2.1=some k∧AD k r=true:=by
 unfold sj at h;cases e:fc c r.2.2.1 with
 | none=>rw[e]at h; cases h
 | some k=>rw[e]at h; exact⟨k,rfl,h⟩
theorem G0 {c:List CT}{r:RT}(h:sj c r=true):(0≤r.1∧r.1≤99)∧(r.2.1=1∨r.2.1=2)∧(0≤r.2.2.2.2.1∧r.2.2.2.2.1≤9)∧0≤r.2.2.2.2.2∧r.2.2.2.2.2≤10000000:=by
 obtain⟨k,_,h⟩:=AK h;simp only[AD,Bool.and_eq_true,Bool.or_eq_true,decide_eq_true_eq,cu]at h;exact⟨h.1,h.2.1,h.2.2.2.1,h.2.2.2.2⟩
theorem I8 (b:BT)(l:List RT)(hb:b.2.1.length≤1000)(hl:l.length≤1000):P51 (b,l)=some (decide (l.length≤40)&&iJ b.2.1 l):=by
 obtain⟨v,l',h1,_,h2⟩:=AI l hl;have n3:decide ((l.length:Int)≤40)=decide (l.length≤40):=by rw[Bool.eq_iff_iff]; simp; omega
 simp only[u2,P51,S8,Qw,h1,aa,I7 b l hb hl,n3,Bool.not_not];cases ha:be l.length fun i=>sj b.2.1 (gt l i)
 ·have:iJ b.2.1 l=false:=by
   cases q:iJ b.2.1 l
   ·rfl
   ·rw[pV.2 (kb.1 q).1]at ha; cases ha
  rw[this];cases v <;> cases decide (l.length≤40) <;> rfl
 ·have hall:=pV.1 ha;have hi:AH l:=fun r hr=>(G0 (hall r hr)).1;have hv:v=iJ b.2.1 l:=by
   rw[Bool.eq_iff_iff,(h2 hi).1,kb];exact⟨fun h=>⟨hall,h⟩,fun h=>h.2⟩
  rw[hv];cases iJ b.2.1 l <;> cases decide (l.length≤40) <;> rfl
theorem DB (l:List CT)(f:Int)(k:Nat)(hk:k≤l.length):(IT (fc (l.take k) f)).2=!(be k fun i=>!decide ((gt l i).1=f)):=by
 cases h:be k fun i=>!decide ((gt l i).1=f)
 ·obtain⟨i,hi,h1,h2⟩:=gn h;rw[fc,l8 (i:=i) (by simp; omega) (by rw[fg _ _ _ hi]; simpa using h1) (fun j hj=>by rw[fg _ _ _ (by omega)]; simpa using h2 j hj)]; rfl
 ·rw[fc,pU fun j hj=>by
   have:j < k:=by simp at hj; omega
   rw[fg _ _ _ this]; simpa using aK.1 h j this]; rfl
theorem AL (b:BT)(hb:qg b):nr b=some (bO b):=by
 obtain⟨h1,h2,h3⟩:=hb;have e0:zy (b.2.1,(b.2.1.length:Int),0,b)=some (cond (be b.2.1.length fun i=>lw (gt b.2.1 i)&&be i fun k=>!decide ((gt b.2.1 k).1=(gt b.2.1 i).1)) (.inr b) (.inl (80,b))):=
  bS b.2.1.length (fun k=>(b.2.1,(b.2.1.length:Int),(k:Int),b)) (fun i=>lw (gt b.2.1 i)&&be i fun k=>!decide ((gt b.2.1 k).1=(gt b.2.1 i).1)) _ _ (fun k hk=>by
   have hc:=h3 _ (bF hk);have b0:decide ((0:Int)≤0)=true:=by decide
   have b1:decide ((0:Int)≤(k:Int))=true:=by simp
   have b2:decide ((k:Int)≤(b.2.1.length:Int))=true:=by simp; omega
   have ec:Ib b.2.1 0 (k:Int)=b.2.1.take k:=by simp[Ib]
   have e47:P47 ((0,b.2.1.take k,[]),(gt b.2.1 k).1)=some (IT (fc (b.2.1.take k) (gt b.2.1 k).1)):=nA (0,b.2.1.take k,[]) _ (by simp; omega);simp only[u4,zx,uV,aw hk,cond_true,am hk,az,aP,b0,b1,b2,ec,e47,aa,DB b.2.1 _ k (by omega),I5 _ hc.1 hc.2,aC (show k < 9223372036854775807 by omega),aR];cases be k fun i=>!decide ((gt b.2.1 i).1=(gt b.2.1 k).1)
   ·cases lw (gt b.2.1 k) <;> rfl
   cases lw (gt b.2.1 k) <;> rfl) (by simp only[u4,zx,uV,aE,cond_false]) (by omega)
 have n3:decide (6 < (b.2.1.length:Int))=!decide (b.2.1.length≤6):=by rw[Bool.eq_iff_iff]; simp; omega
 simp only[nr,S9,Qy,gv,aa,n3,e0,bO,nY];cases wi b.1 0 500
 ·cases(be b.2.1.length fun i=>lw (gt b.2.1 i)&&be i fun k=>!decide ((gt b.2.1 k).1=(gt b.2.1 i).1)) <;> rfl
 cases decide (b.2.1.length≤6)
 ·cases(be b.2.1.length fun i=>lw (gt b.2.1 i)&&be i fun k=>!decide ((gt b.2.1 k).1=(gt b.2.1 i).1)) <;> rfl
 cases(be b.2.1.length fun i=>lw (gt b.2.1 i)&&be i fun k=>!decide ((gt b.2.1 k).1=(gt b.2.1 i).1))
 ·rfl
 simp only[Bool.not_true,cond_false,cond_true,aa,bW,I8 b _ h1 h2,Bool.and_true];cases(decide (b.2.2.length≤40)&&iJ b.2.1 b.2.2) <;> rfl
def nZ (p:RT→Bool)(a:Option RT)(r:RT):Option RT:=bif p r then(match a with
 | none=>some r
 | some x=>if x.1 < r.1 then some r else some x)else a
def fi (p:RT→Bool)(l:List RT):Option RT:=l.foldl (nZ p) none
theorem AM (p:RT→Bool)(l:List RT)(r:RT):fi p (l++[r])=nZ p (fi p l) r:=by simp[fi]
theorem cB (p:RT→Bool)(l:List RT){t:Nat}(h:t < l.length):fi p (l.take (t+1))=nZ p (fi p (l.take t)) (gt l t):=by rw[ma l h,AM]
theorem eR (p:RT→Bool)(l:List RT):(fi p l=none→∀ r∈l,p r=false)∧∀ x,fi p l=some x→x∈l∧p x=true∧∀ r∈l,p r=true→r.1≤x.1:=by
 have key:∀ n,n≤l.length→(fi p (l.take n)=none→∀ r∈l.take n,p r=false)∧∀ x,fi p (l.take n)=some x→x∈l.take n∧p x=true∧∀ r∈l.take n,p r=true→r.1≤x.1:=by
  intro n
  induction n with
  | zero=>intro _; simp[fi]
  | succ n ih=>
   intro hn;obtain⟨i1,i2⟩:=ih (by omega);rw[cB p l (by omega),ma l (by omega)];unfold nZ;cases hp:p (gt l n)
   ·simp only[cond_false];refine⟨fun h r hr=>?_,fun x hx=>?_⟩
    ·rcases List.mem_append.1 hr with hr | hr
     ·exact i1 h r hr
     ·rw[List.mem_singleton.1 hr]; exact hp
    ·obtain⟨j1,j2,j3⟩:=i2 x hx;refine⟨List.mem_append.2 (.inl j1),j2,fun r hr hpr=>?_⟩;rcases List.mem_append.1 hr with hr | hr
     ·exact j3 r hr hpr
     ·rw[List.mem_singleton.1 hr,hp]at hpr; cases hpr
   ·simp only[cond_true];cases ht:fi p (l.take n)with
    | none=>
     refine⟨fun h=>(by cases h),fun x hx=>?_⟩;obtain rfl:=Option.some.inj hx;refine⟨by simp,hp,fun r hr hpr=>?_⟩;rcases List.mem_append.1 hr with hr | hr
     ·rw[i1 ht r hr]at hpr; cases hpr
     ·rw[List.mem_singleton.1 hr]; exact Int.le_refl _
    | some a=>
     obtain⟨j1,j2,j3⟩:=i2 a ht;by_cases hlt:a.1 < (gt l n).1
     ·simp only[hlt,if_true];refine⟨fun h=>(by cases h),fun x hx=>?_⟩;obtain rfl:=Option.some.inj hx;refine⟨by simp,hp,fun r hr hpr=>?_⟩;rcases List.mem_append.1 hr with hr | hr
      ·have:=j3 r hr hpr; omega
      ·rw[List.mem_singleton.1 hr]; exact Int.le_refl _
     ·simp only[hlt,if_false];refine⟨fun h=>(by cases h),fun x hx=>?_⟩;obtain rfl:=Option.some.inj hx;refine⟨List.mem_append.2 (.inl j1),j2,fun r hr hpr=>?_⟩;rcases List.mem_append.1 hr with hr | hr
      ·exact j3 r hr hpr
      ·rw[List.mem_singleton.1 hr]; omega
 have:=key l.length (Nat.le_refl _)
 rwa [List.take_length]at this
theorem AN {p:RT→Bool}{l l':List RT}(hm:∀ x,x∈l'↔x∈l)(hn:NC l):fi p l'=fi p l:=by
 obtain⟨a1,a2⟩:=eR p l;obtain⟨b1,b2⟩:=eR p l';cases h:fi p l with
 | none=>
  cases h':fi p l' with
  | none=>rfl
  | some x=>have:=a1 h x ((hm x).1 (b2 x h').1); rw[(b2 x h').2.1]at this; cases this
 | some x=>
  obtain⟨c1,c2,c3⟩:=a2 x h;cases h':fi p l' with
  | none=>rw[b1 h' x ((hm x).2 c1)]at c2; cases c2
  | some y=>
   obtain⟨d1,d2,d3⟩:=b2 y h';have e1:=c3 y ((hm y).1 d1) d2;have e2:=d3 x ((hm x).2 c1) c2;rw[hn y ((hm y).1 d1) x c1 (by omega)]
def sumN:Nat→(Nat→Int)→Int
 | 0,_=>0
 | n+1,f=>sumN n f+f n
theorem eT {f g:Nat→Int}:∀ {n:Nat},(∀ k,k < n→f k=g k)→sumN n f=sumN n g
 | 0,_=>rfl
 | n+1,h=>by simp only[sumN]; rw[eT fun k hk=>h k (by omega),h n (by omega)]
theorem iD:∀ n,sumN n (fun _=>0)=0
 | 0=>rfl
 | n+1=>by simp only[sumN,iD n]; rfl
theorem rN {f:Nat→Int}{t:Nat}{c:Int}(h0:f t=0):∀ {n:Nat},t < n→sumN n (fun k=>if k=t then c else f k)=c+sumN n f
 | 0,h=>by omega
 | n+1,h=>by
  simp only[sumN];by_cases e:t=n
  ·subst e;rw[if_pos rfl,h0,eT (g:=f) fun k hk=>if_neg (by omega)]; omega
  ·rw[if_neg (fun h'=>e h'.symm),rN h0 (by omega)]; omega
theorem nB {f:Nat→Int}{c:Int}:∀ {n:Nat},(∀ k,k < n→0≤f k∧f k≤c)→0≤sumN n f∧sumN n f≤c*n
 | 0,_=>by simp[sumN]
 | n+1,h=>by
  have h1:=nB (n:=n) fun k hk=>h k (by omega);have h2:=h n (by omega);have e:c*((n+1:Nat):Int)=c*n+c:=by rw[Int.natCast_add,Int.mul_add,Int.natCast_one,Int.mul_one]
  simp only[sumN];rw[e]; omega
def pA (f w:Int)(r:RT):Bool:=decide (r.2.2.1=f)&&(decide (r.2.2.2.1=w)&&decide (r.2.1=2))
def pT (f w:Int)(t:Nat)(r:RT):Bool:=decide (r.2.2.1=f)&&(decide (r.2.2.2.1=w)&&(!decide (r.2.1=2)&&decide (r.2.2.2.2.1=(t:Int))))
def cv:Option RT→Int
 | some r=>r.2.2.2.2.2
 | none=>0
def rO (l:List RT)(f w:Int):Int:=match fi (pA f w) l with
 | some r=>r.2.2.2.2.2
 | none=>sumN 10 fun t=>cv (fi (pT f w t) l)
def RV (l:List RT):Prop:=NC l∧∀ r∈l,(0≤r.1∧r.1≤99)∧(r.2.1=1∨r.2.1=2)∧(0≤r.2.2.2.2.1∧r.2.2.2.2.1≤9)∧0≤r.2.2.2.2.2∧r.2.2.2.2.2≤10000000
theorem kc {c:List CT}{l:List RT}(h:iJ c l=true):RV l:=⟨(kb.1 h).2,fun r hr=>G0 ((kb.1 h).1 r hr)⟩
theorem tt {l:List RT}{p:RT→Bool}(h:RV l):0≤cv (fi p l)∧cv (fi p l)≤10000000:=by
 cases e:fi p l with
 | none=>exact⟨Int.le_refl _,by decide⟩
 | some r=>exact(h.2 r ((eR p l).2 r e).1).2.2.2
theorem NM {l:List RT}{f w:Int}(h:RV l):0≤rO l f w∧rO l f w≤100000000:=by
 unfold rO;cases e:fi (pA f w) l with
 | none=>
  have:=nB (f:=fun t=>cv (fi (pT f w t) l)) (c:=10000000) (n:=10) fun k _=>tt h;simp only; omega
 | some r=>
  have:=(h.2 r ((eR _ l).2 r e).1).2.2.2;simp only; omega
abbrev MT:=List (List Int×RT)
def WF (m:MT):Prop:=(m.map (·.1)).Nodup∧∀ e∈m,∃ t:Nat,t < 10∧e.1=[(t:Int)]
theorem pg {m:MT}{k:List Int}{r:RT}:(∀ e∈cK m k r,e.1=k∨e.1∈m.map (·.1)):=by
 induction m with
 | nil=>intro e he; simp[cK]at he; left; rw[he]
 | cons a m ih=>
  obtain⟨k',u⟩:=a;intro e he;rw[cK]at he;split at he
  ·rename_i hk;rcases List.mem_cons.1 he with he | he
   ·left; rw[he]
   ·right; exact List.mem_map.2 ⟨e,List.mem_cons_of_mem _ he,rfl⟩
  ·rcases List.mem_cons.1 he with he | he
   ·right; rw[he]; simp
   ·rcases ih e he with h | h
    ·exact .inl h
    ·right; simp only[List.map_cons,List.mem_cons]; exact .inr h
theorem tu {m:MT}{k:List Int}{r:RT}(h:(m.map (·.1)).Nodup):((cK m k r).map (·.1)).Nodup:=by
 induction m with
 | nil=>simp[cK]
 | cons a m ih=>
  obtain⟨k',u⟩:=a;rw[cK];simp only[List.map_cons,List.nodup_cons]at h;split
  ·rename_i hk;subst hk;simp only[List.map_cons,List.nodup_cons]; exact h
  ·rename_i hk;simp only[List.map_cons,List.nodup_cons];refine⟨fun hm=>?_,ih h.2⟩;obtain⟨e,he,h1⟩:=List.mem_map.1 hm;rcases pg e he with h2 | h2
   ·exact hk (h1.symm.trans h2)
   ·exact h.1 (h1▸h2)
theorem AO {m:MT}{k k2:List Int}{r:RT}:bi (cK m k r) k2=if k=k2 then some r else bi m k2:=by
 induction m with
 | nil=>
  by_cases e:k=k2 <;> simp[cK,bi,e]
 | cons a m ih=>
  obtain⟨k',u⟩:=a;rw[cK];split
  ·rename_i hk;subst hk;by_cases e:k'=k2 <;> simp[bi,e]
  ·rename_i hk;by_cases e:k'=k2
   ·subst e;rw[if_neg (fun h=>hk h.symm)]; simp[bi]
   ·have e1:∀ (l:MT),bi ((k',u)::l) k2=bi l k2:=fun l=>by simp[bi,e]
    rw[e1,e1,ih]
theorem AP {m:MT}{k:List Int}{r:RT}:∀ e∈cK m k r,e.2=r∨e∈m:=by
 induction m with
 | nil=>intro e he; simp[cK]at he; left; rw[he]
 | cons a m ih=>
  obtain⟨k',u⟩:=a;intro e he;rw[cK]at he;split at he
  ·rcases List.mem_cons.1 he with he | he
   ·left; rw[he]
   ·right; exact List.mem_cons_of_mem _ he
  ·rcases List.mem_cons.1 he with he | he
   ·right; rw[he]; simp
   ·rcases ih e he with h | h
    ·exact .inl h
    ·exact .inr (List.mem_cons_of_mem _ h)
def n5 (m:MT):Int:=(m.map fun e=>e.2.2.2.2.2.2).sum
theorem vV:∀ {m:MT},WF m→n5 m=sumN 10 fun t=>cv (bi m [(t:Int)])
 | [],_=>(iD 10).symm
 | (k,r)::m,h=>by
  obtain⟨h1,h2⟩:=h;simp only[List.map_cons,List.nodup_cons]at h1;have ih:=vV (m:=m) ⟨h1.2,fun e he=>h2 e (List.mem_cons_of_mem _ he)⟩;obtain⟨t,ht,hk⟩:=h2 (k,r) (by simp);simp only at hk;subst hk;have h0:cv (bi m [(t:Int)])=0:=by
   have:bi m [(t:Int)]=none:=by
    simp only[bi,Option.map_eq_none_iff,List.find?_eq_none,decide_eq_true_eq];exact fun e he h=>h1.1 (List.mem_map.2 ⟨e,he,h⟩)
   rw[this]; rfl
  have e:sumN 10 (fun j=>cv (bi (([(t:Int)],r)::m) [(j:Int)]))=sumN 10 fun j=>if j=t then r.2.2.2.2.2 else cv (bi m [(j:Int)]):=eT fun j hj=>by
   by_cases e:j=t
   ·subst e; rw[if_pos rfl]; simp[bi,cv]
   ·rw[if_neg e];have:decide (([(t:Int)]:List Int)=[(j:Int)])=false:=by simp; omega
    simp only[bi,List.find?_cons,this]
  rw[e,rN h0 ht,← ih]
  simp[n5]
theorem ph {g:Int→(List Int×RT)→Option Int}(hg:g=fun x e=>an (ah .i64 (x+e.2.2.2.2.2.2)) (some (x+e.2.2.2.2.2.2))):∀ (m:MT) (x:Int),(∀ e∈m,0≤e.2.2.2.2.2.2∧e.2.2.2.2.2.2≤10000000)→0≤x→x+10000000*m.length≤1000000000000→du g m x=some (x+n5 m)
 | [],x,_,_,_=>by simp[du,n5]
 | e::m,x,h,h0,h1=>by
  have he:=h e (by simp);simp only[List.length_cons]at h1;have e1:du g (e::m) x=(g x e).bind (du g m):=rfl;have e2:g x e=some (x+e.2.2.2.2.2.2):=by rw[hg]; simp only[ay (show 0≤x+e.2.2.2.2.2.2 by omega) (by omega),az]
  rw[e1,e2,aa,ph hg m _ (fun e' he'=>h e' (List.mem_cons_of_mem _ he')) (by omega) (by omega)];simp only[n5,List.map_cons,List.sum_cons];congr 1; omega
theorem AQ {l l':List Int}(h:l.Perm l'):l.sum=l'.sum:=by
 induction h with
 | nil=>rfl
 | cons x _ ih=>simp[ih]
 | swap x y l=>simp only[List.sum_cons]; omega
 | trans _ _ h1 h2=>exact h1.trans h2
theorem AR {m:MT}(h:∀ e∈m,0≤e.2.2.2.2.2.2∧e.2.2.2.2.2.2≤10000000)(hl:m.length≤10000):rx m 0=some (n5 m):=by
 have key:∀ p:MT,p.Perm m→du (fun x e=>zD x e) p 0=some (n5 m):=fun p hp=>by
  have:=ph (g:=fun x e=>zD x e) rfl p 0 (fun e he=>h e (hp.mem_iff.1 he)) (Int.le_refl _) (by have:=hp.length_eq; omega);rw[this,Int.zero_add];unfold n5;rw[AQ (hp.map _)]
 unfold rx rngF;rw[if_pos fun p hp=>(key p hp).trans (key m (List.Perm.refl _)).symm];exact key m (List.Perm.refl _)
theorem AS {m:MT}{k:List Int}{r:RT}:(cK m k r).length≤m.length+1:=by
 induction m with
 | nil=>simp[cK]
 | cons a m ih=>
  obtain⟨k',u⟩:=a;rw[cK];split
  ·simp
  ·simp; omega
theorem rP {p:RT→Bool}{l:List RT}{t:Nat}(ha:NL l)(ht:t < l.length)(hp:p (gt l t)=true):nZ p (fi p (l.take t)) (gt l t)=some (gt l t):=by
 unfold nZ;rw[hp,cond_true];cases e:fi p (l.take t)with
 | none=>rfl
 | some a=>
  obtain⟨i,hi,h1⟩:=dR ((eR p (l.take t)).2 a e).1;have hi':i < t:=by simp at hi; omega
  rw[fg _ _ _ hi']at h1;have:(gt l i).1 < (gt l t).1:=by
   rw[dz (show i < l.length by omega),dz ht];exact List.pairwise_iff_getElem.1 ha i t (by omega) ht hi'
  rw[h1]at this;simp only[this,if_true]
theorem fj {p:RT→Bool}{a:Option RT}{r:RT}(hp:p r=false):nZ p a r=a:=by simp[nZ,hp]
theorem AT (b:BT)(f w:Int)(hl:b.2.2.length≤1000)(h:RV b.2.2):th (b,f,w)=some (rO b.2.2 f w):=by
 obtain⟨v,l,h1,h2,h3⟩:=AI b.2.2 hl;obtain⟨h4,h5⟩:=h3 fun r hr=>(h.2 r hr).1;obtain⟨ha,hm⟩:=h5 (h4.2 h.1);have hv:∀ r∈l,(0≤r.1∧r.1≤99)∧(r.2.1=1∨r.2.1=2)∧(0≤r.2.2.2.2.1∧r.2.2.2.2.1≤9)∧0≤r.2.2.2.2.2∧r.2.2.2.2.2≤10000000:=fun r hr=>h.2 r ((hm r).1 hr);obtain⟨y,y1,au,m,rfl,ym1,ym2,ym3,ym4,ym5⟩:∃ y,L42_0 (f,w,none,(l.length:Int),0,[],l)=some y∧∃ (au:Option RT) (m:MT),y=(au,m,l)∧au=fi (pA f w) l∧WF m∧(∀ t,bi m [((t:Nat):Int)]=fi (pT f w t) l)∧(∀ e∈m,e.2∈l)∧m.length≤l.length:=by
  refine cO l.length (fun t s=>∃ (au:Option RT) (m:MT),s=(f,w,au,(l.length:Int),(t:Int),m,l)∧au=fi (pA f w) (l.take t)∧WF m∧(∀ u,bi m [((u:Nat):Int)]=fi (pT f w u) (l.take t))∧(∀ e∈m,e.2∈l)∧m.length≤t) _
   ⟨none,[],rfl,rfl,⟨by simp,by simp⟩,fun u=>rfl,by simp,by simp⟩ (by omega) ?_ ?_
  ·rintro t s ht ⟨au,m,rfl,m1,m2,m3,m4,m5⟩;have hr:=hv _ (bF ht);simp only[u7,zB,uW,aw ht,cond_true,am ht,az,aP,aC (show t < 9223372036854775807 by omega)];by_cases g1:(gt l t).2.2.1=f
   ·by_cases g2:(gt l t).2.2.2.1=w
    ·by_cases g3:(gt l t).2.1=2
     ·simp only[g1,g2,g3,decide_true,Bool.not_true,cond_false,cond_true];refine⟨_,rfl,_,m,rfl,?_,m2,fun u=>?_,m4,by omega⟩
      ·rw[cB _ _ ht,rP ha ht (by simp[pA,g1,g2,g3])]
      ·rw[cB _ _ ht,fj (by simp[pT,g3]),m3]
     ·simp only[g1,g2,g3,decide_true,decide_false,Bool.not_true,cond_false,cond_true];obtain⟨u,hu⟩:∃ u:Nat,(gt l t).2.2.2.2.1=(u:Int):=⟨(gt l t).2.2.2.2.1.toNat,by omega⟩;refine⟨_,rfl,au,_,rfl,?_,⟨tu m2.1,fun e he=>?_⟩,fun u'=>?_,fun e he=>?_,?_⟩
      ·rw[cB _ _ ht,fj (by simp[pA,g3]),m1]
      ·rcases pg e he with h | h
       ·exact⟨u,by omega,by rw[h,hu]⟩
       ·obtain⟨e',he',h'⟩:=List.mem_map.1 h;rw[← h']; exact m2.2 e' he'
      ·rw[AO,hu,cB _ _ ht];by_cases e:u=u'
       ·subst e;rw[if_pos rfl,rP ha ht (by simp[pT,g1,g2,g3,hu])]
       ·have e':¬ ([(u:Int)]=[(u':Int)]):=by simp; omega
        rw[if_neg e',fj (by simp[pT,hu]; intros; omega),m3]
      ·rcases AP e he with h | h
       ·rw[h]; exact bF ht
       ·exact m4 e h
      ·have:=AS (m:=m) (k:=[(gt l t).2.2.2.2.1]) (r:=gt l t); omega
    ·simp only[g1,g2,decide_true,decide_false,Bool.not_true,Bool.not_false,cond_false,cond_true];refine⟨_,rfl,_,m,rfl,?_,m2,fun u=>?_,m4,by omega⟩
     ·rw[cB _ _ ht,fj (by simp[pA,g2]),m1]
     ·rw[cB _ _ ht,fj (by simp[pT,g2]),m3]
   ·simp only[g1,decide_false,Bool.not_false,cond_true];refine⟨_,rfl,_,m,rfl,?_,m2,fun u=>?_,m4,by omega⟩
    ·rw[cB _ _ ht,fj (by simp[pA,g1]),m1]
    ·rw[cB _ _ ht,fj (by simp[pT,g1]),m3]
  ·rintro s ⟨au,m,rfl,m1,m2,m3,m4,m5⟩;simp only[u7,zB,uW,aE,cond_false];rw[List.take_length]at m1;exact⟨_,rfl,au,m,rfl,m1,m2,fun u=>by rw[m3,List.take_length],m4,m5⟩
 have e2:rx m 0=some (n5 m):=AR (fun e he=>(hv _ (ym4 e he)).2.2.2) (by omega);have q1:au=fi (pA f w) b.2.2:=ym1.trans (AN hm h.1);have q2:n5 m=sumN 10 fun t=>cv (fi (pT f w t) b.2.2):=by
  rw[vV ym2];exact eT fun k _=>by rw[ym3,AN hm h.1]
 simp only[u3,th,Td,QE,h1,aa,y1,e2,q2,rO,← q1];cases au <;> rfl
def IX (p:RT→Bool)(l:List RT)(t:Nat)(a:Int):Prop:=(a = -1∧fi p (l.take t)=none)∨∃ j:Nat,a=(j:Int)∧j < t∧fi p (l.take t)=some (gt l j)
theorem ly {p:RT→Bool}{l:List RT}{t:Nat}{a:Int}(h:IX p l t a)(ht:t < l.length)(hp:p (gt l t)=false):IX p l (t+1) a:=by
 unfold IX;rw[cB _ _ ht,fj hp];rcases h with h | ⟨j,h1,h2,h3⟩
 ·exact .inl h
 ·exact .inr ⟨j,h1,by omega,h3⟩
theorem IX_new {p:RT→Bool}{l:List RT}{t:Nat}{a:Int}(h:IX p l t a)(ht:t < l.length)(hp:p (gt l t)=true)(hn:a < 0∨∃ j:Nat,a=(j:Int)∧(gt l j).1 < (gt l t).1):IX p l (t+1) (t:Int):=by
 refine .inr ⟨t,rfl,by omega,?_⟩;rw[cB _ _ ht];unfold nZ;rw[hp,cond_true];rcases h with⟨h1,h2⟩ | ⟨j,h1,h2,h3⟩
 ·rw[h2]
 ·rw[h3];rcases hn with hn | ⟨j',h4,h5⟩
  ·omega
  ·obtain rfl:j=j':=by omega
   simp only[h5,if_true]
theorem AU {p:RT→Bool}{l:List RT}{t j:Nat}(h:IX p l t (j:Int))(ht:t < l.length)(hp:p (gt l t)=true)(hn:¬ (gt l j).1 < (gt l t).1):IX p l (t+1) (j:Int):=by
 rcases h with⟨h1,h2⟩ | ⟨j',h1,h2,h3⟩
 ·omega
 ·obtain rfl:j=j':=by omega
  refine .inr ⟨j,rfl,by omega,?_⟩;rw[cB _ _ ht];unfold nZ;rw[hp,cond_true,h3];simp only[hn,if_false]
theorem AW (b:BT)(f w:Int):∃ y,L76_0 (f,w,-1,0,b,gB 10 0)=some y∧∃ la,y=(f,w,-1,b,la)∧la.length=10∧∀ k,k < 10→gt la k = -1:=by
 refine cO 10 (fun t s=>∃ la:List Int,s=(f,w,-1,(t:Int),b,la)∧la.length=10∧∀ k,k < t→gt la k = -1) _ ⟨gB 10 0,rfl,rfl,fun k hk=>by omega⟩ (by omega) ?_ ?_
 ·rintro t s ht ⟨la,rfl,h1,h2⟩;have d:decide ((t:Int) < 10)=true:=by simp; omega
  simp only[u6,Gs,Ak,d,cond_true,am (show t < la.length by omega),am ht,az,aC (show t < 9223372036854775807 by omega),Int.toNat_natCast];refine⟨_,rfl,_,rfl,by simpa using h1,fun k hk=>?_⟩;rw[kV _ _ _ _ (by omega)];by_cases e:t=k
  ·rw[if_pos e]
  ·rw[if_neg e]; exact h2 k (by omega)
 ·rintro s ⟨la,rfl,h1,h2⟩;exact⟨_,rfl,la,rfl,h1,h2⟩
theorem I9 (b:BT)(f w:Int)(hl:b.2.2.length≤1000)(h:RV b.2.2):Gw (b,f,w)=some (rO b.2.2 f w):=by
 obtain⟨y,y1,la0,rfl,z1,z2⟩:=AW b f w;obtain⟨y',y2,au,la,rfl,a1,a2,a3⟩:∃ y,L76_1 (f,w,-1,0,b,la0)=some y∧∃ au la,y=(au,b,la)∧la.length=10∧IX (pA f w) b.2.2 b.2.2.length au∧∀ k,k < 10→IX (pT f w k) b.2.2 b.2.2.length (gt la k):=by
  refine cO b.2.2.length (fun t s=>∃ au la,s=(f,w,au,(t:Int),b,la)∧la.length=10∧IX (pA f w) b.2.2 t au∧∀ k,k < 10→IX (pT f w k) b.2.2 t (gt la k)) _
   ⟨-1,la0,rfl,z1,.inl ⟨rfl,rfl⟩,fun k hk=>.inl ⟨z2 k hk,rfl⟩⟩ (by omega) ?_ ?_
  ·rintro t s ht ⟨au,la,rfl,m1,m2,m3⟩;have hr:=h.2 _ (bF ht);simp only[u6,Al,vF,aw ht,cond_true,am ht,az,aP,aC (show t < 9223372036854775807 by omega)];by_cases g1:(gt b.2.2 t).2.2.1=f
   ·by_cases g2:(gt b.2.2 t).2.2.2.1=w
    ·by_cases g3:(gt b.2.2 t).2.1=2
     ·simp only[g1,g2,g3,decide_true,Bool.not_true,cond_false,cond_true];have hp:pA f w (gt b.2.2 t)=true:=by simp[pA,g1,g2,g3]
      have hT:∀ k,k < 10→IX (pT f w k) b.2.2 (t+1) (gt la k):=fun k hk=>ly (m3 k hk) ht (by simp[pT,g3]);rcases m2 with⟨c1,c2⟩ | ⟨j,c1,c2,c3⟩
      ·subst c1;exact⟨_,rfl,_,la,rfl,m1,IX_new (.inl ⟨rfl,c2⟩) ht hp (.inl (by decide)),hT⟩
      ·subst c1;have d:decide ((j:Int) < 0)=false:=by simp
       simp only[d,cond_false,am (show j < b.2.2.length by omega),az,aP];by_cases g4:(gt b.2.2 j).1 < (gt b.2.2 t).1
       ·simp only[g4,decide_true,cond_true];exact⟨_,rfl,_,la,rfl,m1,IX_new (.inr ⟨j,rfl,c2,c3⟩) ht hp (.inr ⟨j,rfl,g4⟩),hT⟩
       ·simp only[g4,decide_false,cond_false];exact⟨_,rfl,_,la,rfl,m1,AU (.inr ⟨j,rfl,c2,c3⟩) ht hp g4,hT⟩
     ·obtain⟨u,hu⟩:∃ u:Nat,(gt b.2.2 t).2.2.2.2.1=(u:Int):=⟨(gt b.2.2 t).2.2.2.2.1.toNat,by omega⟩;have hu9:u < 10:=by omega
      have hA:=ly m2 ht (p:=pA f w) (by simp[pA,g3]);have hp:pT f w u (gt b.2.2 t)=true:=by simp[pT,g1,g2,g3,hu]
      have hset:∀ x:Int,IX (pT f w u) b.2.2 (t+1) x→∀ k,k < 10→IX (pT f w k) b.2.2 (t+1) (gt (la.set u x) k):=fun x hx k hk=>by
       rw[kV _ _ _ _ (by omega)];by_cases e:u=k
       ·subst e; rw[if_pos rfl]; exact hx
       ·rw[if_neg e]; exact ly (m3 k hk) ht (by simp[pT,hu]; intros; omega)
      simp only[g1,g2,g3,hu,decide_true,decide_false,Bool.not_true,cond_false,cond_true,am hu9,am (show u < la.length by omega),az,aP,Int.toNat_natCast];rcases m3 u hu9 with⟨c1,c2⟩ | ⟨j,c1,c2,c3⟩
      ·have d:decide (gt la u < 0)=true:=by rw[c1]; decide
       simp only[d,cond_true];exact⟨_,rfl,au,_,rfl,by simpa using m1,hA,hset _ (IX_new (m3 u hu9) ht hp (.inl (by rw[c1]; decide)))⟩
      ·have d:decide ((j:Int) < 0)=false:=by simp
       simp only[c1,d,cond_false,am (show j < b.2.2.length by omega),az,aP];by_cases g4:(gt b.2.2 j).1 < (gt b.2.2 t).1
       ·simp only[g4,decide_true,cond_true];exact⟨_,rfl,au,_,rfl,by simpa using m1,hA,hset _ (IX_new (m3 u hu9) ht hp (.inr ⟨j,c1,g4⟩))⟩
       ·simp only[g4,decide_false,cond_false];refine⟨_,rfl,au,la,rfl,m1,hA,fun k hk=>?_⟩;by_cases e:u=k
        ·subst e; rw[c1]; exact AU (.inr ⟨j,rfl,c2,c3⟩) ht hp g4
        ·exact ly (m3 k hk) ht (by simp[pT,hu]; intros; omega)
    ·simp only[g1,g2,decide_true,decide_false,Bool.not_true,Bool.not_false,cond_false,cond_true];exact⟨_,rfl,au,la,rfl,m1,ly m2 ht (by simp[pA,g2]),fun k hk=>ly (m3 k hk) ht (by simp[pT,g2])⟩
   ·simp only[g1,decide_false,Bool.not_false,cond_true];exact⟨_,rfl,au,la,rfl,m1,ly m2 ht (by simp[pA,g1]),fun k hk=>ly (m3 k hk) ht (by simp[pT,g1])⟩
  ·rintro s ⟨au,la,rfl,m1,m2,m3⟩;simp only[u6,Al,vF,aE,cond_false];exact⟨_,rfl,au,la,rfl,m1,m2,m3⟩
 have hlast:∀ k,k < 10→(gt la k = -1∧fi (pT f w k) b.2.2=none)∨∃ j:Nat,gt la k=(j:Int)∧j < b.2.2.length∧fi (pT f w k) b.2.2=some (gt b.2.2 j):=fun k hk=>by
  have:=a3 k hk;unfold IX at this
  rwa [List.take_length]at this
 have e3:∃ y,An (0,0,b,la)=some y∧y.1=sumN 10 fun t=>cv (fi (pT f w t) b.2.2):=by
  refine cO 10 (fun t s=>s=(sumN t fun t=>cv (fi (pT f w t) b.2.2),(t:Int),b,la)) _ rfl (by omega) ?_ ?_
  ·rintro t s ht rfl;have d:decide ((t:Int) < 10)=true:=by simp; omega
   have hb:=nB (f:=fun t=>cv (fi (pT f w t) b.2.2)) (c:=10000000) (n:=t) fun k _=>tt h;have hb':=tt (p:=pT f w t) h;simp only[u4,Gv,Am,d,cond_true,am (show t < la.length by omega),am ht,az,aC (show t < 9223372036854775807 by omega),aP];rcases hlast t ht with⟨c1,c2⟩ | ⟨j,c1,c2,c3⟩
   ·have d2:decide ((0:Int)≤gt la t)=false:=by rw[c1]; decide
    simp only[d2,cond_false];refine⟨_,rfl,?_⟩;simp only[sumN,c2,cv,Int.add_zero,aR]
   ·have d2:decide ((0:Int)≤(j:Int))=true:=by simp
    rw[c3]at hb';simp only[cv]at hb';simp only[c1,d2,cond_true,am c2,az,aP,ay (show 0≤(sumN t fun t=>cv (fi (pT f w t) b.2.2))+(gt b.2.2 j).2.2.2.2.2 by omega) (by omega)];refine⟨_,rfl,?_⟩;simp only[sumN,c3,cv,aR]
  ·rintro s rfl;exact⟨_,rfl,rfl⟩
 obtain⟨y3,e3,e4⟩:=e3;unfold IX at a2;rw[List.take_length]at a2;simp only[u3,Gw,TG,RR,y1,y2,e3,aa,rO,← e4];rcases a2 with⟨c1,c2⟩ | ⟨j,c1,c2,c3⟩
 ·have d2:decide ((0:Int)≤au)=false:=by rw[c1]; decide
  simp only[d2,cond_false,c2]
 ·have d2:decide ((0:Int)≤(j:Int))=true:=by simp
  simp only[c1,d2,cond_true,am c2,az,aP,c3]
theorem dI {c:CT}(h:lw c=true):(0≤c.1∧c.1≤99)∧0≤c.2.1∧c.2.1≤c.2.2.1∧c.2.2.1≤99∧(1≤(c.2.2.2.1.length:Int)∧(c.2.2.2.1.length:Int)≤6)∧c.2.2.2.2.1.length≤4∧(0≤c.2.2.2.2.2.1∧c.2.2.2.2.2.1≤10000000)∧(0≤c.2.2.2.2.2.2.2.1∧c.2.2.2.2.2.2.2.1≤10000000)∧(0≤c.2.2.2.2.2.2.1∧c.2.2.2.2.2.2.1≤1000)∧(0≤c.2.2.2.2.2.2.2.2∧c.2.2.2.2.2.2.2.2≤100000000)∧(∀ k,k < c.2.2.2.1.length→0≤gt c.2.2.2.1 k∧gt c.2.2.2.1 k≤1000)∧∀ k,k < c.2.2.2.2.1.length→(0≤(gt c.2.2.2.2.1 k).1∧(gt c.2.2.2.2.1 k).1≤10000000)∧0≤(gt c.2.2.2.2.1 k).2∧(gt c.2.2.2.2.1 k).2≤1000:=by
 simp only[lw,okT,Bool.and_eq_true,decide_eq_true_eq,cu,aK]at h;obtain⟨h1,h2,h3,h4,h5,h6,h7,h8,h9,h10,h11,h12⟩:=h;exact⟨h1,h2,h3,h4,h5,h6,h7,h8,h9,h10,h11,fun k hk=>⟨(h12 k hk).1,(h12 k hk).2.1⟩⟩
def mll (net:Int)(t:List (Int×Int))(p:Int):Nat→Int
 | 0=>p
 | n+1=>if(gt t n).1≤net then max (mll net t p n) (gt t n).2 else mll net t p n
def rQ (c:CT)(week net:Int):Int:=mll net c.2.2.2.2.1 (gt c.2.2.2.1 (min (week-c.2.1) (c.2.2.2.1.length-1)).toNat) c.2.2.2.2.1.length
def td (n:Int):Int:=Int.tdiv n 1000
def n6 (c:CT)(week net:Int):Int:=td (net*rQ c week net)
def n7 (c:CT)(net:Int):Int:=td (max 0 (net-c.2.2.2.2.2.1)*c.2.2.2.2.2.2.1)
def nC (c:CT)(week net:Int):Int:=max (max (n6 c week net) (n7 c net)) c.2.2.2.2.2.2.2.1
def DD (c:CT)(week net:Int):Int:=if nC c week net=n6 c week net then 1 else if nC c week net=n7 c net then 2 else 3
def aF (tax gross:Int):Int:=gross-td (gross*tax)
def qo (tax:Int)(c:CT)(week gross:Int):Int:=min (aF tax gross) (nC c week (aF tax gross))
def Bp (tax:Int)(c:CT)(week gross:Int):RT:=(gross,td (gross*tax),aF tax gross,qo tax c week gross,aF tax gross-qo tax c week gross,DD c week (aF tax gross))
theorem nD {n:Int}(h:0≤n):td n=n / 1000:=Int.tdiv_eq_ediv_of_nonneg h
theorem n8 {a b u v:Int}(h1:0≤a)(h2:a≤u)(h3:0≤b)(h4:b≤1000):0≤a*b∧a*b≤1000*u∧0≤td (a*b)∧td (a*b)≤a:=by
 have e1:0≤a*b:=Int.mul_nonneg h1 h3;have e2:a*b≤a*1000:=Int.mul_le_mul_of_nonneg_left h4 h1;rw[nD e1];omega
theorem G1 {net p:Int}{t:List (Int×Int)}(hp:0≤p∧p≤1000)(ht:∀ k,k < t.length→0≤(gt t k).2∧(gt t k).2≤1000):∀ n,n≤t.length→0≤mll net t p n∧mll net t p n≤1000
 | 0,_=>hp
 | n+1,h=>by
  have h1:=G1 (net:=net) hp ht n (by omega);have h2:=ht n (by omega);unfold mll; split <;> omega
structure AOk (tax:Int) (c:CT) (week gross:Int):Prop where
 ok:lw c=true
 t:0≤tax∧tax≤500
 w:c.2.1≤week∧week≤99
 g:0≤gross∧gross≤100000000
theorem AX {c:CT}{week:Int}(h:lw c=true)(hw:c.2.1≤week):0≤min (week-c.2.1) ((c.2.2.2.1.length:Int)-1)∧min (week-c.2.1) ((c.2.2.2.1.length:Int)-1) < c.2.2.2.1.length:=by
 have:=(dI h).2.2.2.2.1;omega
theorem AY {c:CT}{week net:Int}(h:lw c=true)(hw:c.2.1≤week):0≤rQ c week net∧rQ c week net≤1000:=by
 obtain⟨_,_,_,_,h5,_,_,_,_,_,h11,h12⟩:=dI h;have:=AX h hw;exact G1 (h11 _ (by omega)) (fun k hk=>(h12 k hk).2) _ (Nat.le_refl _)
theorem vW {tax gross:Int}(ht:0≤tax∧tax≤500)(hg:0≤gross∧gross≤100000000):0≤aF tax gross∧aF tax gross≤gross:=by
 have:=n8 (u:=100000000) (v:=0) hg.1 hg.2 ht.1 (by omega);unfold aF; omega
theorem Ja {c:CT}{week net:Int}(h:lw c=true)(hw:c.2.1≤week)(hn:0≤net∧net≤100000000):(0≤n6 c week net∧n6 c week net≤100000000)∧(0≤n7 c net∧n7 c net≤100000000)∧0≤nC c week net∧nC c week net≤100000000:=by
 obtain⟨_,_,_,_,_,_,h7,h8,h9,_⟩:=dI h;have m:=AY (net:=net) h hw;have a:=n8 (u:=100000000) (v:=0) hn.1 hn.2 m.1 m.2;have b:=n8 (u:=100000000) (v:=0) (a:=max 0 (net-c.2.2.2.2.2.1)) (b:=c.2.2.2.2.2.2.1) (by omega) (by omega) h9.1 h9.2;unfold nC n6 n7;omega
theorem qi {tax:Int}{c:CT}{week gross:Int}(h:AOk tax c week gross):0≤td (gross*tax)∧td (gross*tax)≤gross∧0≤aF tax gross∧0≤qo tax c week gross∧qo tax c week gross≤aF tax gross∧aF tax gross≤100000000:=by
 have a:=n8 (u:=100000000) (v:=0) h.g.1 h.g.2 h.t.1 (by have:=h.t; omega);have n:=vW h.t h.g;have s:=(Ja (net:=aF tax gross) h.ok h.w.1 (by have:=h.g; omega)).2.2;have:=h.g;unfold qo;omega
theorem Jb (a b c:Int):zF (0,3,[a,b,c])=some (max (max a b) c,[a,b,c]):=by
 have e:uY (0,3,a,1,[a,b,c])=some (max (max a b) c,[a,b,c]):=
  bd (step:=fun x=>uX x.1 x.2.1 x.2.2.1 x.2.2.2.1 x.2.2.2.2) 2 (fun k=>(0,3,(match k with
   | 0=>a
   | 1=>max a b
   | _=>max (max a b) c),((k+1:Nat):Int),[a,b,c])) _ (fun i hi=>by
    match i,hi with
    | 0,_=>exact(by kernel_rfl:uX 0 3 a 1 [a,b,c]=some (.inl (0,3,max a b,2,[a,b,c])))
    | 1,_=>exact(by kernel_rfl:uX 0 3 (max a b) 2 [a,b,c]=some (.inl (0,3,max (max a b) c,3,[a,b,c])))) (by kernel_rfl) (by omega)
 have e2:zF (0,3,[a,b,c])=(uY (0,3,a,1,[a,b,c])).bind fun y1=>some (y1.1,y1.2):=by kernel_rfl
 rw[e2,e]; rfl
theorem Jc (a b c:Int):zI (0,3,max (max a b) c,[a,b,c])=some ((if max (max a b) c=a then 0 else if max (max a b) c=b then 1 else 2),[a,b,c]):=by
 have h:=c8 (step:=fun x=>zH x.1 x.2.1 x.2.2.1 x.2.2.2.1 x.2.2.2.2.1 x.2.2.2.2.2) 3 (fun k=>(0,3,max (max a b) c,3,(k:Int),[a,b,c])) (fun k=>decide (max (max a b) c=gt [a,b,c] k)) (fun k=>.inl ((k:Int),[a,b,c])) (.inr [a,b,c])
  (fun k hk _=>by
   have d:decide ((k:Int) < 3)=true:=by simp; omega
   have d2:aZ (k:Int) (Int.toNat 3)=true:=am hk;simp only[u6,zH,zG,d,cond_true,d2,az,Int.toNat_natCast,yG,aC (show k < 9223372036854775807 by omega),aR,show Int.toNat 0=0 from rfl,Nat.zero_add];cases decide (max (max a b) c=gt [a,b,c] k) <;> rfl) (fun _=>by kernel_rfl) (by omega)
 have e2:zI (0,3,max (max a b) c,[a,b,c])=(uZ (0,3,max (max a b) c,3,0,[a,b,c])).bind fun y1=>Sum.elim (fun y2=>some (y2.1,y2.2)) (fun y3=>some (-1,y3)) y1:=by kernel_rfl
 rw[e2];have g0:gt [a,b,c] 0=a:=rfl;have g1:gt [a,b,c] 1=b:=rfl;have g2:gt [a,b,c] 2=c:=rfl;rcases h with⟨k,hk,h1,h2,h3⟩ | ⟨h2,h3⟩
 ·have e:uZ (0,3,max (max a b) c,3,0,[a,b,c])=some (.inl ((k:Int),[a,b,c])):=h3;rw[e];simp only[aa,fQ]
  match k,hk with
  | 0,_=>
   have:max (max a b) c=a:=by simpa [g0]using h1
   rw[if_pos this]; rfl
  | 1,_=>
   have n0:¬ max (max a b) c=a:=by simpa [g0]using h2 0 (by omega)
   have:max (max a b) c=b:=by simpa [g1]using h1
   rw[if_neg n0,if_pos this]; rfl
  | 2,_=>
   have n0:¬ max (max a b) c=a:=by simpa [g0]using h2 0 (by omega)
   have n1:¬ max (max a b) c=b:=by simpa [g1]using h2 1 (by omega)
   rw[if_neg n0,if_neg n1]; rfl
 ·have n0:¬ max (max a b) c=a:=by simpa [g0]using h2 0 (by omega)
  have n1:¬ max (max a b) c=b:=by simpa [g1]using h2 1 (by omega)
  have n2:¬ max (max a b) c=c:=by simpa [g2]using h2 2 (by omega)
  omega
theorem tv {tax:Int}{c:CT}{week gross:Int}(h:AOk tax c week gross):nL (tax,c,week,gross)=some (Bp tax c week gross):=by
 obtain⟨h1,h2,h3,h4,h5,h6,h7,h8,h9,h10,h11,h12⟩:=dI h.ok;have hw:=h.w;have hg:=h.g;have a:=n8 (u:=100000000) (v:=0) h.g.1 h.g.2 h.t.1 (by have:=h.t; omega);have n:=vW h.t h.g;have ib:=AX h.ok hw.1;have m:=AY (net:=aF tax gross) h.ok hw.1;have s:=n8 (u:=100000000) (v:=0) n.1 (by omega) m.1 m.2;have u:=n8 (u:=100000000) (v:=0) (a:=max 0 (aF tax gross-c.2.2.2.2.2.1)) (b:=c.2.2.2.2.2.2.1) (by omega) (by omega) h9.1 h9.2;have sb:=Ja (net:=aF tax gross) h.ok hw.1 (by omega);have bal:=qi h;obtain⟨i,hi⟩:∃ i:Nat,min (week-c.2.1) ((c.2.2.2.1.length:Int)-1)=(i:Int):=⟨_,(Int.toNat_of_nonneg ib.1).symm⟩;have hi':i < c.2.2.2.1.length:=by omega
 have e0:∀ acc:RT,acc.2.2.1=aF tax gross→zJ (gt c.2.2.2.1 i,c.2.2.2.2.1,(c.2.2.2.2.1.length:Int),0,c,(0,0,0,0,0,0),acc)=some (rQ c week (aF tax gross),c,(0,0,0,0,0,0),acc):=fun acc ha=>by
  have:=bd (step:=fun x=>vd x.1 x.2.1 x.2.2.1 x.2.2.2.1 x.2.2.2.2.1 x.2.2.2.2.2.1 x.2.2.2.2.2.2) c.2.2.2.2.1.length (fun k=>(mll (aF tax gross) c.2.2.2.2.1 (gt c.2.2.2.1 i) k,c.2.2.2.2.1,(c.2.2.2.2.1.length:Int),(k:Int),c,(0,0,0,0,0,0),acc)) (rQ c week (aF tax gross),c,(0,0,0,0,0,0),acc)
   (fun k hk=>by
    simp only[u7,vd,vc,aw hk,cond_true,am hk,az,aP,ha,aC (show k < 9223372036854775807 by omega),aR];by_cases e:(gt c.2.2.2.2.1 k).1≤aF tax gross
    ·simp only[e,decide_true,cond_true,mll,if_true]
    ·simp only[e,decide_false,cond_false,mll,if_false]) (by
    simp only[u7,vd,vc,aE,cond_false,rQ,hi,Int.toNat_natCast]) (by omega)
  exact this
 have hnet:gross-td (gross*tax)=aF tax gross:=rfl;have hS:Int.tdiv (aF tax gross*rQ c week (aF tax gross)) 1000=n6 c week (aF tax gross):=rfl;have hN:Int.tdiv (max 0 (aF tax gross-c.2.2.2.2.2.1)*c.2.2.2.2.2.2.1) 1000=n7 c (aF tax gross):=rfl;have hM:max (max (n6 c week (aF tax gross)) (n7 c (aF tax gross))) c.2.2.2.2.2.2.2.1=nC c week (aF tax gross):=rfl;have hT:Int.tdiv (gross*tax) 1000=td (gross*tax):=rfl;have hsh:min (aF tax gross) (nC c week (aF tax gross))=qo tax c week gross:=rfl;have b3:Nat.beq (gB 3 (0:Int)).length 3=true:=rfl;have l3:∀ x y z:Int,dH 3 [x,y,z].length=true:=fun _ _ _=>rfl;have c3:(((3:Nat):Int))=3:=rfl;have c0:(((0:Nat):Int))=0:=rfl;have hP65:=Jb (n6 c week (aF tax gross)) (n7 c (aF tax gross)) c.2.2.2.2.2.2.2.1;have hP66:=Jc (n6 c week (aF tax gross)) (n7 c (aF tax gross)) c.2.2.2.2.2.2.2.1;rw[hM]at hP65 hP66;have ri:ah .i64 (1+(if nC c week (aF tax gross)=n6 c week (aF tax gross)then(0:Int)else if nC c week (aF tax gross)=n7 c (aF tax gross)then 1 else 2))=true:=ay (by(repeat' split) <;> omega) (by(repeat' split) <;> omega);have rr:1+(if nC c week (aF tax gross)=n6 c week (aF tax gross)then(0:Int)else if nC c week (aF tax gross)=n7 c (aF tax gross)then 1 else 2)=DD c week (aF tax gross):=by
  unfold DD; (repeat' split) <;> rfl
 rw[rr]at ri;simp only[u4,nL,Th,QI,hT,hnet,ay (show 0≤gross*tax by omega) (by omega),ay (show 0≤td (gross*tax)by omega) (by omega),ay (show 0≤aF tax gross by omega) (by omega),ay (show 0≤week-c.2.1 by omega) (by omega),ay (show 0≤(c.2.2.2.1.length:Int)-1 by omega) (by omega),az,hi,am hi',aP];rw[e0 (gross,td (gross*tax),aF tax gross,0,0,0) rfl];simp only[aa,hS,hN,ay (show 0≤aF tax gross*rQ c week (aF tax gross)by omega) (by omega),ay (show 0≤n6 c week (aF tax gross)by omega) (by omega),cF (show -9223372036854775808≤aF tax gross-c.2.2.2.2.2.1 by omega) (by omega),ay (show 0≤max 0 (aF tax gross-c.2.2.2.2.2.1)*c.2.2.2.2.2.2.1 by omega) (by omega),ay (show 0≤n7 c (aF tax gross)by omega) (by omega),az,b3,l3,c3,c0,hP65,hP66,ri,rr,hsh,
  ay (show 0≤aF tax gross-qo tax c week gross by omega) (by omega)]
 rfl
theorem Jd {tax:Int}{c:CT}{week gross:Int}(h:AOk tax c week gross):Gz (tax,c,week,gross)=some (Bp tax c week gross):=by
 obtain⟨h1,h2,h3,h4,h5,h6,h7,h8,h9,h10,h11,h12⟩:=dI h.ok;have hw:=h.w;have hg:=h.g;have a:=n8 (u:=100000000) (v:=0) h.g.1 h.g.2 h.t.1 (by have:=h.t; omega);have n:=vW h.t h.g;have ib:=AX h.ok hw.1;have m:=AY (net:=aF tax gross) h.ok hw.1;have s:=n8 (u:=100000000) (v:=0) n.1 (by omega) m.1 m.2;have u:=n8 (u:=100000000) (v:=0) (a:=max 0 (aF tax gross-c.2.2.2.2.2.1)) (b:=c.2.2.2.2.2.2.1) (by omega) (by omega) h9.1 h9.2;have sb:=Ja (net:=aF tax gross) h.ok hw.1 (by omega);have bal:=qi h;obtain⟨i,hi⟩:∃ i:Nat,min (week-c.2.1) ((c.2.2.2.1.length:Int)-1)=(i:Int):=⟨_,(Int.toNat_of_nonneg ib.1).symm⟩;have hi':i < c.2.2.2.1.length:=by omega
 have e0:∀ acc:RT,acc.2.2.1=aF tax gross→Ao (gt c.2.2.2.1 i,0,c,(0,0,0,0,0,0),acc)=some (rQ c week (aF tax gross),c,(0,0,0,0,0,0),acc):=fun acc ha=>by
  have:=bd (step:=fun x=>vH x.1 x.2.1 x.2.2.1 x.2.2.2.1 x.2.2.2.2) c.2.2.2.2.1.length (fun k=>(mll (aF tax gross) c.2.2.2.2.1 (gt c.2.2.2.1 i) k,(k:Int),c,(0,0,0,0,0,0),acc)) (rQ c week (aF tax gross),c,(0,0,0,0,0,0),acc)
   (fun k hk=>by
    simp only[u5,vH,vG,aw hk,cond_true,am hk,az,aP,ha,aC (show k < 9223372036854775807 by omega),aR];by_cases e:(gt c.2.2.2.2.1 k).1≤aF tax gross
    ·simp only[e,decide_true,cond_true,mll,if_true]
    ·simp only[e,decide_false,cond_false,mll,if_false]) (by
    simp only[u5,vH,vG,aE,cond_false,rQ,hi,Int.toNat_natCast]) (by omega)
  exact this
 have hnet:gross-td (gross*tax)=aF tax gross:=rfl;have hS:Int.tdiv (aF tax gross*rQ c week (aF tax gross)) 1000=n6 c week (aF tax gross):=rfl;have hN:Int.tdiv (max 0 (aF tax gross-c.2.2.2.2.2.1)*c.2.2.2.2.2.2.1) 1000=n7 c (aF tax gross):=rfl;have hM:max (max (n6 c week (aF tax gross)) (n7 c (aF tax gross))) c.2.2.2.2.2.2.2.1=nC c week (aF tax gross):=rfl;have hT:Int.tdiv (gross*tax) 1000=td (gross*tax):=rfl;have hsh:min (aF tax gross) (nC c week (aF tax gross))=qo tax c week gross:=rfl;simp only[u4,Gz,TH,RU,hT,hnet,ay (show 0≤gross*tax by omega) (by omega),ay (show 0≤td (gross*tax)by omega) (by omega),ay (show 0≤aF tax gross by omega) (by omega),ay (show 0≤week-c.2.1 by omega) (by omega),ay (show 0≤(c.2.2.2.1.length:Int)-1 by omega) (by omega),az,hi,am hi',aP];rw[e0 (gross,td (gross*tax),aF tax gross,0,0,0) rfl];simp only[aa,hS,hN,ay (show 0≤aF tax gross*rQ c week (aF tax gross)by omega) (by omega),ay (show 0≤n6 c week (aF tax gross)by omega) (by omega),cF (show -9223372036854775808≤aF tax gross-c.2.2.2.2.2.1 by omega) (by omega),ay (show 0≤max 0 (aF tax gross-c.2.2.2.2.2.1)*c.2.2.2.2.2.2.1 by omega) (by omega),ay (show 0≤n7 c (aF tax gross)by omega) (by omega),az,hM,hsh,
  ay (show 0≤aF tax gross-qo tax c week gross by omega) (by omega)]
 by_cases e1:nC c week (aF tax gross)=n6 c week (aF tax gross)
 ·have d1:decide (nC c week (aF tax gross)=n6 c week (aF tax gross))=true:=by simp[e1]
  have hr:DD c week (aF tax gross)=1:=by unfold DD; rw[if_pos e1]
  simp only[d1,cond_true,Bp,hr]
 ·have d1:decide (nC c week (aF tax gross)=n6 c week (aF tax gross))=false:=by simp[e1]
  by_cases e2:nC c week (aF tax gross)=n7 c (aF tax gross)
  ·have d2:decide (nC c week (aF tax gross)=n7 c (aF tax gross))=true:=by simp[e2]
   have hr:DD c week (aF tax gross)=2:=by unfold DD; rw[if_neg e1,if_pos e2]
   simp only[d1,d2,cond_true,cond_false,Bp,hr]
  ·have d2:decide (nC c week (aF tax gross)=n7 c (aF tax gross))=false:=by simp[e2]
   have hr:DD c week (aF tax gross)=3:=by unfold DD; rw[if_neg e1,if_neg e2]
   simp only[d1,d2,cond_false,Bp,hr]
theorem AZ {tax g g':Int}(ht:0≤tax∧tax≤500)(h0:0≤g)(h:g≤g'):aF tax g≤aF tax g':=by
 have e1:0≤g*tax:=Int.mul_nonneg h0 ht.1;have e2:0≤g'*tax:=Int.mul_nonneg (by omega) ht.1;have e3:(g'-g)*tax≤(g'-g)*1000:=Int.mul_le_mul_of_nonneg_left (by omega) (by omega);rw[Int.sub_mul]at e3;unfold aF;rw[nD e1,nD e2];omega
theorem rR {n n' p:Int}{t:List (Int×Int)}(h:n≤n'):∀ k,mll n t p k≤mll n' t p k
 | 0=>Int.le_refl _
 | k+1=>by
  have:=rR (p:=p) (t:=t) h k;unfold mll;split <;> split <;> omega
theorem DE {c:CT}{week n n':Int}(h:lw c=true)(hw:c.2.1≤week)(h0:0≤n)(hn:n≤n'):nC c week n≤nC c week n':=by
 obtain⟨_,_,_,_,_,_,h7,h8,h9,_⟩:=dI h;have m:=AY (net:=n) h hw;have m':=AY (net:=n') h hw;have mm:rQ c week n≤rQ c week n':=rR hn _;have a:n6 c week n≤n6 c week n':=by
  unfold n6;rw[nD (Int.mul_nonneg h0 m.1),nD (Int.mul_nonneg (by omega) m'.1)];have e1:n*rQ c week n≤n'*rQ c week n':=Int.mul_le_mul hn mm m.1 (by omega);omega
 have b:n7 c n≤n7 c n':=by
  unfold n7;rw[nD (Int.mul_nonneg (by omega) h9.1),nD (Int.mul_nonneg (by omega) h9.1)];have e1:max 0 (n-c.2.2.2.2.2.1)*c.2.2.2.2.2.2.1≤max 0 (n'-c.2.2.2.2.2.1)*c.2.2.2.2.2.2.1:=Int.mul_le_mul_of_nonneg_right (by omega) h9.1;omega
 unfold nC;omega
theorem DF {tax:Int}{c:CT}{week g g':Int}(h:lw c=true)(hw:c.2.1≤week)(ht:0≤tax∧tax≤500)(h0:0≤g)(h1:g'≤100000000)(hg:g≤g'):qo tax c week g≤qo tax c week g':=by
 have a:=AZ ht h0 hg;have b:=vW (gross:=g) ht (by omega);have:=DE h hw b.1 a;unfold qo;omega
def zR:RT:=(0,0,0,0,0,0)
theorem er {l:List CT}{f:Int}{c:CT}(h:fc l f=some c):c∈l∧c.1=f:=⟨List.mem_of_find?_eq_some h,by simpa using List.find?_some h⟩
theorem d9 {b:BT}(h:bO b=0):nY b=true∧b.2.2.length≤40∧iJ b.2.1 b.2.2=true:=by
 unfold bO at h;cases h1:nY b
 ·rw[h1]at h; cases h
 cases h2:decide (b.2.2.length≤40)&&iJ b.2.1 b.2.2
 ·rw[h1,h2]at h; cases h
 simp only[Bool.and_eq_true,decide_eq_true_eq]at h2;exact⟨rfl,h2.1,h2.2⟩
theorem cw {b:BT}(h:nY b=true):(∀ c∈b.2.1,lw c=true)∧(0≤b.1∧b.1≤500)∧b.2.1.length≤6:=by
 simp only[nY,Bool.and_eq_true,aK,cu,decide_eq_true_eq]at h;exact⟨fun c hc=>by obtain⟨i,hi,rfl⟩:=dR hc; exact(h.1 i hi).1,h.2.1,h.2.2⟩
theorem NN {b:BT}{c:CT}{f w:Int}(h:bO b=0)(hc:c∈b.2.1)(hw:c.2.1≤w∧w≤c.2.2.1):AOk b.1 c w (rO b.2.2 f w):=by
 obtain⟨h1,h2,h3⟩:=d9 h;obtain⟨k1,k2,k3⟩:=cw h1;have:=dI (k1 c hc);exact⟨k1 c hc,k2,⟨hw.1,by omega⟩,NM (kc h3)⟩
theorem Je {b:BT}{c:CT}{w:Int}(hb:qg b)(h:bO b=0)(hc:c∈b.2.1)(hw:c.2.1≤w∧w≤c.2.2.1):Ap (b,c,w)=some (Bp b.1 c w (rO b.2.2 c.1 w)):=by
 simp only[u3,Ap,TI,RZ,I9 b c.1 w hb.2.1 (kc (d9 h).2.2),aa,Jd (NN h hc hw)]
def rS (b:BT)(f w:Int):RT×Int:=if bO b=0 then(match fc b.2.1 f with
 | some c=>cond (wi w c.2.1 c.2.2.1) (Bp b.1 c w (rO b.2.2 f w),0) (zR,1)
 | none=>(zR,1))else(zR,bO b)
theorem A0 (b:BT)(f:Int)(hb:qg b):xl (b,f)=some (if bO b=0 then(match fc b.2.1 f with
  | some c=>(c,0)
  | none=>(zC,1))else(zC,bO b)):=by
 simp only[u2,xl,Tb,QC,AL b hb,aa,nA b f hb.1];by_cases h:bO b=0
 ·simp only[h,decide_true,Bool.not_true,cond_false,if_true];cases fc b.2.1 f <;> rfl
 ·simp only[h,decide_false,Bool.not_false,cond_true,if_false]; rfl
theorem A1 (b:BT)(f w:Int)(hb:qg b):P17 (b,f,w)=some (rS b f w):=by
 simp only[u3,P17,Ti,QN,A0 b f hb,aa,rS];by_cases h:bO b=0
 ·simp only[h,if_true];cases hf:fc b.2.1 f with
  | none=>rfl
  | some c=>
   have hc:=er hf;simp only[decide_true,Bool.not_true,cond_false,gv,aa];cases hw:wi w c.2.1 c.2.2.1
   ·rfl
   ·simp only[Bool.not_true,cond_false,cond_true,AT b f w hb.2.1 (kc (d9 h).2.2),aa,tv (NN (f:=f) h hc.1 (cu.1 hw))]
 ·simp only[h,if_false,decide_false,Bool.not_false,cond_true]; rfl
def qj (b:BT)(c:CT)(k:Nat):Int:=qo b.1 c (c.2.1+k) (rO b.2.2 c.1 (c.2.1+k))
def eW (c:CT)(w:Int):Nat:=(min w c.2.2.1-c.2.1+1).toNat
def iK (b:BT)(c:CT)(w:Int):Int:=if c.2.2.1≤w then max (sumN (eW c w) (qj b c)) c.2.2.2.2.2.2.2.2 else sumN (eW c w) (qj b c)
theorem vX {b:BT}{c:CT}(h:bO b=0)(hc:c∈b.2.1){k:Nat}{w:Int}(hk:k < eW c w):0≤qj b c k∧qj b c k≤100000000:=by
 unfold eW at hk;have:=qi (NN (f:=c.1) (w:=c.2.1+k) h hc (by omega));unfold qj; omega
theorem rT {σ:Type}{b:BT}{c:CT}{w:Int}(h:bO b=0)(hc:c∈b.2.1)(hw:0≤w∧w≤99){step:σ→Option (σ⊕(Int×Int×BT×CT))}(S:Int→Int→σ)
  (h1:∀ (k:Nat) n,k < eW c w→0≤n→n≤100000000000→step (S n (c.2.1+k))=some (.inl (S (n+qj b c k) (c.2.1+k+1)))) (h2:∀ n u,¬ u≤min w c.2.2.1→step (S n u)=some (.inr (w,n,b,c))) :
  af step (S 0 c.2.1)=some (w,sumN (eW c w) (qj b c),b,c):=by
 have hcb:=dI ((cw (d9 h).1).1 c hc);have:=bd (step:=step) (eW c w) (fun k=>S (sumN k (qj b c)) (c.2.1+k)) (w,sumN (eW c w) (qj b c),b,c) (fun k hk=>by
  have hb:=nB (f:=qj b c) (c:=100000000) (n:=k) fun j hj=>vX h hc (w:=w) (by omega);have hk':=hk;unfold eW at hk';rw[h1 k _ hk (by omega) (by omega)];simp only[sumN];congr 3; omega) (h2 _ _ (by unfold eW; omega)) (by unfold eW; omega)
 simpa [sumN]using this
theorem A2 {b:BT}{c:CT}{w:Int}(hb:qg b)(h:bO b=0)(hc:c∈b.2.1)(hw:0≤w∧w≤99):ns (b,c,w)=some (iK b c w):=by
 have hcb:=dI ((cw (d9 h).1).1 c hc);have e:zM (w,0,c.2.1,b,c)=some (w,sumN (eW c w) (qj b c),b,c):=
  rT h hc hw (fun n u=>(w,n,u,b,c)) (fun k n hk hn hn'=>by
   have hs:=vX h hc hk;have hk':=hk;unfold eW at hk';have d:decide (c.2.1+(k:Int)≤min w c.2.2.1)=true:=by simp; omega
   have es:(Bp b.1 c (c.2.1+k) (rO b.2.2 c.1 (c.2.1+k))).2.2.2.1=qj b c k:=rfl;simp only[u5,zL,vh,d,cond_true,AT b c.1 _ hb.2.1 (kc (d9 h).2.2),aa,tv (NN (f:=c.1) (w:=c.2.1+k) h hc (by omega)),es,ay (show 0≤n+qj b c k by omega) (by omega),ay (show 0≤c.2.1+(k:Int)+1 by omega) (by omega),az]) (fun n u hu=>by
   have d:decide (u≤min w c.2.2.1)=false:=by simp; omega
   simp only[u5,zL,vh,d,cond_false])
 simp only[u3,ns,Tk,QP,e,aa,iK];by_cases q:c.2.2.1≤w
 ·simp only[q,decide_true,cond_true,if_true]
 ·simp only[q,decide_false,cond_false,if_false]
theorem Jf {b:BT}{c:CT}{w:Int}(hb:qg b)(h:bO b=0)(hc:c∈b.2.1)(hw:0≤w∧w≤99):pZ (b,c,w)=some (iK b c w):=by
 have hcb:=dI ((cw (d9 h).1).1 c hc);have e:Ar (w,0,c.2.1,b,c)=some (w,sumN (eW c w) (qj b c),b,c):=
  rT h hc hw (fun n u=>(w,n,u,b,c)) (fun k n hk hn hn'=>by
   have hs:=vX h hc hk;have hk':=hk;unfold eW at hk';have d:decide (c.2.1+(k:Int)≤min w c.2.2.1)=true:=by simp; omega
   have es:(Bp b.1 c (c.2.1+k) (rO b.2.2 c.1 (c.2.1+k))).2.2.2.1=qj b c k:=rfl;simp only[u5,Aq,vI,d,cond_true,Je (w:=c.2.1+k) hb h hc (by omega),aa,es,ay (show 0≤n+qj b c k by omega) (by omega),ay (show 0≤c.2.1+(k:Int)+1 by omega) (by omega),az]) (fun n u hu=>by
   have d:decide (u≤min w c.2.2.1)=false:=by simp; omega
   simp only[u5,Aq,vI,d,cond_false])
 simp only[u3,pZ,TJ,R1,e,aa,iK];by_cases q:c.2.2.1≤w
 ·simp only[q,decide_true,cond_true,if_true]
 ·simp only[q,decide_false,cond_false,if_false]
def OU (b:BT)(f w:Int):Int×Int:=if bO b=0 then(match fc b.2.1 f with
 | some c=>cond (wi w 0 99) (iK b c w,0) (0,1)
 | none=>(0,1))else(0,bO b)
theorem A3 (b:BT)(f w:Int)(hb:qg b):P21 (b,f,w)=some (OU b f w):=by
 simp only[u3,P21,Tm,QT,A0 b f hb,aa,OU];by_cases h:bO b=0
 ·simp only[h,if_true];cases hf:fc b.2.1 f with
  | none=>rfl
  | some c=>
   simp only[decide_true,Bool.not_true,cond_false,gv,aa];cases hw:wi w 0 99
   ·rfl
   ·simp only[Bool.not_true,cond_false,cond_true,A2 hb h (er hf).1 (cu.1 hw),aa]
 ·simp only[h,if_false,decide_false,Bool.not_false,cond_true]
theorem tw {Q:Nat→Prop}{a b k k':Nat}(h:Cut Q a b k)(h':Cut Q a b k')(h1:a≤k)(h2:k≤b)(h3:a≤k')(h4:k'≤b):k=k':=by
 rcases Nat.lt_trichotomy k k' with q | q | q
 ·exact absurd (h'.1 k h1 q) (h.2 k (Nat.le_refl _) (by omega))
 ·exact q
 ·exact absurd (h.1 k' h3 q) (h'.2 k' (Nat.le_refl _) (by omega))
theorem NO (i j:Nat):Int.tdiv ((i:Int)+(j:Int)) 2=(((i+j) / 2:Nat):Int):=by
 rw[Int.tdiv_eq_ediv_of_nonneg (by omega)]; omega
def RQ (b:BT)(c:CT)(w s:Int)(g:Nat):Prop:=qo b.1 c w (g:Int) < s
theorem vY {b:BT}{c:CT}{w:Int}(s:Int)(h:bO b=0)(hc:c∈b.2.1)(hw:c.2.1≤w):∀ p q,0≤p→p≤q→q < 10000001→RQ b c w s q→RQ b c w s p:=fun p q _ h1 h2 h3=>by
 obtain⟨k1,k2,k3⟩:=cw (d9 h).1;have:=DF (g:=(p:Int)) (g':=(q:Int)) (k1 c hc) hw k2 (by omega) (by omega) (by omega);unfold RQ at *; omega
theorem A4 {b:BT}{c:CT}{w s:Int}(h:bO b=0)(hc:c∈b.2.1)(hw:c.2.1≤w∧w≤c.2.2.1):∃ k,L22_0 (w,s,0,10000001,b,c)=some (((k:Nat):Int),b,c)∧k≤10000001∧Cut (RQ b c w s) 0 10000001 k:=by
 obtain⟨k1,k2,k3⟩:=cw (d9 h).1;have hcb:=dI (k1 c hc);obtain⟨k,e1,e2,e3,e4⟩:=gp (step:=fun x=>vj x.1 x.2.1 x.2.2.1 x.2.2.2.1 x.2.2.2.2.1 x.2.2.2.2.2) (RQ b c w s) (fun i j=>(w,s,(i:Int),(j:Int),b,c)) (fun k=>((k:Int),b,c)) 0 10000001 (fun i j h1 h2 h3=>by
  have es:(Bp b.1 c w (((i+j) / 2:Nat):Int)).2.2.2.1=qo b.1 c w (((i+j) / 2:Nat):Int):=rfl;simp only[u6,vj,vi,aw h2,cond_true,ay (show 0≤(i:Int)+(j:Int)by omega) (by omega),NO,ay (show(0:Int)≤(((i+j) / 2:Nat):Int)by omega) (by omega),az,
   tv (tax:=b.1) (c:=c) (week:=w) (gross:=(((i+j) / 2:Nat):Int)) ⟨k1 c hc,k2,⟨hw.1,by omega⟩,⟨by omega,by omega⟩⟩,aa,es,ay (show(0:Int)≤(((i+j) / 2:Nat):Int)+1 by omega) (by omega)]
  by_cases q:s≤qo b.1 c w (((i+j) / 2:Nat):Int)
  ·right;simp only[q,decide_true,cond_true];exact⟨by unfold RQ; omega,trivial⟩
  ·left;simp only[q,decide_false,cond_false,aR];exact⟨by unfold RQ; omega,trivial⟩) (fun i h1 h2=>by simp only[u6,vj,vi,aE,cond_false]) (by omega) (by omega)
 exact⟨k,e1,e3,e4 (vY s h hc hw.1)⟩
def T3 (k:Nat):Int×Int:=cond (decide ((10000000:Int) < (k:Int))) (0,3) ((k:Int),0)
theorem Jg {b:BT}{c:CT}{f w s:Int}(hb:qg b)(h:bO b=0)(hf:fc b.2.1 f=some c)(hw:wi w c.2.1 c.2.2.1=true)(hs:wi s 0 10000000=true):∃ k,P22 (b,f,w,s)=some (T3 k)∧k≤10000001∧Cut (RQ b c w s) 0 10000001 k:=by
 obtain⟨k,e1,e2,e3⟩:=A4 (s:=s) h (er hf).1 (cu.1 hw);refine⟨k,?_,e2,e3⟩;have hv:(rS b f w).2=0:=by simp only[rS,h,hf,hw,if_true,cond_true]
 simp only[u4,P22,To,QV,A1 b f w hb,aa,hv,decide_true,Bool.not_true,cond_false,qf,hs,nA b f hb.1,hf,IT,e1,T3];cases decide ((10000000:Int) < (k:Int)) <;> rfl
theorem A5 {α:Type}[Inhabited α](l:List α){n:Nat}(h:n < l.length):l.take (n+1)=l.take n++[gt l n]:=by
 rw[List.take_add_one,List.getElem?_eq_getElem h,dz h]; rfl
theorem Jh (b:BT)(hb:qg b):CW b=some b:=by
 obtain⟨h1,h2,h3⟩:=hb;have e:zQ (0,b,0,b.1,[],b.2.2)=some (b,0,b.1,b.2.2,b.2.1):=
  bd (step:=fun x=>vl x.1 x.2.1 x.2.2.1 x.2.2.2.1 x.2.2.2.2.1 x.2.2.2.2.2) b.2.1.length (fun k=>((k:Int),b,0,b.1,b.2.1.take k,b.2.2)) _ (fun k hk=>by
   have hc:=h3 _ (bF hk);have c1:bD 8 (gt b.2.1 k).2.2.2.1.length=true:=ci (by have:=hc.1; omega);have c2:bD 16 (gt b.2.1 k).2.2.2.2.1.length=true:=ci (by have:=hc.2; omega);have c3:bD 104 ((b.2.1.take k).length+[gt b.2.1 k].length)=true:=ci (by simp; omega);simp only[u6,vl,vk,aw hk,cond_true,am hk,az,aP,c1,c2,c3,aC (show k < 9223372036854775807 by omega),aR,A5 b.2.1 hk]) (by
   simp only[u6,vl,vk,aE,cond_false,List.take_length]) (by omega)
 have c0:bD 48 b.2.2.length=true:=ci (by omega);simp only[CW,Tr,Q1,c0,az,e,aa]
def tx (b:BT):Bool:=decide ((20:Int) < b.2.1.length)||(decide ((60:Int) < b.2.2.length)||!(be b.2.1.length fun k=>!decide ((30:Int) < (gt b.2.1 k).2.2.2.1.length)&&!decide ((30:Int) < (gt b.2.1 k).2.2.2.2.1.length)))
theorem A6 (b:BT):jY b=some (tx b):=by
 simp only[jY,SG,Pb,tx];cases h1:decide ((20:Int) < b.2.1.length)
 ·have hl:b.2.1.length≤20:=by simp at h1; omega
  cases decide ((60:Int) < b.2.2.length)
  ·have e:yM (0,b)=some (cond (be b.2.1.length fun k=>!decide ((30:Int) < (gt b.2.1 k).2.2.2.1.length)&&!decide ((30:Int) < (gt b.2.1 k).2.2.2.2.1.length)) (.inr b) (.inl (true,b))):=
    bS b.2.1.length (fun k=>((k:Int),b)) (fun k=>!decide ((30:Int) < (gt b.2.1 k).2.2.2.1.length)&&!decide ((30:Int) < (gt b.2.1 k).2.2.2.2.1.length)) _ _ (fun k hk=>by
     simp only[u2,yL,um,aw hk,cond_true,am hk,az,aP,aC (show k < 9223372036854775807 by omega),aR];cases decide ((30:Int) < (gt b.2.1 k).2.2.2.1.length) <;> cases decide ((30:Int) < (gt b.2.1 k).2.2.2.2.1.length) <;> rfl) (by simp only[u2,yL,um,aE,cond_false]) (by omega)
   simp only[cond_false,e,aa,Bool.false_or];cases be b.2.1.length fun k=>!decide ((30:Int) < (gt b.2.1 k).2.2.2.1.length)&&!decide ((30:Int) < (gt b.2.1 k).2.2.2.2.1.length) <;> rfl
  ·rfl
 ·rfl
theorem Ji {b:BT}(h:tx b=false):b.2.1.length≤20∧b.2.2.length≤60∧∀ c∈b.2.1,c.2.2.2.1.length≤30∧c.2.2.2.2.1.length≤30:=by
 simp only[tx,Bool.or_eq_false_iff,decide_eq_false_iff_not,Bool.not_eq_false']at h;refine⟨by omega,by omega,fun c hc=>?_⟩;have:=pV (p:=fun c:CT=>!decide ((30:Int) < c.2.2.2.1.length)&&!decide ((30:Int) < c.2.2.2.2.1.length)).1 h.2.2 c hc;simp only[Bool.and_eq_true,Bool.not_eq_true',decide_eq_false_iff_not]at this;omega
theorem A7 {b:BT}(h:tx b=false):qg b:=by
 obtain⟨h1,h2,h3⟩:=Ji h;exact⟨by omega,by omega,fun c hc=>by have:=h3 c hc; omega⟩
def bal (r:RT):Bool:=decide (r.1=r.2.1+r.2.2.1)&&(decide (r.2.2.1=r.2.2.2.1+r.2.2.2.2.1)&&decide (0≤min (min (min (min r.1 r.2.1) r.2.2.1) r.2.2.2.1) r.2.2.2.2.1))
def Ex:BT:=(100,[(5,10,12,[600,500],[(20000,700)],8000,900,3000,40000)],[(1,1,5,10,0,20000),(2,1,5,10,1,10000),(3,1,5,11,0,5000),(4,1,5,11,0,4000),(5,2,5,12,0,10001)])
def G2:CT:=(5,10,12,[600,500],[(20000,700)],8000,900,3000,40000)
theorem A8:qg Ex:=⟨by decide,by decide,fun c hc=>by
 have:c=G2:=by simp only[Ex,List.mem_singleton]at hc; exact hc
 subst this; decide⟩
theorem A9:bO Ex=0:=by decide +kernel
theorem Sw:rS Ex 5 10=((30000,3000,27000,18900,8100,1),0):=by decide +kernel
theorem Sx:OU Ex 5 12=(40000,0):=by decide +kernel
theorem Sy:P22 (Ex,5,11,3000)=some (3333,0):=by
 obtain⟨k,h1,h2,h3⟩:=Jg (b:=Ex) (c:=G2) (f:=5) (w:=11) (s:=3000) A8 A9 rfl (by decide +kernel) (by decide +kernel);have hm:=vY (b:=Ex) (c:=G2) (w:=11) 3000 A9 (by simp[Ex,G2]) (by decide);have a1:RQ Ex G2 11 3000 3332:=(by decide +kernel:qo 100 G2 11 3332 < 3000)
 have a2:¬ RQ Ex G2 11 3000 3333:=(by decide +kernel:¬ qo 100 G2 11 3333 < 3000)
 have:k=3333:=tw h3 ⟨fun p h4 h5=>hm p 3332 h4 (by omega) (by omega) a1,fun p h4 h5 h6=>a2 (hm 3333 p (by omega) h4 h5 h6)⟩ (by omega) h2 (by omega) (by omega);rw[h1,this]; rfl
theorem fw:jv ()=some true:=by
 have e0:P38 ()=some Ex:=rfl;simp only[jv,Tp,QZ,e0,aa,A1 Ex 5 10 A8,A3 Ex 5 12 A8,Sw,Sx,Sy]
 decide +kernel
namespace Pdq83
abbrev E:=Int×Int×Int×List Int×List (Int×Int)×Int×Int×Int×Int
section
variable {β:Type} [Inhabited β] {v:β→E} {C:β→β→Int}
def lt (C:β→β→Int)(x y:β):Bool:=decide (C x y < 0)
theorem XU (x y:β):decide (C x y < 0)=lt C x y:=rfl
theorem lb (a:Nat):∀ (j:Nat) (d:Array β),(Sort.insInner (lt C) a j d).size=d.size
 | 0,d=>by rw[Sort.insInner]
 | j+1,d=>by
  rw[Sort.insInner];split
  ·rw[lb a j,nk]
  ·rfl
variable (hC:∀ x y,P64 (v x,v y)=some (C x y))
include hC
theorem IP {a b i:Nat}{j:Nat}{d:Array β}(h1:j < d.size)(h2:d.size≤250)(h3:a≤250):
  zW ((a:Int),(b:Int),(i:Int),(j:Int),MA v d)=some ((a:Int),(b:Int),(i:Int),MA v (Sort.insInner (lt C) a j d)):=by
 refine oU (fun s r n=>∃ (j:Nat) (d:Array β),j < d.size∧d.size≤250∧s=((a:Int),(b:Int),(i:Int),(j:Int),MA v d)∧r=((a:Int),(b:Int),(i:Int),MA v (Sort.insInner (lt C) a j d))∧n=j) ⟨j,d,h1,h2,rfl,rfl,rfl⟩ (by omega) ?_;rintro s r n ⟨j,d,q1,q2,rfl,rfl,rfl⟩;simp only[u5,FC,zV];cases n with
 | zero=>left; simp(disch:=omega) only[Ko,dF,cond_false,Sort.insInner]
 | succ j=>
  by_cases e:a < j+1
  ·simp(disch:=omega) only[Ko,dT,cond_true,yI,az,p1,yJ,DU,hC,aa,XU,Nat.add_sub_cancel,Int.toNat_natCast]
   cases hl:lt C d[j+1]! d[j]!
   ·left;rw[show Sort.insInner (lt C) a (j+1) d=d by rw[Sort.insInner]; simp[hl]];simp only[cond_false]
   ·right;rw[show Sort.insInner (lt C) a (j+1) d=Sort.insInner (lt C) a j (Sort.swp d (j+1) j)by rw[Sort.insInner]; simp[hl,e]]
    simp(disch:=omega) only[cond_true,Io,Cr,Ip,az]
    exact⟨_,j,rfl,⟨j,Sort.swp d (j+1) j,by rw[nk]; omega,by rwa [nk],rfl,rfl,rfl⟩,by omega⟩
  ·left;rw[show Sort.insInner (lt C) a (j+1) d=d by rw[Sort.insInner]; simp[e]]
   simp(disch:=omega) only[Ko,dF,cond_false]
theorem ins {a b:Nat}{d:Array β}(hb:b≤d.size)(hz:d.size≤250)(ha:a≤250):vo ((a:Int),(b:Int),MA v d)=some (MA v (Sort.insertionSort (lt C) d a b)):=by
 have e:zY ((a:Int),(b:Int),((a+1:Nat):Int),MA v d)=some (MA v (Sort.insOuter (lt C) a b (a+1) d)):=by
  refine oU (fun s r n=>∃ (i:Nat) (d:Array β),b≤d.size∧d.size≤250∧s=((a:Int),(b:Int),(i:Int),MA v d)∧r=MA v (Sort.insOuter (lt C) a b i d)∧n=b-i) ⟨a+1,d,hb,hz,rfl,rfl,rfl⟩ (by omega) ?_;rintro s r n ⟨i,d,q1,q2,rfl,rfl,rfl⟩;simp only[u4,FE,zX];rw[Sort.insOuter];by_cases e:i < b
  ·right
   simp(disch:=omega) only[Ko,dT,cond_true,IP hC,aa,yJ,az,a1]
   exact⟨_,b-(i+1),rfl,⟨i+1,Sort.insInner (lt C) a i d,by rwa [lb],by rwa [lb],rfl,by rw[if_pos e],rfl⟩,by omega⟩
  ·left
   simp(disch:=omega) only[Ko,dF,cond_false,if_neg e]
 simp(disch:=omega) only[u3,vo,Tv,Rk,yJ,az,a1,e,aa,Sort.insertionSort]
omit hC in
theorem Sz {n:Nat}(h:n < 256):P90 (n:Int)=some ((Sort.bitsLen n:Nat):Int):=by
 have f:ah .u8 (n:Int)=true:=by
  rw[ah,decide_eq_true_eq];have e2:(2:Int)^8=256:=by decide
  simp only[IntKind.wrap,IntKind.bits,IntKind.signed,Bool.false_and,e2,Bool.false_eq_true,if_false];omega
 have d1:decide ((4294967296:Int)≤(n:Int))=false:=by simp; omega
 have d2:decide ((65536:Int)≤(n:Int))=false:=by simp; omega
 have d3:decide ((256:Int)≤(n:Int))=false:=by simp; omega
 simp only[P90,Tt,Re,P102,Ls,Iy,tj,zU,ti,d1,cond_false,aa,d2,d3,f,az];have key:∀ m:Fin 256,∀ t:ByteArray,t=tb→aZ (m.val:Int) t.size=true∧wt t (m.val:Int)=((Sort.bitsLen m.val:Nat):Int):=by
  intro m t ht;subst ht;constructor
  ·exact am (by have:=m.isLt; exact this)
  ·revert m; decide +kernel
 obtain⟨k1,k2⟩:=key ⟨n,h⟩ _ rfl;simp only at k1 k2;have hl:=(Sort.bitsLen_le_iff n 8).2 (by omega);have z:(0:Int)+((Sort.bitsLen n:Nat):Int)=((Sort.bitsLen n:Nat):Int):=by omega
 simp(disch:=omega) only[k1,az,k2,z,yJ,aa]
theorem fi {d:Array β}(hz:d.size≤12):P83 (MA v d)=some (MA v (Sort.insertionSort (lt C) d 0 d.size)):=by
 have fu:ah .u64 (d.size:Int)=true:=rj (by omega) (by omega);have k':vq (((0:Nat):Int),(d.size:Int),((Sort.bitsLen d.size:Nat):Int),true,true,MA v d)=some (MA v (Sort.insertionSort (lt C) d 0 d.size)):=
  bd (step:=fun x=>z0 x.1 x.2.1 x.2.2.1 x.2.2.2.1 x.2.2.2.2.1 x.2.2.2.2.2) 0 (fun _=>(((0:Nat):Int),(d.size:Int),((Sort.bitsLen d.size:Nat):Int),true,true,MA v d)) _ (fun i hi=>by omega) (by
   have g:decide (((d.size-0:Nat):Int)≤12)=true:=by simp; omega
   simp(disch:=omega) only[u6,z0,zZ,pn,yJ,az,g,cond_true,ins hC,aa]) (by omega)
 have e:P89 (0,(d.size:Int),((Sort.bitsLen d.size:Nat):Int),MA v d)=some (MA v (Sort.insertionSort (lt C) d 0 d.size)):=by
  show Rn _ _ _ _=_;simp only[Rn,Rm];rw[show vq (0,(d.size:Int),((Sort.bitsLen d.size:Nat):Int),true,true,MA v d)=_ from k',aa]
 simp(disch:=omega) only[P83,Tw,Rr,tc,fu,az,Sz,aa,e]
end
theorem srt (K:E→Int)(gd:E→Prop)(x0:E)(h0:gd x0)(hK:∀ x y,gd x→gd y→∃ c:Int,P64 (x,y)=some c∧(decide (c < 0)=true↔K x < K y)){l:List E}(hl:∀ x∈l,gd x)(hz:l.length≤12):
  ∃ l',P83 l=some l'∧l'.Perm l∧Sd K l' 0 l'.length:=by
 letI:Inhabited {x:E // gd x}:=⟨⟨x0,h0⟩⟩
 let C:{x:E // gd x}→{x:E // gd x}→Int:=fun x y=>Classical.choose (hK x.1 y.1 x.2 y.2)
 have hC:∀ x y:{x:E // gd x},P64 (x.1,y.1)=some (C x y):=fun x y=>(Classical.choose_spec (hK x.1 y.1 x.2 y.2)).1;have hlt:∀ x y:{x:E // gd x},lt C x y=true↔K x.1 < K y.1:=fun x y=>(Classical.choose_spec (hK x.1 y.1 x.2 y.2)).2;have hlf:∀ x y:{x:E // gd x},lt C x y=false↔K y.1≤K x.1:=fun x y=>by rw[← Bool.not_eq_true,hlt]; omega
 have hS:Sort.SWO (lt C):=⟨fun x=>(hlf x x).2 (Int.le_refl _),fun x y z h1 h2=>(hlt _ _).2 (Int.lt_trans ((hlt _ _).1 h1) ((hlt _ _).1 h2)),fun x y z h1 h2=>(hlf _ _).2 (Int.le_trans ((hlf _ _).1 h2) ((hlf _ _).1 h1))⟩
 let d:Array {x:E // gd x}:=(l.attach.map fun x=>⟨x.1,hl x.1 x.2⟩).toArray
 have hd:MA (fun x:{x:E // gd x}=>x.1) d=l:=by
  simp only[MA,d,List.map_map];exact List.attach_map_subtype_val l
 have hds:d.size=l.length:=by simp[d]
 obtain⟨s1,s2⟩:=(Sort.insertionSort_holds:Sort.insertionSort_stmt (lt C)) hS d 0 d.size (Nat.zero_le _) (Nat.le_refl _);have ht:=fi (v:=fun x:{x:E // gd x}=>x.1) hC (d:=d) (by omega);rw[hd]at ht;refine⟨_,ht,?_,fun i j q1 q2 q3=>?_⟩
 ·have hp:=s1.2.2;have e1:∀ r:Array {x:E // gd x},r.size=d.size→r.extract 0 d.size=r:=fun r hr=>by rw[← hr]; simp
  rw[e1 _ s1.1,show d.extract 0 d.size=d by simp]at hp;have:=hp.map (fun x:{x:E // gd x}=>x.1);rw[← hd];exact this
 ·rw[tc]at q3;have e:∀ k,k < (Sort.insertionSort (lt C) d 0 d.size).size→gt (MA (fun x:{x:E // gd x}=>x.1) (Sort.insertionSort (lt C) d 0 d.size)) k=((Sort.insertionSort (lt C) d 0 d.size)[k]!).1:=fun k hk=>by rw[← aP,DU hk]
  rw[e i (by omega),e j q3];exact(hlf _ _).1 (s2 i j q1 q2 (by have:=s1.1; omega))
end Pdq83
theorem Jj (l:List d8)(h:l.length≤1000000):uk rH (l,(l.length:Int),0,0,[])=some (Sum.inr (0,l)):=by
 refine(bd (step:=fun x=>DZ rH x.1 x.2.1 x.2.2.1 x.2.2.2.1 x.2.2.2.2) l.length (fun k=>(l,(l.length:Int),(k:Int),(0:Int),l.take k)) (Sum.inr (0,l)) (fun k hk=>?_) ?_ (by omega))
 ·show oW rH l (l.length:Int) (k:Int) 0 (l.take k)=_;unfold oW;rw[aw hk,cond_true,aG (am hk)];have e:rH (ix l (k:Int),0,l.take k)=some (true,0,l.take (k+1)):=by
   unfold rH;simp only;rw[aG (ci (by simp; omega)),aP,List.take_add_one,List.getElem?_eq_getElem hk,dz hk];rfl
  rw[e];show an (ah .i64 ((k:Int)+1)) _=_;rw[aG (aC (by omega))];rfl
 ·show oW rH l (l.length:Int) (l.length:Int) 0 (l.take l.length)=_;unfold oW;rw[aE,cond_false,List.take_length]
theorem Jk (l:List d8)(h:l.length≤1000000):P88 l=some l:=by
 have e:Ea rH (l,0,[])=some (l,0,l):=by
  show N0 rH (uk rH) l 0 []=_;unfold N0;rw[Jj l h];rfl
 unfold P88;rw[e];rfl
theorem G3 (l:List CT)(hl:l.length≤12)(hv:∀ c∈l,0≤c.1∧c.1≤99):∃ s,qn l=some s∧s.Perm l∧Sd (fun c:CT=>c.1) s 0 s.length:=by
 obtain⟨s,e1,e2,e3⟩:=Pdq83.srt (fun c:CT=>c.1) (fun c:CT=>0≤c.1∧c.1≤99) zC ⟨by decide,by decide⟩ (fun x y hx hy=>⟨x.1-y.1,by
  show an (ah .i64 (x.1-y.1)) (some (x.1-y.1))=_;rw[aG (cF (by omega) (by omega))],by rw[decide_eq_true_eq]; omega⟩) hv hl
 refine⟨s,?_,e2,e3⟩;show Oq P82 P83 l=_;unfold Oq;have e:P82 l=some l:=by
  show Oo P88 l=_;unfold Oo;rw[Jk l (by omega)];rfl
 rw[e,aa,e1];rfl
abbrev PT:=Int×Int
def gF (l:List PT)(f:Int):Nat→Int
 | 0=>0
 | k+1=>gF l f k+if(gt l k).1=f then(gt l k).2 else 0
def cG (l:List PT)(f:Int):Int:=gF l f l.length
def gG (b:BT)(p:PT):Bool:=(fc b.2.1 p.1).isSome&&wi p.2 0 1000000000
def gw (b:BT)(l:List PT):Bool:=be l.length (fun k=>gG b (gt l k))&&decide (l.length≤100)
theorem rU {b:BT}{l:List PT}(f:Int):∀ k,(∀ j,j < k→gG b (gt l j)=true)→0≤gF l f k∧gF l f k≤1000000000*k
 | 0,_=>⟨Int.le_refl _,by simp[gF]⟩
 | k+1,h=>by
  have ih:=rU (b:=b) (l:=l) f k fun j hj=>h j (by omega);have hk:=h k (by omega);unfold gG at hk;rw[Bool.and_eq_true,cu]at hk;rw[gF];split <;> omega
theorem tz (b:BT)(l:List PT)(hb:b.2.1.length≤1000)(hl:l.length≤1000):gD (b,l)=some (gw b l):=by
 show Oy gq P48 vE b l=_;unfold Oy gw;have e:vE (l,0,b)=some (cond (be l.length (fun k=>gG b (gt l k))) (.inr (l,b)) (.inl (false,b))):=by
  refine bS (step:=fun x=>Gj x.1 x.2.1 x.2.2) l.length (fun k=>(l,(k:Int),b)) (fun k=>gG b (gt l k)) _ _ (fun k hk=>?_) ?_ (by omega)
  ·show o6 gq P48 l (k:Int) b=_;unfold o6 gG;rw[show decide ((k:Int) < (↑(List.length l):Int))=true from aw hk,cond_true,aG (am hk),aP,tr b _ hb,aa];cases fc b.2.1 (gt l k).1 with
   | none=>rfl
   | some c=>
    show an (aZ (k:Int) l.length) _=_;rw[aG (am hk),js,aa,show(some c).isSome=true from rfl,Bool.true_and];cases wi (gt l k).2 0 1000000000 with
    | false=>rfl
    | true=>rw[Bool.not_true,cond_false,aG (aC (by omega))]; rfl
  ·show o6 gq P48 l (l.length:Int) b=_;unfold o6;rw[show decide ((l.length:Int) < (↑(List.length l):Int))=false from aE _,cond_false]
 rw[e];cases be l.length (fun k=>gG b (gt l k))with
 | false=>rfl
 | true=>
  show some (decide ((↑(List.length l):Int)≤100))=some (true&&decide (l.length≤100));rw[Bool.true_and];congr 1;rw[Bool.eq_iff_iff,decide_eq_true_eq,decide_eq_true_eq];omega
def pj (l:List PT):Nat→List (List Int×Int)
 | 0=>[]
 | k+1=>cK (pj l k) [(gt l k).1] (sc (bi (pj l k) [(gt l k).1]) 0+(gt l k).2)
theorem kd (l:List PT)(f:Int):∀ k,sc (bi (pj l k) [f]) 0=gF l f k
 | 0=>rfl
 | k+1=>by
  rw[pj,yK,gF,kd l _ k];by_cases c:(gt l k).1=f
  ·rw[if_pos (by rw[c]),if_pos c,c]
  ·rw[if_neg (fun e=>c (by simpa using e.symm)),if_neg c,kd l f k,Int.add_zero]
theorem Ba (b:BT)(l:List PT)(w:Int)(hb:b.2.1.length≤1000)(hl:l.length≤1000):
  (gw b l=true∧L35_0 (w,l,l,(l.length:Int),0,b,[])=some (.inr (w,b,pj l l.length)))∨(gw b l=false∧∃ m,L35_0 (w,l,l,(l.length:Int),0,b,[])=some (.inl (82,b,m))):=by
 rcases c8 (step:=fun x=>FR x.1 x.2.1 x.2.2.1 x.2.2.2.1 x.2.2.2.2.1 x.2.2.2.2.2.1 x.2.2.2.2.2.2) l.length (fun k=>(w,l,l,(l.length:Int),(k:Int),b,pj l k)) (fun k=>!gG b (gt l k)||decide (100 < l.length)) (fun k=>Sum.inl (82,b,pj l k)) (Sum.inr (w,b,pj l l.length))
  (fun k hk hp=>by
   show oY nr P40 P47 qm qn ns w l l (l.length:Int) (k:Int) b (pj l k)=_;unfold oY;have hall:∀ j,j < k→gG b (gt l j)=true:=fun j hj=>by have:=hp j hj; simp only[Bool.or_eq_false_iff,Bool.not_eq_false']at this; exact this.1
   have hbd:=rU (b:=b) (l:=l) (gt l k).1 k hall;rw[aw hk,cond_true,aG (am hk),aP,nA b _ hb,aa];unfold gG;cases fc b.2.1 (gt l k).1 with
   | none=>rfl
   | some c=>
    show(P40 ((gt l k).2,0,1000000000)).bind _=_;rw[gv,aa,show(some c).isSome=true from rfl,Bool.true_and];cases hw:wi (gt l k).2 0 1000000000 with
    | false=>rfl
    | true=>
     have hw':=cu.1 hw;rw[Bool.not_true,cond_false,Bool.false_or];by_cases c100:100 < l.length
     ·rw[show decide (100 < (↑(List.length l):Int))=true from decide_eq_true (by omega),decide_eq_true c100]; rfl
     ·rw[show decide (100 < (↑(List.length l):Int))=false from decide_eq_false (by omega),decide_eq_false c100,cond_false,kd,aG (cF (by omega) (by omega)),aG (aC (by omega))];have e:pj l (k+1)=cK (pj l k) [(gt l k).1] (gF l (gt l k).1 k+(gt l k).2):=by rw[pj,kd]
      rw[e];rfl)
  (fun _=>by
   show oY nr P40 P47 qm qn ns w l l (l.length:Int) (l.length:Int) b (pj l l.length)=_;unfold oY;rw[aE,cond_false]) (by omega)with⟨k,h1,h2,h3,h4⟩ | ⟨h3,h4⟩
 ·right;refine⟨?_,_,h4⟩;unfold gw;rw[Bool.or_eq_true,Bool.not_eq_true',decide_eq_true_eq]at h2;rw[Bool.and_eq_false_iff];rcases h2 with h2 | h2
  ·left;rw[← Bool.not_eq_true];intro ha;have:=aK.1 ha k h1;rw[this]at h2; cases h2
  ·right; exact decide_eq_false (by omega)
 ·left;refine⟨?_,h4⟩;unfold gw;rw[Bool.and_eq_true];refine⟨aK.2 fun k hk=>?_,decide_eq_true ?_⟩
  ·have:=h3 k hk;simp only[Bool.or_eq_false_iff,Bool.not_eq_false']at this;exact this.1
  ·by_cases c:l.length≤100
   ·exact c
   ·have:=h3 0 (by omega);simp only[Bool.or_eq_false_iff,decide_eq_false_iff_not]at this;omega
def bZ (b:BT)(l:List PT)(w:Int)(c:CT):Int:=iK b c w-cG l c.1
def jt (b:BT)(l:List PT)(w:Int)(s:List CT):Nat→List PT
 | 0=>[]
 | k+1=>if 0 < bZ b l w (gt s k)then jt b l w s k++[((gt s k).1,bZ b l w (gt s k))]else jt b l w s k
def ju (b:BT)(l:List PT)(w:Int)(s:List CT):Nat→List PT
 | 0=>[]
 | k+1=>if bZ b l w (gt s k) < 0 then ju b l w s k++[((gt s k).1,0-bZ b l w (gt s k))]else ju b l w s k
theorem rV (b:BT)(l:List PT)(w:Int)(s:List CT):∀ k,(jt b l w s k).length≤k
 | 0=>Nat.le_refl _
 | k+1=>by have:=rV b l w s k; rw[jt]; split <;> simp <;> omega
theorem rW (b:BT)(l:List PT)(w:Int)(s:List CT):∀ k,(ju b l w s k).length≤k
 | 0=>Nat.le_refl _
 | k+1=>by have:=rW b l w s k; rw[ju]; split <;> simp <;> omega
theorem Bb {b:BT}{c:CT}{w:Int}(h:bO b=0)(hc:c∈b.2.1)(hw:0≤w∧w≤99):0≤iK b c w∧iK b c w≤10000000000:=by
 have hcb:=dI ((cw (d9 h).1).1 c hc);have hn:eW c w≤100:=by unfold eW; omega
 have hs:=nB (f:=qj b c) (c:=100000000) (n:=eW c w) fun j hj=>vX h hc (w:=w) hj;unfold iK;split <;> omega
theorem Bc {b:BT}{l:List PT}{w:Int}{s:List CT}(hb:qg b)(h:bO b=0)(hs:∀ c∈s,c∈b.2.1)(hsl:s.length≤100)(hw:0≤w∧w≤99)(ho:gw b l=true):
  ry (w,(s.length:Int),0,b,[],[],pj l l.length,s)=some (b,pj l l.length,s,jt b l w s s.length,ju b l w s s.length):=by
 unfold gw at ho;rw[Bool.and_eq_true,aK,decide_eq_true_eq]at ho;have key:=bd (step:=fun x=>FT x.1 x.2.1 x.2.2.1 x.2.2.2.1 x.2.2.2.2.1 x.2.2.2.2.2.1 x.2.2.2.2.2.2.1 x.2.2.2.2.2.2.2) s.length (fun k=>(w,(s.length:Int),(k:Int),b,jt b l w s k,ju b l w s k,pj l l.length,s)) (b,pj l l.length,s,jt b l w s s.length,ju b l w s s.length)
  (fun k hk=>by
   show oZ nr P40 P47 qm qn ns w (s.length:Int) (k:Int) b (jt b l w s k) (ju b l w s k) (pj l l.length) s=_;unfold oZ;have hc:=hs _ (bF hk);have hd:=Bb h hc hw;have hp:=rU (b:=b) (l:=l) (gt s k).1 l.length ho.1;have h1:=rV b l w s k;have h2:=rW b l w s k;have fk:ah .i64 ((k:Int)+1)=true:=aC (by omega);have el:iK b (gt s k) w-gF l (gt s k).1 l.length=bZ b l w (gt s k):=rfl;rw[aw hk,cond_true,aG (am hk),aP,A2 hb h hc hw,aa,kd,aG (cF (by omega) (by omega)),el];have elb:-100000000000≤bZ b l w (gt s k)∧bZ b l w (gt s k)≤100000000000:=by rw[← el]; omega
   by_cases c1:0 < bZ b l w (gt s k)
   ·rw[decide_eq_true c1,cond_true,aG (ci (by simp; omega)),aG fk,jt,if_pos c1,ju,if_neg (by omega)];rfl
   ·rw[decide_eq_false c1,cond_false];by_cases c2:bZ b l w (gt s k) < 0
    ·rw[decide_eq_true c2,cond_true,aG (cF (by omega) (by omega)),aG (ci (by simp; omega)),aG fk,jt,if_neg c1,ju,if_pos c2];rfl
    ·rw[decide_eq_false c2,cond_false,aG fk,jt,if_neg c1,ju,if_neg c2];rfl)
  (by
   show oZ nr P40 P47 qm qn ns w (s.length:Int) (s.length:Int) b _ _ (pj l l.length) s=_;unfold oZ;rw[aE,cond_false])
  (by omega)
 exact key
def dg (b:BT)(l:List PT)(w:Int):Nat→List PT
 | 0=>[]
 | k+1=>match fc b.2.1 (k:Int)with
  | some c=>if 0 < bZ b l w c then dg b l w k++[((k:Int),bZ b l w c)]else dg b l w k
  | none=>dg b l w k
def dS (b:BT)(l:List PT)(w:Int):Nat→List PT
 | 0=>[]
 | k+1=>match fc b.2.1 (k:Int)with
  | some c=>if bZ b l w c < 0 then dS b l w k++[((k:Int),0-bZ b l w c)]else dS b l w k
  | none=>dS b l w k
theorem nE (b:BT)(l:List PT)(w:Int):∀ k,(dg b l w k).length≤k
 | 0=>Nat.le_refl _
 | k+1=>by
  have:=nE b l w k;rw[dg];split
  ·split <;> simp <;> omega
  ·omega
theorem ig (b:BT)(l:List PT)(w:Int):∀ k,(dS b l w k).length≤k
 | 0=>Nat.le_refl _
 | k+1=>by
  have:=ig b l w k;rw[dS];split
  ·split <;> simp <;> omega
  ·omega
theorem Bd {b:BT}{l:List PT}{w f d:Int}{x y:List PT}(ho:∀ k,k < l.length→gG b (gt l k)=true)(hl:l.length≤100)(hd:0≤d∧d≤10000000000):
  vJ (w,l,f,d,0,b,x,y)=some (w,l,f,d-cG l f,b,x,y):=by
 have key:=bd (step:=fun x=>GG x.1 x.2.1 x.2.2.1 x.2.2.2.1 x.2.2.2.2.1 x.2.2.2.2.2.1 x.2.2.2.2.2.2.1 x.2.2.2.2.2.2.2) l.length (fun k=>(w,l,f,d-gF l f k,(k:Int),b,x,y)) (w,l,f,d-cG l f,b,x,y)
  (fun k hk=>by
   show o7 gz P48 gD gq pZ w l f (d-gF l f k) (k:Int) b x y=_;unfold o7;have hp:=rU (b:=b) (l:=l) f k fun j hj=>ho j (by omega);have hk2:=ho k hk;unfold gG at hk2;rw[Bool.and_eq_true,cu]at hk2;have fk:ah .i64 ((k:Int)+1)=true:=aC (by omega);rw[show decide ((k:Int) < (↑(List.length l):Int))=true from aw hk,cond_true,aG (am hk),aP,gF];by_cases c:(gt l k).1=f
   ·rw[decide_eq_true c,cond_true,aG (am hk),aG (cF (by omega) (by omega)),aG fk,if_pos c,Int.sub_sub];rfl
   ·rw[decide_eq_false c,cond_false,aG fk,if_neg c,Int.add_zero];rfl)
  (by
   show o7 gz P48 gD gq pZ w l f (d-gF l f l.length) (l.length:Int) b x y=_;unfold o7;rw[show decide ((l.length:Int) < (↑(List.length l):Int))=false from aE _,cond_false];rfl)
  (by omega)
 have e:d-gF l f 0=d:=by simp[gF]
 rw[show((w,l,f,d,0,b,x,y):Int×List PT×Int×Int×Int×BT×List PT×List PT)=(w,l,f,d-gF l f 0,((0:Nat):Int),b,x,y)by rw[e]; rfl];exact key
theorem Be {b:BT}{l:List PT}{w:Int}(hb:qg b)(h:bO b=0)(hw:0≤w∧w≤99)(ho:gw b l=true):
  vL (w,l,0,b,[],[])=some (b,dg b l w 100,dS b l w 100):=by
 unfold gw at ho;rw[Bool.and_eq_true,aK,decide_eq_true_eq]at ho;have key:=bd (step:=fun x=>GI x.1 x.2.1 x.2.2.1 x.2.2.2.1 x.2.2.2.2.1 x.2.2.2.2.2) 100 (fun k=>(w,l,(k:Int),b,dg b l w k,dS b l w k)) (b,dg b l w 100,dS b l w 100)
  (fun k hk=>by
   show vK gz P48 gD gq pZ vJ w l (k:Int) b (dg b l w k) (dS b l w k)=_;unfold vK;have h1:=nE b l w k;have h2:=ig b l w k;have fk:ah .i64 ((k:Int)+1)=true:=aC (by omega);rw[decide_eq_true (show(k:Int)≤99 by omega),cond_true,tr b _ hb.1,aa,dg,dS];cases hf:fc b.2.1 (k:Int)with
   | none=>show an (ah .i64 ((k:Int)+1)) _=_; rw[aG fk]; rfl
   | some c=>
    obtain⟨hc,hcf⟩:=er hf;have hd:=Bb h hc hw;have hp:=rU (b:=b) (l:=l) (k:Int) l.length ho.1;have el:iK b c w-cG l (k:Int)=bZ b l w c:=by unfold bZ; rw[hcf]
    have elb:-100000000000≤bZ b l w c∧bZ b l w c≤100000000000:=by rw[← el]; unfold cG; omega
    show(pZ (b,c,w)).bind _=_;rw[Jf hb h hc hw,aa,Bd ho.1 ho.2 hd,aa,el];simp only;by_cases c1:0 < bZ b l w c
    ·rw[decide_eq_true c1,cond_true,aG (ci (by simp; omega)),decide_eq_false (show ¬ bZ b l w c < 0 by omega),cond_false,aG fk,if_pos c1,if_neg (by omega)];rfl
    ·rw[decide_eq_false c1,cond_false];by_cases c2:bZ b l w c < 0
     ·rw[decide_eq_true c2,cond_true,aG (cF (by omega) (by omega)),aG (ci (by simp; omega)),aG fk,if_neg c1,if_pos c2];rfl
     ·rw[decide_eq_false c2,cond_false,aG fk,if_neg c1,if_neg c2];rfl)
  (by rfl)
  (by omega)
 exact key
theorem rX {α:Type}(K:α→Int):∀ {l m:List α},l.Pairwise (fun a b=>K a < K b)→m.Pairwise (fun a b=>K a < K b)→(∀ x,x∈l↔x∈m)→l=m
 | [],[],_,_,_=>rfl
 | [],b::m,_,_,h=>absurd ((h b).2 (by simp)) (by simp)
 | a::l,[],_,_,h=>absurd ((h a).1 (by simp)) (by simp)
 | a::l,b::m,hl,hm,h=>by
  rw[List.pairwise_cons]at hl hm;have e:a=b:=by
   rcases List.mem_cons.1 ((h a).1 (by simp))with q | q
   ·exact q
   ·rcases List.mem_cons.1 ((h b).2 (by simp))with p | p
    ·exact p.symm
    ·have:=hl.1 b p;have:=hm.1 a q;omega
  subst e;congr 1;refine rX K hl.2 hm.2 fun x=>?_;constructor
  ·intro hx;rcases List.mem_cons.1 ((h x).1 (List.mem_cons_of_mem _ hx))with q | q
   ·subst q; have:=hl.1 _ hx; omega
   ·exact q
  ·intro hx;rcases List.mem_cons.1 ((h x).2 (List.mem_cons_of_mem _ hx))with q | q
   ·subst q; have:=hm.1 _ hx; omega
   ·exact q
def nF (g:CT→Option Int)(s:List CT):Nat→List PT
 | 0=>[]
 | k+1=>match g (gt s k)with
  | some v=>nF g s k++[((gt s k).1,v)]
  | none=>nF g s k
def ii (g:CT→Option Int)(cs:List CT):Nat→List PT
 | 0=>[]
 | k+1=>match(fc cs (k:Int)).bind g with
  | some v=>ii g cs k++[((k:Int),v)]
  | none=>ii g cs k
theorem nG (g:CT→Option Int)(s:List CT)(x:PT):∀ k,x∈nF g s k↔∃ i,i < k∧g (gt s i)=some x.2∧x.1=(gt s i).1
 | 0=>by
  constructor
  ·intro h; cases h
  ·rintro⟨i,h,_⟩; omega
 | k+1=>by
  have ih:=nG g s x k;rw[nF];cases hg:g (gt s k)with
  | none=>
   simp only;rw[ih];constructor
   ·rintro⟨i,h1,h2⟩; exact⟨i,by omega,h2⟩
   ·rintro⟨i,h1,h2⟩;by_cases e:i=k
    ·subst e; rw[hg]at h2; cases h2.1
    ·exact⟨i,by omega,h2⟩
  | some v=>
   simp only;rw[List.mem_append,List.mem_singleton,ih];constructor
   ·rintro(⟨i,h1,h2⟩ | rfl)
    ·exact⟨i,by omega,h2⟩
    ·exact⟨k,by omega,hg,rfl⟩
   ·rintro⟨i,h1,h2,h3⟩;by_cases e:i=k
    ·subst e;rw[hg]at h2;cases h2;right;exact Prod.ext h3 rfl
    ·exact .inl ⟨i,by omega,h2,h3⟩
theorem fR (g:CT→Option Int)(cs:List CT)(x:PT):∀ k,x∈ii g cs k↔∃ i:Nat,i < k∧(fc cs (i:Int)).bind g=some x.2∧x.1=(i:Int)
 | 0=>by
  constructor
  ·intro h; cases h
  ·rintro⟨i,h,_⟩; omega
 | k+1=>by
  have ih:=fR g cs x k;rw[ii];cases hg:(fc cs (k:Int)).bind g with
  | none=>
   simp only;rw[ih];constructor
   ·rintro⟨i,h1,h2⟩; exact⟨i,by omega,h2⟩
   ·rintro⟨i,h1,h2⟩;by_cases e:i=k
    ·subst e; rw[hg]at h2; cases h2.1
    ·exact⟨i,by omega,h2⟩
  | some v=>
   simp only;rw[List.mem_append,List.mem_singleton,ih];constructor
   ·rintro(⟨i,h1,h2⟩ | rfl)
    ·exact⟨i,by omega,h2⟩
    ·exact⟨k,by omega,hg,rfl⟩
   ·rintro⟨i,h1,h2,h3⟩;by_cases e:i=k
    ·subst e;rw[hg]at h2;cases h2;right;exact Prod.ext h3 rfl
    ·exact .inl ⟨i,by omega,h2,h3⟩
theorem selF_asc (g:CT→Option Int)(cs:List CT):∀ k,(ii g cs k).Pairwise (fun a b=>a.1 < b.1)
 | 0=>List.Pairwise.nil
 | k+1=>by
  rw[ii];split
  ·rw[List.pairwise_append];refine⟨selF_asc g cs k,by simp,fun a ha c hc=>?_⟩;obtain⟨i,h1,_,h3⟩:=(fR g cs a k).1 ha;rw[List.mem_singleton.1 hc,h3];show(i:Int) < (k:Int);omega
  ·exact selF_asc g cs k
theorem selN_asc (g:CT→Option Int)(s:List CT)(hs:∀ i j,i < j→j < s.length→(gt s i).1 < (gt s j).1):∀ k,k≤s.length→(nF g s k).Pairwise (fun a b=>a.1 < b.1)
 | 0,_=>List.Pairwise.nil
 | k+1,hk=>by
  rw[nF];split
  ·rw[List.pairwise_append];refine⟨selN_asc g s hs k (by omega),by simp,fun a ha c hc=>?_⟩;obtain⟨i,h1,_,h3⟩:=(nG g s a k).1 ha;rw[List.mem_singleton.1 hc,h3];exact hs i k h1 (by omega)
  ·exact selN_asc g s hs k (by omega)
theorem G4 {b:BT}(h:bO b=0):b.2.1.Pairwise (fun c d=>c.1≠d.1):=by
 have h1:=(d9 h).1;simp only[nY,Bool.and_eq_true,aK,Bool.not_eq_true',decide_eq_false_iff_not]at h1;rw[List.pairwise_iff_getElem];intro i j hi hj hij;have:=(h1.1 j hj).2 i hij;rw[dz hi,dz hj]at this;exact this
theorem qk {b:BT}(h:bO b=0){c:CT}(hc:c∈b.2.1):fc b.2.1 c.1=some c:=by
 have hf:=G4 h;obtain⟨i,hi,rfl⟩:=dR hc;refine l8 hi (by simp) fun j hj=>?_;have:=List.pairwise_iff_getElem.1 hf j i (by omega) hi hj;rw[← dz (show j < b.2.1.length by omega),← dz hi]at this
 simpa using this
theorem ql {b:BT}(h:bO b=0){s:List CT}(hp:s.Perm b.2.1)(hd:Sd (fun c:CT=>c.1) s 0 s.length)(g:CT→Option Int):nF g s s.length=ii g b.2.1 100:=by
 have hf:s.Pairwise (fun c d=>c.1≠d.1):=(hp.pairwise_iff (fun {a b} q=>Ne.symm q)).2 (G4 h);have hs:∀ i j,i < j→j < s.length→(gt s i).1 < (gt s j).1:=fun i j hij hj=>by
  have h1:=hd i j (by omega) hij hj;have h2:=List.pairwise_iff_getElem.1 hf i j (by omega) hj hij;rw[← dz (show i < s.length by omega),← dz hj]at h2;simp only at h1;omega
 refine rX (fun x:PT=>x.1) (selN_asc g s hs s.length (Nat.le_refl _)) (selF_asc g b.2.1 100) fun x=>?_;rw[nG,fR];constructor
 ·rintro⟨i,h1,h2,h3⟩;have hc:=hp.mem_iff.1 (bF h1);have hb:=dI ((cw (d9 h).1).1 _ hc);refine⟨(gt s i).1.toNat,by omega,?_,by omega⟩;rw[show(((gt s i).1.toNat:Nat):Int)=(gt s i).1 by omega,qk h hc];exact h2
 ·rintro⟨i,h1,h2,h3⟩;obtain⟨c,hc1,hc2⟩:=Option.bind_eq_some_iff.1 h2;obtain⟨m1,m2⟩:=er hc1;obtain⟨j,hj,e⟩:=dR (hp.mem_iff.2 m1);exact⟨j,hj,by rw[e]; exact hc2,by rw[e,m2]; exact h3⟩
def gP (b:BT)(l:List PT)(w:Int)(c:CT):Option Int:=if 0 < bZ b l w c then some (bZ b l w c)else none
def gO (b:BT)(l:List PT)(w:Int)(c:CT):Option Int:=if bZ b l w c < 0 then some (0-bZ b l w c)else none
theorem nH (b:BT)(l:List PT)(w:Int)(s:List CT):∀ k,jt b l w s k=nF (gP b l w) s k
 | 0=>rfl
 | k+1=>by
  rw[jt,nF,nH b l w s k];unfold gP;by_cases c:0 < bZ b l w (gt s k)
  ·rw[if_pos c,if_pos c]
  ·rw[if_neg c,if_neg c]
theorem nI (b:BT)(l:List PT)(w:Int)(s:List CT):∀ k,ju b l w s k=nF (gO b l w) s k
 | 0=>rfl
 | k+1=>by
  rw[ju,nF,nI b l w s k];unfold gO;by_cases c:bZ b l w (gt s k) < 0
  ·rw[if_pos c,if_pos c]
  ·rw[if_neg c,if_neg c]
theorem fS (b:BT)(l:List PT)(w:Int):∀ k,dg b l w k=ii (gP b l w) b.2.1 k
 | 0=>rfl
 | k+1=>by
  rw[dg,ii,fS b l w k];cases fc b.2.1 (k:Int)with
  | none=>rfl
  | some c=>
   show _=(match gP b l w c with
    | some v=>_
    | none=>_)
   unfold gP;by_cases q:0 < bZ b l w c
   ·rw[if_pos q]; simp only[if_pos q]
   ·rw[if_neg q]; simp only[if_neg q]
theorem eU (b:BT)(l:List PT)(w:Int):∀ k,dS b l w k=ii (gO b l w) b.2.1 k
 | 0=>rfl
 | k+1=>by
  rw[dS,ii,eU b l w k];cases fc b.2.1 (k:Int)with
  | none=>rfl
  | some c=>
   show _=(match gO b l w c with
    | some v=>_
    | none=>_)
   unfold gO;by_cases q:bZ b l w c < 0
   ·rw[if_pos q]; simp only[if_pos q]
   ·rw[if_neg q]; simp only[if_neg q]
def nJ (b:BT)(w:Int)(l:List PT):Int×List PT×List PT:=
 if bO b=0 then(if wi w 0 99=true then(if gw b l=true then(0,dg b l w 100,dS b l w 100)else(82,[],[]))else(1,[],[]))else(bO b,[],[])
theorem tA (b:BT)(w:Int)(l:List PT)(hb:qg b)(hl:l.length≤1000):kh (b,w,l)=some (nJ b w l):=by
 show Ou nr P40 P47 qm qn ns L35_0 ry b w l=_;unfold Ou nJ;rw[AL b hb,aa];by_cases h:bO b=0
 ·rw[decide_eq_true h,Bool.not_true,cond_false,gv,aa,if_pos h];cases hw:wi w 0 99 with
  | false=>rw[Bool.not_false,cond_true,if_neg (by decide)]
  | true=>
   rw[Bool.not_true,cond_false,if_pos rfl];rcases Ba b l w hb.1 hl with⟨h1,h2⟩ | ⟨h1,m,h2⟩
   ·obtain⟨s,s1,s2,s3⟩:=G3 b.2.1 (by have:=(cw (d9 h).1).2.2; omega) fun c hc=>(dI ((cw (d9 h).1).1 c hc)).1;have hlen:=s2.length_eq;have h6:=(cw (d9 h).1).2.2;rw[show L35_0 (w,l,l,(↑(List.length l):Int),0,b,[])=_ from h2,aa,bW,h1,if_pos rfl];simp only;rw[show qm b.2.1=some b.2.1 from rfl,aa,s1,aa,show ry (w,(↑(List.length s):Int),0,b,[],[],pj l l.length,s)=_ from Bc hb h (fun c hc=>s2.mem_iff.1 hc) (by omega) (cu.1 hw) h1,aa,
     nH,nI,fS,eU,ql h s2 s3,ql h s2 s3]
   ·rw[show L35_0 (w,l,l,(↑(List.length l):Int),0,b,[])=_ from h2,h1,if_neg (by decide)];rfl
 ·rw[decide_eq_false h,Bool.not_false,cond_true,if_neg h]
theorem Jl (b:BT)(w:Int)(l:List PT)(hb:qg b)(hl:l.length≤1000):GJ (b,w,l)=some (nJ b w l):=by
 show OB gz P48 gD gq pZ vL b w l=_;unfold OB nJ;rw[AE b hb,aa];by_cases h:bO b=0
 ·rw[decide_eq_true h,Bool.not_true,cond_false,js,aa,if_pos h];cases hw:wi w 0 99 with
  | false=>rw[Bool.not_false,cond_true,if_neg (by decide)]
  | true=>
   rw[Bool.not_true,cond_false,if_pos rfl,tz b l hb.1 hl,aa];cases ho:gw b l with
   | false=>rw[Bool.not_false,cond_true,if_neg (by decide)]
   | true=>
    rw[Bool.not_true,cond_false,if_pos rfl,Be hb h (cu.1 hw) ho];rfl
 ·rw[decide_eq_false h,Bool.not_false,cond_true,if_neg h]
theorem tB (a b:List PT)(ha:a.length≤1000000):kj (a,b)=some (decide (a=b)):=by
 show OD vM a b=_;unfold OD;have e2:∀ x y:PT,(decide (x.1=y.1)&&decide (x.2=y.2))=decide (x=y):=fun x y=>by
  rw[Bool.eq_iff_iff,Bool.and_eq_true,decide_eq_true_eq,decide_eq_true_eq,decide_eq_true_eq];exact⟨fun h=>Prod.ext h.1 h.2,fun h=>by rw[h]; exact⟨rfl,rfl⟩⟩
 by_cases hn:a.length=b.length
 ·rw[show decide ((↑(List.length a):Int)=(↑(List.length b):Int))=true from decide_eq_true (by omega),Bool.not_true,cond_false];have e:vM (a,b,0)=some (cond (be a.length (fun k=>decide (gt a k=gt b k))) (Sum.inr ()) (Sum.inl false)):=by
   refine bS (step:=fun x=>GN x.1 x.2.1 x.2.2) a.length (fun k=>(a,b,(k:Int))) (fun k=>decide (gt a k=gt b k)) _ _ (fun k hk=>?_) ?_ (by omega)
   ·show o8 a b (k:Int)=_;unfold o8;rw[show decide ((k:Int) < (↑(List.length a):Int))=true from aw hk,cond_true,aG (am hk),aG (am (by omega)),aP,aP,e2];cases decide (gt a k=gt b k)with
    | false=>rfl
    | true=>rw[Bool.not_true,cond_false,aG (aC (by omega))]; rfl
   ·show o8 a b (a.length:Int)=_;unfold o8;rw[show decide ((a.length:Int) < (↑(List.length a):Int))=false from aE _,cond_false]
  rw[e];have q:be a.length (fun k=>decide (gt a k=gt b k))=decide (a=b):=by
   rw[Bool.eq_iff_iff,aK,decide_eq_true_eq];constructor
   ·intro h; exact ta hn fun i hi=>of_decide_eq_true (h i hi)
   ·rintro rfl k hk; exact decide_eq_true rfl
  rw[q];cases decide (a=b) <;> rfl
 ·rw[show decide ((↑(List.length a):Int)=(↑(List.length b):Int))=false from decide_eq_false (by omega),Bool.not_false,cond_true,decide_eq_false fun e=>hn (by rw[e])]
theorem DG (b:BT)(w:Int)(l:List PT):(nJ b w l).2.1.length≤100∧(nJ b w l).2.2.length≤100:=by
 unfold nJ;split
 ·split
  ·split
   ·exact⟨nE b l w 100,ig b l w 100⟩
   ·exact⟨Nat.zero_le _,Nat.zero_le _⟩
  ·exact⟨Nat.zero_le _,Nat.zero_le _⟩
 ·exact⟨Nat.zero_le _,Nat.zero_le _⟩
theorem Pure.SharePays' (b:BT)(w:Int)(l:List PT):OF (b,w,l)=some true:=by
 show OE jY jv CW kh GJ kj b w l=_;unfold OE;rw[A6,aa];cases hf:tx b with
 | true=>rw[cond_true,fw]; rfl
 | false=>
  have hb:=A7 hf;rw[cond_false];by_cases h150:150 < l.length
  ·rw[show decide (150 < (↑(List.length l):Int))=true from decide_eq_true (by omega),cond_true,fw]; rfl
  ·have hs:=DG b w l;rw[show decide (150 < (↑(List.length l):Int))=false from decide_eq_false (by omega),cond_false,Jh b hb,aa,aG (ci (by simp; omega)),List.nil_append,tA b w l hb (by omega),aa,Jl b w l hb (by omega),aa,
    tB _ _ (by omega),aa,decide_eq_true rfl,cond_true,tB _ _ (by omega),aa,decide_eq_true rfl,cond_true,fw]
   simp only[decide_true,cond_true,aa]
abbrev XT:Ty:=.pair (.int .i64) (.pair (.int .i64) (.pair (.int .i64) (.pair (.sl (.int .i64)) (.pair (.sl (.pair (.int .i64) (.int .i64))) (.pair (.int .i64) (.pair (.int .i64) (.pair (.int .i64) (.int .i64))))))))
abbrev xe:Ty:=.pair (.int .i64) (.pair (.int .i64) (.pair (.int .i64) (.pair (.int .i64) (.pair (.int .i64) (.int .i64)))))
abbrev T4:Ty:=.pair (.int .i64) (.pair (.sl XT) (.sl xe))
abbrev T5:Ty:=.sl (.pair (.int .i64) (.int .i64))
theorem Pure.SharePays (b:BT)(_:Wf T4 b)(w:Int)(_:Wf (.int .i64) w)(l:List PT)(_:Wf T5 l):OF (b,w,l)=some true:=Pure.SharePays' b w l
def jr (q:RT→Bool):List RT→Int
 | []=>0
 | r::l=>(if q r=true then r.2.2.2.2.2 else 0)+jr q l
def rI (l:List RT):Prop:=∀ r∈l,0≤r.2.2.2.2.2∧r.2.2.2.2.2≤10000000
theorem qd {q:RT→Bool}:∀ {l:List RT},rI l→0≤jr q l
 | [],_=>Int.le_refl _
 | r::l,h=>by
  have:=qd (q:=q) (l:=l) fun x hx=>h x (List.mem_cons_of_mem _ hx);have:=h r (by simp);rw[jr]; split <;> omega
theorem vP {q:RT→Bool}:∀ {l:List RT},rI l→jr q l≤10000000*l.length
 | [],_=>Int.le_refl _
 | r::l,h=>by
  have:=vP (q:=q) (l:=l) fun x hx=>h x (List.mem_cons_of_mem _ hx);have:=h r (by simp);rw[jr,List.length_cons]; split <;> omega
theorem nu {q:RT→Bool}:∀ {l:List RT},rI l→∀ r∈l,q r=true→r.2.2.2.2.2≤jr q l
 | [],_,r,hr,_=>by cases hr
 | x::l,h,r,hr,hq=>by
  have h':rI l:=fun y hy=>h y (List.mem_cons_of_mem _ hy);have:=qd (q:=q) h';have:=h x (by simp);rw[jr];rcases List.mem_cons.1 hr with rfl | hr
  ·rw[if_pos hq]; omega
  ·have:=nu h' r hr hq;split <;> omega
theorem pc (f g:Nat→Int):∀ n,sumN n (fun k=>f k+g k)=sumN n f+sumN n g
 | 0=>rfl
 | n+1=>by simp only[sumN]; rw[pc f g n]; omega
theorem qe {f g:Nat→Int}:∀ {n:Nat},(∀ k,k < n→f k≤g k)→sumN n f≤sumN n g
 | 0,_=>Int.le_refl _
 | n+1,h=>by have:=qe (n:=n) fun k hk=>h k (by omega); have:=h n (by omega); simp only[sumN]; omega
theorem rJ {p:Nat→Bool}{q:Bool}{c:Int}(hc:0≤c)(hd:∀ s t,p s=true→p t=true→s=t)(hq:∀ t,p t=true→q=true):∀ n,sumN n (fun t=>if p t=true then c else 0)≤if q=true then c else 0
 | 0=>by simp only[sumN]; split <;> omega
 | n+1=>by
  simp only[sumN];by_cases h:p n=true
  ·rw[if_pos h,if_pos (hq n h),eT (g:=fun _=>0) fun k hk=>if_neg fun e=>by have:=hd k n e h; omega,iD];omega
  ·rw[if_neg h];have:=rJ hc hd hq n;omega
theorem nv {p:Nat→RT→Bool}{q:RT→Bool}(hd:∀ r s t,p s r=true→p t r=true→s=t)(hq:∀ r t,p t r=true→q r=true)(n:Nat):∀ {l:List RT},rI l→sumN n (fun t=>jr (p t) l)≤jr q l
 | [],_=>by simp only[jr,iD]; exact Int.le_refl _
 | r::l,h=>by
  have ih:=nv hd hq n (l:=l) fun x hx=>h x (List.mem_cons_of_mem _ hx);have h1:=rJ (p:=fun t=>p t r) (q:=q r) (h r (by simp)).1 (hd r) (hq r) n;simp only[jr];rw[pc (fun t=>if p t r=true then r.2.2.2.2.2 else 0) (fun t=>jr (p t) l) n];omega
def IQ (w:Int)(r:RT):Bool:=decide (r.2.2.2.1=w)
theorem Au {p:RT→Bool}{l:List RT}(h:rI l):cv (fi p l)≤jr p l:=by
 cases e:fi p l with
 | none=>exact qd h
 | some r=>
  obtain⟨h1,h2,_⟩:=(eR p l).2 r e;exact nu h r h1 h2
theorem Av {l:List RT}{f w:Int}(h:rI l):rO l f w≤jr (IQ w) l:=by
 unfold rO;cases e:fi (pA f w) l with
 | none=>
  simp only;refine Int.le_trans (qe (n:=10) fun t _=>Au (p:=pT f w t) h) (nv (p:=fun t=>pT f w t) (q:=IQ w) (fun r s t hs ht=>?_) (fun r t ht=>?_) 10 h)
  ·simp only[pT,Bool.and_eq_true,decide_eq_true_eq]at hs ht;omega
  ·simp only[pT,Bool.and_eq_true,decide_eq_true_eq]at ht;simp only[IQ,decide_eq_true_eq];exact ht.2.1
 | some r=>
  obtain⟨h1,h2,_⟩:=(eR _ l).2 r e;refine nu h r h1 ?_;simp only[pA,Bool.and_eq_true,decide_eq_true_eq]at h2;simp only[IQ,decide_eq_true_eq];exact h2.2.1
theorem Aw {b:BT}{c:CT}{w:Int}(h:bO b=0)(hc:c∈b.2.1)(hw:0≤w∧w≤99):0≤iK b c w∧iK b c w≤1000000000:=by
 have hcb:=dI ((cw (d9 h).1).1 c hc);refine⟨(Bb h hc hw).1,?_⟩;have hp:rI b.2.2:=fun r hr=>((kc (d9 h).2.2).2 r hr).2.2.2;have h1:sumN (eW c w) (qj b c)≤sumN (eW c w) (fun k=>jr (IQ (c.2.1+k)) b.2.2):=qe fun k hk=>by
  unfold eW at hk;have:=qi (NN (f:=c.1) (w:=c.2.1+k) h hc (by omega));have e:aF b.1 (rO b.2.2 c.1 (c.2.1+k))≤rO b.2.2 c.1 (c.2.1+k):=by unfold aF; omega
  have:=Av (f:=c.1) (w:=c.2.1+k) hp;unfold qj;omega
 have h2:=nv (p:=fun k=>IQ (c.2.1+(k:Nat))) (q:=fun _=>true) (fun r s t hs ht=>by simp only[IQ,decide_eq_true_eq]at hs ht; omega) (fun r t ht=>rfl) (eW c w) hp;have h3:=vP (q:=fun _=>true) hp;have:=(d9 h).2.1;unfold iK;split <;> omega
theorem vQ (l m:List PT)(f:Int):∀ k,k≤l.length→gF (l++m) f k=gF l f k
 | 0,_=>rfl
 | k+1,h=>by rw[gF,gF,vQ l m f k (by omega),show gt (l++m) k=gt l k by rw[oT,if_pos (by omega)]]
theorem iC (l:List PT)(x:PT)(f:Int):cG (l++[x]) f=cG l f+if x.1=f then x.2 else 0:=by
 unfold cG;rw[List.length_append,List.length_singleton,gF,vQ l [x] f _ (Nat.le_refl _),show gt (l++[x]) l.length=x by rw[oT,if_neg (by omega),Nat.sub_self]; rfl]
theorem rK (f:Int):cG [] f=0:=rfl
theorem jZ (f:Int):∀ (m l:List PT),cG (l++m) f=cG l f+cG m f
 | [],l=>by rw[List.append_nil,rK]; omega
 | x::m,l=>by
  rw[show l++x::m=(l++[x])++m by simp,jZ f m,iC,show x::m=[x]++m from rfl,jZ f m [x],show([x]:List PT)=[]++[x]from rfl,iC,rK];omega
theorem nw (g:CT→Option Int)(cs:List CT)(f:Int):∀ k:Nat,cG (ii g cs k) f=if 0≤f∧f < k then((fc cs f).bind g).getD 0 else 0
 | 0=>by rw[if_neg (by omega)]; rfl
 | k+1=>by
  have ih:=nw g cs f k;rw[ii];by_cases e:f=(k:Int)
  ·subst e;rw[if_neg (by omega)]at ih;rw[if_pos ⟨by omega,by omega⟩];cases hv:(fc cs (k:Int)).bind g with
   | none=>simp only; rw[ih]; rfl
   | some v=>simp only; rw[iC,ih,if_pos rfl]; exact Int.zero_add _
  ·have e2:(if 0≤f∧f < ((k+1:Nat):Int)then((fc cs f).bind g).getD 0 else 0)=if 0≤f∧f < (k:Int)then((fc cs f).bind g).getD 0 else 0:=by
    by_cases c:0≤f∧f < (k:Int)
    ·rw[if_pos c,if_pos (by omega)]
    ·rw[if_neg c,if_neg (by omega)]
   rw[e2,← ih];cases hv:(fc cs (k:Int)).bind g with
   | none=>rfl
   | some v=>simp only; rw[iC,if_neg (fun q=>e q.symm)]; omega
theorem Dy (b:BT)(l:List PT)(w:Int)(c:CT):(gP b l w c).getD 0=max 0 (bZ b l w c):=by
 unfold gP; split
 ·show bZ b l w c=_; omega
 ·show 0=_; omega
theorem Dz (b:BT)(l:List PT)(w:Int)(c:CT):(gO b l w c).getD 0=max 0 (0-bZ b l w c):=by
 unfold gO; split
 ·show 0-bZ b l w c=_; omega
 ·show 0=_; omega
theorem pe {b:BT}(h:bO b=0){l:List PT}{w:Int}{c:CT}(hc:c∈b.2.1):cG (dg b l w 100) c.1=max 0 (bZ b l w c):=by
 have hb:=(dI ((cw (d9 h).1).1 c hc)).1;rw[fS,nw,if_pos ⟨by omega,by omega⟩,qk h hc];exact Dy b l w c
theorem xa {b:BT}(h:bO b=0){l:List PT}{w:Int}{c:CT}(hc:c∈b.2.1):cG (dS b l w 100) c.1=max 0 (0-bZ b l w c):=by
 have hb:=(dI ((cw (d9 h).1).1 c hc)).1;rw[eU,nw,if_pos ⟨by omega,by omega⟩,qk h hc];exact Dz b l w c
theorem vR {b:BT}(h:bO b=0){l:List PT}{w:Int}{c:CT}(hc:c∈b.2.1):bZ b (l++dg b l w 100) w c=min 0 (bZ b l w c):=by
 have:=pe h (l:=l) (w:=w) hc;unfold bZ at *;rw[jZ,this];omega
theorem Ax {b:BT}(h:bO b=0){l:List PT}{w:Int}:dg b (l++dg b l w 100) w 100=[]:=by
 rw[fS];refine List.eq_nil_iff_forall_not_mem.2 fun x hx=>?_;obtain⟨i,h1,h2,h3⟩:=(fR _ _ _ _).1 hx;obtain⟨c,c1,c2⟩:=Option.bind_eq_some_iff.1 h2;have:=vR h (l:=l) (w:=w) (er c1).1;unfold gP at c2;rw[this,if_neg (by omega)]at c2;cases c2
theorem ny {g g':CT→Option Int}{cs:List CT}(h:∀ c∈cs,g c=g' c):∀ k,ii g cs k=ii g' cs k
 | 0=>rfl
 | k+1=>by
  have e:(fc cs (k:Int)).bind g=(fc cs (k:Int)).bind g':=by
   cases hf:fc cs (k:Int)with
   | none=>rfl
   | some c=>exact h c (er hf).1
  rw[ii,ii,e,ny h k]
theorem Ay {b:BT}(h:bO b=0){l:List PT}{w:Int}:dS b (l++dg b l w 100) w 100=dS b l w 100:=by
 rw[eU,eU];refine ny (fun c hc=>?_) 100;unfold gO;rw[vR h hc];by_cases q:bZ b l w c < 0
 ·rw[if_pos q,if_pos (by omega)]; congr 2; omega
 ·rw[if_neg q,if_neg (by omega)]
theorem nz (b:BT)(l:List PT)(w:Int)(s:List CT):∀ k,(jt b l w s k).length+(ju b l w s k).length≤k
 | 0=>Nat.le_refl _
 | k+1=>by
  have:=nz b l w s k;rw[jt,ju];by_cases c:0 < bZ b l w (gt s k)
  ·rw[if_pos c,if_neg (by omega),List.length_append,List.length_singleton]; omega
  ·rw[if_neg c]; split
   ·rw[List.length_append,List.length_singleton]; omega
   ·omega
theorem pf {b:BT}(h:bO b=0)(l:List PT)(w:Int):(dg b l w 100).length+(dS b l w 100).length≤b.2.1.length:=by
 obtain⟨s,s1,s2,s3⟩:=G3 b.2.1 (by have:=(cw (d9 h).1).2.2; omega) fun c hc=>(dI ((cw (d9 h).1).1 c hc)).1;have:=nz b l w s s.length;rw[fS,eU,← ql h s2 s3,← ql h s2 s3,← nH,← nI,← s2.length_eq];exact this
theorem ic {b:BT}{l:List PT}:gw b l=true↔(∀ p∈l,gG b p=true)∧l.length≤100:=by
 unfold gw;rw[Bool.and_eq_true,pV (p:=gG b),decide_eq_true_eq]
theorem xb {l:List PT}{M:Int}(hM:0≤M)(h:∀ p∈l,0≤p.2∧p.2≤M)(f:Int):∀ k,k≤l.length→0≤gF l f k∧gF l f k≤M*k
 | 0,_=>⟨Int.le_refl _,by simp[gF]⟩
 | k+1,hk=>by
  have ih:=xb hM h f k (by omega);have:=h _ (bF (show k < l.length by omega));have e:M*((k+1:Nat):Int)=M*k+M:=by rw[Int.natCast_add,Int.mul_add,Int.natCast_one,Int.mul_one]
  rw[gF,e];split <;> omega
theorem rL {b:BT}(h:bO b=0){l:List PT}{w:Int}(hw:0≤w∧w≤99)(hl:l.length≤80)(ho:gw b l=true):gw b (l++dg b l w 100)=true:=by
 rw[ic]at ho ⊢;have h6:=(cw (d9 h).1).2.2;have:=pf h l w;refine⟨fun p hp=>?_,by rw[List.length_append]; omega⟩;rcases List.mem_append.1 hp with hp | hp
 ·exact ho.1 p hp
 ·rw[fS]at hp;obtain⟨i,h1,h2,h3⟩:=(fR _ _ _ _).1 hp;obtain⟨c,c1,c2⟩:=Option.bind_eq_some_iff.1 h2;have hd:=Aw h (er c1).1 hw;have hn:0≤cG l c.1:=(xb (M:=1000000000) (by omega) (fun p hp=>by have:=ho.1 p hp; unfold gG at this; rw[Bool.and_eq_true,cu]at this; exact this.2) c.1 l.length (Nat.le_refl _)).1;unfold gG;rw[h3,c1];unfold gP at c2;split at c2
  ·rename_i hp;have e:=Option.some.inj c2;unfold bZ at *;rw[Bool.and_eq_true,cu];exact⟨rfl,by omega⟩
  ·cases c2
theorem Az {w i f s:Int}{b:BT}{x a:List PT}(ha:∀ p∈a,0≤p.2∧p.2≤1000000000)(hl:a.length≤1000):rA (w,i,f,0,0,b,x,a)=some (w,i,f,cG a f,b,x,a):=by
 refine bd (step:=fun x=>GV x.1 x.2.1 x.2.2.1 x.2.2.2.1 x.2.2.2.2.1 x.2.2.2.2.2.1 x.2.2.2.2.2.2.1 x.2.2.2.2.2.2.2) a.length (fun k=>(w,i,f,gF a f k,(k:Int),b,x,a)) (w,i,f,cG a f,b,x,a)
  (fun k hk=>?_) ?_ (by omega)
 ·show o9 jY jv gz gD kh kj P21 w i f (gF a f k) (k:Int) b x a=_;unfold o9;have hp:=xb (M:=1000000000) (by omega) ha f k (by omega);have hk2:=ha _ (bF hk);have fk:ah .i64 ((k:Int)+1)=true:=aC (by omega);rw[show decide ((k:Int) < (↑(List.length a):Int))=true from aw hk,cond_true,aG (am hk),aP,gF];by_cases c:(gt a k).1=f
  ·rw[decide_eq_true c,cond_true,aG (am hk),aG (cF (by omega) (by omega)),aG fk,if_pos c];rfl
  ·rw[decide_eq_false c,cond_false,aG fk,if_neg c,Int.add_zero];rfl
 ·show o9 jY jv gz gD kh kj P21 w i f (gF a f a.length) (a.length:Int) b x a=_;unfold o9;rw[show decide ((a.length:Int) < (↑(List.length a):Int))=false from aE _,cond_false];rfl
theorem AA {w i f s:Int}{b:BT}{x a:List PT}(ha:∀ p∈x,0≤p.2∧p.2≤1000000000000)(hl:x.length≤1000)(hs:0≤s∧s≤1000000000000):rB (w,i,f,s,0,b,x,a)=some (w,i,f,s-cG x f,b,x,a):=by
 have key:=bd (step:=fun x=>GX x.1 x.2.1 x.2.2.1 x.2.2.2.1 x.2.2.2.2.1 x.2.2.2.2.2.1 x.2.2.2.2.2.2.1 x.2.2.2.2.2.2.2) x.length (fun k=>(w,i,f,s-gF x f k,(k:Int),b,x,a)) (w,i,f,s-cG x f,b,x,a)
  (fun k hk=>by
   show pa jY jv gz gD kh kj P21 w i f (s-gF x f k) (k:Int) b x a=_;unfold pa;have hp:=xb (M:=1000000000000) (by omega) ha f k (by omega);have hk2:=ha _ (bF hk);have fk:ah .i64 ((k:Int)+1)=true:=aC (by omega);rw[show decide ((k:Int) < (↑(List.length x):Int))=true from aw hk,cond_true,aG (am hk),aP,gF];by_cases c:(gt x k).1=f
   ·rw[decide_eq_true c,cond_true,aG (am hk),aG (cF (by omega) (by omega)),aG fk,if_pos c,Int.sub_sub];rfl
   ·rw[decide_eq_false c,cond_false,aG fk,if_neg c,Int.add_zero];rfl)
  (by
   show pa jY jv gz gD kh kj P21 w i f (s-gF x f x.length) (x.length:Int) b x a=_;unfold pa;rw[show decide ((x.length:Int) < (↑(List.length x):Int))=false from aE _,cond_false];rfl)
  (by omega)
 have e:s-gF x f 0=s:=by simp[gF]
 rw[show((w,i,f,s,0,b,x,a):Int×Int×Int×Int×Int×BT×List PT×List PT)=(w,i,f,s-gF x f 0,((0:Nat):Int),b,x,a)by rw[e]; rfl];exact key
theorem IS {b:BT}(h:bO b=0){l:List PT}{w:Int}(hw:0≤w∧w≤99)(ho:gw b l=true):∀ p∈dS b l w 100,0≤p.2∧p.2≤1000000000000:=fun p hp=>by
 rw[ic]at ho;rw[eU]at hp;obtain⟨i,h1,h2,h3⟩:=(fR _ _ _ _).1 hp;obtain⟨c,c1,c2⟩:=Option.bind_eq_some_iff.1 h2;have hd:=Aw h (er c1).1 hw;have hn:=xb (M:=1000000000) (by omega) (fun p hp=>by have:=ho.1 p hp; unfold gG at this; rw[Bool.and_eq_true,cu]at this; exact this.2) c.1 l.length (Nat.le_refl _);unfold gO at c2;split at c2
 ·rename_i hp;have e:=Option.some.inj c2;unfold bZ cG at *;omega
 ·cases c2
theorem AB {b:BT}{l:List PT}{w:Int}(hb:qg b)(h:bO b=0)(hw:0≤w∧w≤99)(hl:l.length≤80)(ho:gw b l=true):
  vN (w,0,b,dS b l w 100,l++dg b l w 100)=some (.inr (b,dS b l w 100,l++dg b l w 100)):=by
 have hoa:=rL h hw hl ho;have ha:∀ p∈l++dg b l w 100,0≤p.2∧p.2≤1000000000:=fun p hp=>by
  have:=(ic.1 hoa).1 p hp; unfold gG at this; rw[Bool.and_eq_true,cu]at this; exact this.2
 have hal:=(ic.1 hoa).2;have hov:=IS h hw ho;have hovl:=ig b l w 100;have h6:=(cw (d9 h).1).2.2;refine bd (step:=fun x=>GZ x.1 x.2.1 x.2.2.1 x.2.2.2.1 x.2.2.2.2) b.2.1.length (fun k=>(w,(k:Int),b,dS b l w 100,l++dg b l w 100)) (.inr (b,dS b l w 100,l++dg b l w 100))
  (fun k hk=>?_) ?_ (by omega)
 ·show pb jY jv gz gD kh kj P21 rA rB w (k:Int) b (dS b l w 100) (l++dg b l w 100)=_;unfold pb;have hc:=bF hk;have hpb:=xb (M:=1000000000) (by omega) ha (gt b.2.1 k).1 _ (Nat.le_refl _);have fk:ah .i64 ((k:Int)+1)=true:=aC (by omega);have e21:P21 (b,(gt b.2.1 k).1,w)=some (iK b (gt b.2.1 k) w,0):=by
   rw[A3 b _ _ hb];unfold OU;rw[if_pos h,qk h hc];simp only;rw[cu.2 hw,cond_true]
  have es:cG (l++dg b l w 100) (gt b.2.1 k).1-cG (dS b l w 100) (gt b.2.1 k).1=iK b (gt b.2.1 k) w:=by
   rw[jZ,pe h hc,xa h hc];unfold bZ;omega
  rw[show decide ((k:Int) < (↑(List.length b.2.1):Int))=true from aw hk,cond_true,aG (am hk),aP,Az (s:=0) ha (by omega),aa];simp only;rw[AA hov (by omega) (by unfold cG; omega),aa];simp only;rw[e21,aa,es];simp only[decide_true,Bool.not_true,cond_false];rw[aG fk];rfl
 ·show pb jY jv gz gD kh kj P21 rA rB w (b.2.1.length:Int) b _ _=_;unfold pb;rw[show decide ((b.2.1.length:Int) < (↑(List.length b.2.1):Int))=false from aE _,cond_false]
theorem Pure.SharePaid' (b:BT)(w:Int)(l:List PT):OH (b,w,l)=some true:=by
 show OG jY jv gz gD kh kj P21 vN b w l=_;unfold OG;rw[A6,aa];cases hf:tx b with
 | true=>rw[cond_true,fw]; rfl
 | false=>
  have hb:=A7 hf;rw[cond_false,AE b hb,aa];by_cases h:bO b=0
  ·rw[decide_eq_true h,Bool.not_true,cond_false];by_cases w1:w < 0
   ·rw[decide_eq_true w1,cond_true,fw]; rfl
   rw[decide_eq_false w1,cond_false];by_cases w2:99 < w
   ·rw[decide_eq_true w2,cond_true,fw]; rfl
   rw[decide_eq_false w2,cond_false];by_cases h80:80 < l.length
   ·rw[show decide (80 < (↑(List.length l):Int))=true from decide_eq_true (by omega),cond_true,fw]; rfl
   rw[show decide (80 < (↑(List.length l):Int))=false from decide_eq_false (by omega),cond_false,tz b l hb.1 (by omega),aa];cases ho:gw b l with
   | false=>rw[Bool.not_false,cond_true,fw]; rfl
   | true=>
    have hw:0≤w∧w≤99:=⟨by omega,by omega⟩
    have e1:nJ b w l=(0,dg b l w 100,dS b l w 100):=by unfold nJ; rw[if_pos h,if_pos (cu.2 hw),if_pos ho]
    have hoa:=rL h hw (by omega) ho;have e2:nJ b w (l++dg b l w 100)=(0,[],dS b l w 100):=by unfold nJ; rw[if_pos h,if_pos (cu.2 hw),if_pos hoa,Ax h,Ay h]
    have hal:=(ic.1 hoa).2;have h6:=(cw (d9 h).1).2.2;have hpl:=pf h l w;have hovl:=ig b l w 100;rw[Bool.not_true,cond_false,tA b w l hb (by omega),aa,e1];simp only[decide_true,Bool.not_true,cond_false];rw[aG (cF (by omega) (by omega)),decide_eq_false (show ¬ (↑(List.length b.2.1):Int) < (↑(List.length (dg b l w 100)):Int)+(↑(List.length (dS b l w 100)):Int)by omega),cond_false,List.nil_append,aG (ci (by simp; omega)),aG (ci (by omega)),tz b _ hb.1 (by omega),aa,hoa,Bool.not_true,cond_false,
     tA b w _ hb (by omega),aa,e2]
    simp only[decide_true,Bool.not_true,cond_false];rw[show decide (0 < (↑(List.length ([]:List PT)):Int))=false from rfl,cond_false,tB _ _ (by omega),aa,decide_eq_true rfl,Bool.not_true,cond_false,AB hb h hw (by omega) ho,aa];show(jv ()).bind _=_;rw[fw];rfl
  ·rw[decide_eq_false h,Bool.not_false,cond_true,fw]; rfl
theorem Pure.SharePaid (b:BT)(_:Wf T4 b)(w:Int)(_:Wf (.int .i64) w)(l:List PT)(_:Wf T5 l):OH (b,w,l)=some true:=Pure.SharePaid' b w l
end Go.Proofs.Ytfknkinmnecoeaa.D
