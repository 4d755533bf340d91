/- Cut down from longer texts. -/
import Derived.Test.YtdkaijofmigmbaaM1f
import Derived.Test.YtdkaijofmigmbaaB3f
set_option linter.unusedVariables false
set_option linter.unusedSimpArgs false
set_option linter.unusedSectionVars false
namespace Go.Proofs.Ytdkaijofmigmbaa.D
open Go Go.Proofs Go.Proofs.Ytdkaijofmigmbaa.L
def VR:List Int×Int:=([5,3],10)
def P1:List aB:=[(1,0,1,1,2),(2,1,1,2,2),(3,5,2,1,0),(4,12,1,3,3),(5,11,2,2,0)]
def exS:List aB:=[(1,0,1,1,2),(2,1,1,2,2),(3,5,2,1,0),(5,11,2,2,0),(4,12,1,3,3)]
theorem Uw:cY VR:=by decide +kernel
theorem yP:dO P1:=by decide +kernel
theorem yQ:hrd P1=exS:=(wz (by decide) yP.2.1 yP.2.2 (by decide +kernel) (fun x=>(by decide +kernel:exS.Perm P1).mem_iff)).symm
theorem yR {m o z:Int}(h1:0≤m∧m≤9999)(h2:0≤o∧o≤99)(h3:1≤z∧z≤12):eO VR P1 m o z=0:=fG.2 ⟨⟨Uw,yP⟩,h1,h2,h3⟩
theorem HG:fJ ()=some true:=by
 show q14 P41 P15 P21 P16 P20=_;unfold q14;rw[show P41 ()=some (10,[5,3],P1)from rfl,aa];simp only;rw[show(([5,3],10):List Int×Int)=VR from rfl,Uu 12 (by decide) (by decide),aa,HF 1 (by decide) (by decide),aa,Uv 12 (by decide) (by decide),aa];have e1:Ld VR P1 12 2=((4,-1,-1,2),0):=by
  unfold Ld aM;rw[if_pos (yR (by decide) (by decide) (by decide)),yQ]
  decide +kernel
 have e2:sI VR P1 1 1=(0,4,0):=by
  unfold sI aM;rw[if_pos (yR (by decide) (by decide) (by decide)),yQ]
  decide +kernel
 have e3:Bq VR P1 12=(0,[2]):=by
  unfold Bq aM;rw[if_pos (yR (by decide) (by decide) (by decide)),yQ]
  decide +kernel
 rw[e1,e2,e3];simp only[Us [2] [2] (by decide)];rfl
theorem Ux (h:List Int×Int)(l:List aB):wN (h,l)=some (decide (30 < h.1.length∨60 < l.length)):=by
 show cond (decide (30 < (↑(List.length h.1):Int))) (some true) (some (decide (60 < (↑(List.length l):Int))))=_;by_cases h1:30 < h.1.length
 ·rw[decide_eq_true (show 30 < (↑(List.length h.1):Int)by omega),decide_eq_true (show 30 < h.1.length∨60 < l.length from .inl h1)];rfl
 ·rw[decide_eq_false (show ¬ 30 < (↑(List.length h.1):Int)by omega),cond_false];congr 1;rw[Bool.eq_iff_iff,decide_eq_true_eq,decide_eq_true_eq];omega
theorem Uy (h:List Int×Int)(l:List aB)(hh:h.1.length≤1000)(hl:l.length≤1000):CY (h,l)=some (h.2,h.1,l):=by
 show ai (bC 8 (List.length ([]:List Int)+List.length h.1)) (ai (bC 40 (List.length l)) (some (h.2,([]++h.1),l)))=_;rw[ak (bY (by simp; omega)),ak (bY (by omega))];rfl
abbrev TyH:Ty:=.pair (.sl (.int .i64)) (.int .i64)
abbrev TyC:Ty:=.sl (.pair (.int .i64) (.pair (.int .i64) (.pair (.int .i64) (.pair (.int .i64) (.int .i64)))))
abbrev TyX:Ty:=.pair (.int .i64) (.pair (.int .i64) (.int .i64))
def cH:Nat→List Int→List Nat
 | n,[]=>if 0 < n then [n]else []
 | n,v::l=>if v = -1 then cH (n+1) l else(if 0 < n then [n]else [])++cH 0 l
def grd (z:Nat):Nat→List Int→Nat
 | 0,_=>0
 | _+1,[]=>0
 | f+1,v::l=>if nQ (v::l) 0 z=true then 1+grd z f ((v::l).drop z)else grd z f l
theorem HH (l:List Int)(s z:Nat):nQ (l.drop s) 0 z=nQ l s z:=by
 unfold nQ;exact iN fun k _=>by rw[zO,Nat.zero_add]
theorem me {l:List Int}{s z:Nat}(hz:1≤z)(h:nQ l s z=true):s+z≤l.length:=by
 by_cases c:s+z≤l.length
 ·exact c
 ·have:=kq.1 h (s+z-1) (by omega) (by omega);rw[LD (by omega)]at this;cases this
theorem jM (z:Nat)(hz:1≤z):∀ (f:Nat) (l:List Int) (f':Nat),l.length≤f→l.length≤f'→grd z f l=grd z f' l
 | 0,l,f',h,_=>by
  have:l=[]:=List.length_eq_zero_iff.1 (by omega);subst this;cases f' <;> rfl
 | f+1,[],f',_,_=>by cases f' <;> rfl
 | f+1,v::l,0,_,h=>by simp at h
 | f+1,v::l,f'+1,h,h'=>by
  simp only[List.length_cons]at h h';simp only[grd];split
  ·rw[jM z hz f _ f' (by simp only[List.length_drop,List.length_cons]; omega) (by simp only[List.length_drop,List.length_cons]; omega)]
  ·rw[jM z hz f l f' (by omega) (by omega)]
theorem HI (n:Nat)(l:List Int)(i:Nat):gt (List.replicate n (-1)++l) i=if i < n then -1 else gt l (i-n):=by
 rw[mZ,List.length_replicate];by_cases h:i < n
 ·rw[if_pos h,if_pos h,iU _ _ h]
 ·rw[if_neg h,if_neg h]
theorem HJ (n z:Nat)(l:List Int)(h:z≤n):(List.replicate n (-1)++l).drop z=List.replicate (n-z) (-1)++l:=by
 rw[List.drop_append_of_le_length (by simpa using h),List.drop_replicate]
theorem Lf (n z:Nat)(l:List Int)(hl:gt l 0 ≠ -1):nQ (List.replicate n (-1)++l) 0 z=decide (z≤n):=by
 rw[Bool.eq_iff_iff,kq,decide_eq_true_eq];constructor
 ·intro h;by_cases c:z≤n
  ·exact c
  ·have:=h n (by omega) (by omega);rw[HI,if_neg (by omega),Nat.sub_self]at this;exact absurd this hl
 ·intro h i _ hi;rw[HI,if_pos (by omega)]
theorem Br (z:Nat)(hz:1≤z)(l:List Int)(hl:gt l 0 ≠ -1):∀ (n f:Nat),n+l.length≤f→grd z f (List.replicate n (-1)++l)=n / z+grd z f l:=by
 intro n
 induction n using Nat.strongRecOn with
 | ind n ih=>
  intro f hf;cases n with
  | zero=>simp
  | succ n=>
   cases f with
   | zero=>omega
   | succ f=>
    have e:List.replicate (n+1) (-1:Int)++l = -1::(List.replicate n (-1)++l):=rfl;have hi:=Lf (n+1) z l hl;rw[e]at hi;have hfl:grd z (f+1) l=grd z f l:=jM z hz _ _ _ (by omega) (by omega);rw[e,grd,hi];by_cases c:z≤n+1
    ·rw[if_pos (decide_eq_true c),← e,HJ _ _ _ c,ih (n+1-z) (by omega) f (by omega),hfl];have:(n+1) / z=(n+1-z) / z+1:=Nat.div_eq_sub_div (by omega) c;omega
    ·rw[if_neg (by simpa using c),ih n (by omega) f (by omega),hfl,Nat.div_eq_of_lt (by omega),Nat.div_eq_of_lt (by omega)]
theorem HK (z:Nat)(hz:1≤z){v:Int}(hv:v ≠ -1)(l:List Int)(f:Nat):grd z (f+1) (v::l)=grd z f l:=by
 rw[grd,if_neg];intro h;have:=kq.1 h 0 (Nat.le_refl _) (by omega);exact hv this
theorem Lg:gt ([]:List Int) 0 ≠ -1:=by decide
theorem mf (z:Nat)(hz:1≤z):∀ (l:List Int) (n f:Nat),n+l.length≤f→((cH n l).map (· / z)).sum=grd z f (List.replicate n (-1)++l)
 | [],n,f,h=>by
  rw[Br z hz [] Lg n f (by simpa using h)];have e:grd z f []=0:=by cases f <;> rfl
  rw[e,cH];by_cases c:0 < n
  ·rw[if_pos c]; simp
  ·rw[if_neg c];obtain rfl:n=0:=by omega
   simp
 | v::l,n,f,h=>by
  simp only[List.length_cons]at h;rw[cH];by_cases c:v = -1
  ·rw[if_pos c,mf z hz l (n+1) f (by omega)];congr 1;rw[c,List.replicate_succ',List.append_assoc];rfl
  ·rw[if_neg c,Br z hz (v::l) c n f (by simp only[List.length_cons]; omega)];cases f with
   | zero=>omega
   | succ f=>
    rw[HK z hz c,List.map_append,List.sum_append,mf z hz l 0 f (by omega)];by_cases d:0 < n
    ·rw[if_pos d]; simp
    ·rw[if_neg d];obtain rfl:n=0:=by omega
     simp
def Lh (z:Nat)(l:List Int):Prop:=∃ s,nQ l s z=true
theorem Bs (z:Nat)(hz:1≤z):∀ (f:Nat) (l:List Int),l.length≤f→(0 < grd z f l↔Lh z l)
 | 0,l,h=>by
  have:l=[]:=List.length_eq_zero_iff.1 (by omega);subst this;constructor
  ·intro q; exact absurd q (by simp[grd])
  ·rintro⟨s,q⟩; have:=me hz q; simp at this; omega
 | f+1,[],_=>by
  constructor
  ·intro q; exact absurd q (by simp[grd])
  ·rintro⟨s,q⟩; have:=me hz q; simp at this; omega
 | f+1,v::l,h=>by
  simp only[List.length_cons]at h;rw[grd];by_cases c:nQ (v::l) 0 z=true
  ·rw[if_pos c]; exact⟨fun _=>⟨0,c⟩,fun _=>by omega⟩
  ·rw[if_neg c,Bs z hz f l (by omega)];constructor
   ·rintro⟨s,q⟩;refine⟨s+1,?_⟩;rw[kq]at q ⊢;intro i h1 h2;have:=q (i-1) (by omega) (by omega);obtain⟨j,rfl⟩:∃ j,i=j+1:=⟨i-1,by omega⟩;exact this
   ·rintro⟨s,q⟩;cases s with
    | zero=>exact absurd q c
    | succ s=>
     refine⟨s,?_⟩;rw[kq]at q ⊢;intro i h1 h2;exact q (i+1) (by omega) (by omega)
theorem nR (z:Nat)(hz:1≤z):∀ (l:List Nat),0 < (l.map (· / z)).sum↔∃ r∈l,z≤r
 | []=>by simp
 | r::l=>by
  simp only[List.map_cons,List.sum_cons,List.mem_cons];have ih:=nR z hz l;have hp:0 < r / z↔z≤r:=by
   rw[Nat.div_pos_iff]; omega
  constructor
  ·intro h;by_cases c:0 < r / z
   ·exact⟨r,.inl rfl,hp.1 c⟩
   ·obtain⟨q,h1,h2⟩:=ih.1 (by omega);exact⟨q,.inr h1,h2⟩
  ·rintro⟨q,rfl | h1,h2⟩
   ·have:=hp.2 h2; omega
   ·exact Nat.lt_of_lt_of_le (ih.2 ⟨q,h1,h2⟩) (Nat.le_add_left _ _)
theorem qp {z:Nat}(hz:1≤z)(l:List Int):(∃ r∈cH 0 l,z≤r)↔Lh z l:=by
 rw[← nR z hz,mf z hz l 0 l.length (by omega)];exact Bs z hz l.length l (Nat.le_refl _)
theorem HL {z:Nat}(hz:1≤z){l:List Int}(h:Lh z l):z≤l.length:=by
 obtain⟨s,q⟩:=h;have:=me hz q;omega
def gl (seats:List (List Int)):List Nat:=seats.flatMap (cH 0)
def grpS (z:Nat)(seats:List (List Int)):Nat:=(seats.map fun l=>grd z l.length l).sum
theorem wE (z:Nat)(hz:1≤z):∀ (seats:List (List Int)),((gl seats).map (· / z)).sum=grpS z seats
 | []=>rfl
 | l::s=>by
  have ih:=wE z hz s;have e1:gl (l::s)=cH 0 l++gl s:=rfl;have e2:grpS z (l::s)=grd z l.length l+grpS z s:=rfl;rw[e1,e2,List.map_append,List.sum_append,ih,mf z hz l 0 l.length (by omega)];rfl
theorem HN {seats:List (List Int)}{z:Nat}(hz:1≤z):(bO seats z).isSome=true↔∃ l∈seats,Lh z l:=by
 constructor
 ·intro h;obtain⟨c,hc⟩:=Option.isSome_iff_exists.1 h;obtain⟨b1,b2,b3⟩:=oS hc;exact⟨_,cj b1,c.2,b3⟩
 ·rintro⟨l,hl,s,hs⟩;obtain⟨r,hr,rfl⟩:=fZ hl;cases hb:bO seats z with
  | some c=>rfl
  | none=>
   have:=K5 hb (c:=(r,s)) hr (me hz hs);rw[hs]at this;cases this
theorem wF {seats:List (List Int)}{z:Nat}(hz:1≤z):(∃ r∈gl seats,z≤r)↔(bO seats z).isSome=true:=by
 rw[HN hz];unfold gl;constructor
 ·rintro⟨r,hr,h⟩;obtain⟨l,hl,hr⟩:=List.mem_flatMap.1 hr;exact⟨l,hl,(qp hz l).1 ⟨r,hr,h⟩⟩
 ·rintro⟨l,hl,h⟩;obtain⟨r,hr,h⟩:=(qp hz l).2 h;exact⟨r,List.mem_flatMap.2 ⟨l,hl,hr⟩,h⟩
def cs (l:List Nat):List Int:=l.map fun n:Nat=>(n:Int)
theorem HO (a b:List Nat):cs (a++b)=cs a++cs b:=List.map_append
theorem un (a:List Nat):(cs a).length=a.length:=by simp[cs]
theorem nu:∀ (l:List Int) (n:Nat),(cH n l).length≤l.length+1
 | [],n=>by rw[cH]; split <;> simp
 | v::l,n=>by
  rw[cH];split
  ·have:=nu l (n+1); simp only[List.length_cons]; omega
  ·have:=nu l 0;rw[List.length_append,List.length_cons];split
   ·simp only[List.length_singleton]; omega
   ·simp only[List.length_nil]; omega
theorem Uz (l:List Int)(hl:l.length≤1000):P63 l=some l:=by
 show BN (decide (List.length l=0)) (some []) (ai (bC 8 (List.length ([]:List Int)+List.length l)) (some ([]++l)))=_;rw[ak (bY (by simp; omega))];exact xD l _ rfl
theorem HP {a1 a2:Int}{l:List Int}{o:List Nat}{seats:List (List Int)}(hl:l.length≤1000)(ho:o.length≤100000):
  sA (0,a1,a2,((l++[0]).length:Int),0,cs o,seats,l++[0])=some (a1,a2,seats,l++[0],cs (o++cH 0 l)):=by
 have key:=cF (step:=fun x=>Ps x.1 x.2.1 x.2.2.1 x.2.2.2.1 x.2.2.2.2.1 x.2.2.2.2.2.1 x.2.2.2.2.2.2.1 x.2.2.2.2.2.2.2)
  (fun s=>l.length+1-s.2.2.2.2.1.toNat)
  (fun s=>∃ (k n:Nat) (q:List Nat),k≤l.length+1∧n≤k∧q.length≤o.length+k∧s=((n:Int),a1,a2,((l++[0]).length:Int),(k:Int),cs q,seats,l++[0])∧(k≤l.length→q++cH n (l.drop k)=o++cH 0 l)∧(k=l.length+1→q=o++cH 0 l))
  (fun y=>y=(a1,a2,seats,l++[0],cs (o++cH 0 l)))
  (x:=(((0:Nat):Int),a1,a2,((l++[0]).length:Int),((0:Nat):Int),cs o,seats,l++[0]))
  ⟨0,0,o,Nat.zero_le _,Nat.le_refl _,Nat.le_refl _,rfl,fun _=>rfl,fun h=>by omega⟩ (by show l.length+1-_ < _; omega) (by
   rintro s ⟨k,n,q,hk,hn,hq,rfl,h1,h2⟩;have hlen:(l++[0]).length=l.length+1:=by simp
   show(∃ s',q55_1 P63 (n:Int) a1 a2 ((l++[0]).length:Int) (k:Int) (cs q) seats (l++[0])=_∧_)∨∃ z,q55_1 P63 (n:Int) a1 a2 ((l++[0]).length:Int) (k:Int) (cs q) seats (l++[0])=_∧_;unfold q55_1;by_cases hkl:k < l.length+1
   ·left;have fk:ah .i64 ((k:Int)+1)=true:=aF (by omega);have fn:ah .i64 ((n:Int)+1)=true:=aF (by omega);have fc:bC 8 (List.length (cs q)+List.length ([(n:Int)]:List Int))=true:=bY (by rw[un]; simp; omega);rw[aN (by omega),cond_true,ak (aC (by omega)),bI];have mk:∀ (n':Nat) (q':List Nat),n'≤k+1→q'.length≤o.length+(k+1)→(k+1≤l.length→q'++cH n' (l.drop (k+1))=o++cH 0 l)→(k=l.length→q'=o++cH 0 l) →
      ∃ s',(some (Sum.inl ((n':Int),a1,a2,((l++[0]).length:Int),(k:Int)+1,cs q',seats,l++[0])):Option ((Int×Int×Int×Int×Int×List Int×List (List Int)×List Int)⊕(Int×Int×List (List Int)×List Int×List Int)))=some (.inl s') ∧
       (∃ (k n:Nat) (q:List Nat),k≤l.length+1∧n≤k∧q.length≤o.length+k∧s'=((n:Int),a1,a2,((l++[0]).length:Int),(k:Int),cs q,seats,l++[0])∧(k≤l.length→q++cH n (l.drop k)=o++cH 0 l)∧(k=l.length+1→q=o++cH 0 l))∧l.length+1-s'.2.2.2.2.1.toNat < l.length+1-((k:Nat):Int).toNat:=
     fun n' q' m1 m2 m3 m4=>⟨_,rfl,⟨k+1,n',q',by omega,m1,m2,rfl,m3,fun e=>m4 (by omega)⟩,by show l.length+1-((k:Int)+1).toNat < l.length+1-((k:Nat):Int).toNat; omega⟩
    by_cases hin:k < l.length
    ·have hg:gt (l++[0]) k=gt l k:=by rw[mZ,if_pos hin]
     have hd:l.drop k=gt l k::l.drop (k+1):=by rw[List.drop_eq_getElem_cons hin,b8 hin]
     have h1':=h1 (by omega);rw[hd,cH]at h1';rw[hg];by_cases c:gt l k = -1
     ·rw[decide_eq_true c,cond_true,ak fn,ak fk];rw[if_pos c]at h1';exact mk (n+1) q (by omega) (by omega) (fun _=>h1') (fun e=>by omega)
     ·rw[decide_eq_false c,cond_false];rw[if_neg c]at h1';by_cases d:0 < n
      ·rw[decide_eq_true (show(0:Int) < (n:Int)by omega),cond_true,ak fc,ak fk];rw[if_pos d]at h1';have:=mk 0 (q++[n]) (by omega) (by simp; omega) (fun _=>by rw[List.append_assoc]; exact h1') (fun e=>by omega);rw[HO]at this;exact this
      ·rw[decide_eq_false (show ¬ (0:Int) < (n:Int)by omega),cond_false,ak fk];rw[if_neg d]at h1';exact mk 0 q (by omega) (by omega) (fun _=>h1') (fun e=>by omega)
    ·obtain rfl:k=l.length:=by omega
     have hg:gt (l++[0]) l.length=0:=by rw[mZ,if_neg (by omega),Nat.sub_self]; rfl
     have h1':=h1 (Nat.le_refl _);rw[List.drop_length,cH]at h1';rw[hg,show decide ((0:Int) = -1)=false from rfl,cond_false];by_cases d:0 < n
     ·rw[decide_eq_true (show(0:Int) < (n:Int)by omega),cond_true,ak fc,ak fk];rw[if_pos d]at h1';have:=mk 0 (q++[n]) (by omega) (by simp; omega) (fun e=>by omega) (fun _=>h1');rw[HO]at this;exact this
     ·rw[decide_eq_false (show ¬ (0:Int) < (n:Int)by omega),cond_false,ak fk];rw[if_neg d,List.append_nil]at h1';exact mk 0 q (by omega) (by omega) (fun e=>by omega) (fun _=>h1')
   ·obtain rfl:k=l.length+1:=by omega
    right;refine⟨_,?_,rfl⟩;rw[hlen,aT,cond_false,h2 rfl])
 obtain⟨y,h1,h2⟩:=key;rw[← h2];exact h1
theorem sJ {seats:List (List Int)}{i:Nat}(h:i < seats.length):gl (seats.take (i+1))=gl (seats.take i)++cH 0 (gt seats i):=by
 unfold gl;rw[dJ _ h,List.flatMap_append]
 simp
theorem HQ {rows vain:List Int}{hold:Int}{seats:List (List Int)}{pool:List dZ}(hl:∀ r,r < seats.length→(gt seats r).length≤12)(hs:seats.length≤30):
  uw (rows,hold,seats,vain,pool)=some (rows,hold,seats,vain,pool,cs (gl seats))∧(gl seats).length≤13*30:=by
 have hlen:∀ i,i≤seats.length→(gl (seats.take i)).length≤13*i:=fun i=>by
  induction i with
  | zero=>intro _; simp[gl]
  | succ i ih=>
   intro hi;have:=ih (by omega);have h2:=nu (gt seats i) 0;have h3:=hl i (by omega);rw[sJ (by omega),List.length_append];omega
 refine⟨?_,by have:=hlen seats.length (Nat.le_refl _); rw[List.take_length]at this; omega⟩;have e:wd ((seats.length:Int),0,[],seats)=some (seats,cs (gl seats)):=by
  have key:=aQ (step:=fun x=>Pu x.1 x.2.1 x.2.2.1 x.2.2.2) seats.length (fun k=>((seats.length:Int),(k:Int),cs (gl (seats.take k)),seats)) (seats,cs (gl seats))
   (fun k hk=>by
    show sB P63 sA (seats.length:Int) (k:Int) (cs (gl (seats.take k))) seats=_;unfold sB;have h3:=hl k hk;have h4:=hlen k (by omega);rw[aN hk,cond_true,ak (aC hk),bI,Uz _ (by omega),aa,ak (bY (by simp; omega)),
     show sA (0,(seats.length:Int),(k:Int),(↑(List.length (gt seats k++[0])):Int),0,cs (gl (seats.take k)),seats,gt seats k++[0])=_ from HP (by omega) (by omega),aa]
    simp only;rw[ak (aF (by omega)),sJ hk];rfl)
   (by
    show sB P63 sA (seats.length:Int) (seats.length:Int) (cs (gl (seats.take seats.length))) seats=_;unfold sB;rw[aT,cond_false,List.take_length])
   (by omega)
  exact key
 show q55 P63 wd rows hold seats vain pool=_;unfold q55;rw[show wd ((↑(List.length seats):Int),0,[],seats)=_ from e,aa]
theorem UA (l:List Int)(h:1≤l.length)(hl:l.length≤100000):∃ M,Pz l=some M∧M∈l∧∀ x∈l,x≤M:=by
 have key:=gY (step:=fun x=>Py x.1 x.2.1 x.2.2) (l.length-1)
  (fun k s=>∃ M,s=(l,M,((k+1:Nat):Int))∧M∈l∧∀ i,i < k+1→gt l i≤M)
  (fun y=>y∈l∧∀ x∈l,x≤y) (x:=(l,gt l 0,1)) ⟨gt l 0,rfl,cj (by omega),fun i hi=>by
   obtain rfl:i=0:=by omega
   exact Int.le_refl _⟩ (by omega)
  (by
   rintro k s hk ⟨M,rfl,h1,h2⟩;refine⟨(l,max M (gt l (k+1)),((k+1:Nat):Int)+1),?_,max M (gt l (k+1)),rfl,?_,fun i hi=>?_⟩
   ·show sC l M ((k+1:Nat):Int)=_;unfold sC;rw[show decide (((k+1:Nat):Int) < (↑(List.length l):Int))=true from aN (by omega),cond_true,ak (aC (by omega)),ak (aF (by omega)),bI]
   ·by_cases c:M≤gt l (k+1)
    ·rw[Int.max_eq_right c]; exact cj (by omega)
    ·rw[Int.max_eq_left (by omega)]; exact h1
   ·by_cases c:i=k+1
    ·rw[c]; exact Int.le_max_right _ _
    ·exact Int.le_trans (h2 i (by omega)) (Int.le_max_left _ _))
  (by
   rintro s ⟨M,rfl,h1,h2⟩;refine⟨M,?_,h1,fun x hx=>?_⟩
   ·show sC l M ((l.length-1+1:Nat):Int)=_;unfold sC;rw[show decide (((l.length-1+1:Nat):Int) < (↑(List.length l):Int))=false from decide_eq_false (by omega),cond_false]
   ·obtain⟨i,hi,e⟩:=fZ hx;rw[← e]; exact h2 i (by omega))
 obtain⟨M,e1,e2,e3⟩:=key;refine⟨M,?_,e2,e3⟩;show q54 Bf l=_;unfold q54;rw[show decide ((↑(List.length l):Int) < 1)=false from decide_eq_false (by omega),cond_false,ak (show aA 0 (List.length l)=true from aC (k:=0) (by omega)),show ix l 0=gt l 0 from bI l 0,show Bf (l,gt l 0,1)=some M from e1];rfl
def lgF (seats:List (List Int)):Nat→Nat
 | 0=>0
 | n+1=>if(bO seats (n+1)).isSome=true then n+1 else lgF seats n
theorem wG (seats:List (List Int)):∀ n,lgF seats n≤n∧(1≤lgF seats n→(bO seats (lgF seats n)).isSome=true)∧∀ z,1≤z→z≤n→(bO seats z).isSome=true→z≤lgF seats n
 | 0=>⟨Nat.le_refl _,fun h=>by simp[lgF]at h,fun z h1 h2=>by omega⟩
 | n+1=>by
  obtain⟨h1,h2,h3⟩:=wG seats n;rw[lgF];by_cases c:(bO seats (n+1)).isSome=true
  ·rw[if_pos c]; exact⟨Nat.le_refl _,fun _=>c,fun z _ h _=>h⟩
  ·rw[if_neg c];refine⟨by omega,h2,fun z q1 q2 q3=>?_⟩;by_cases e:z=n+1
   ·subst e; exact absurd q3 c
   ·exact h3 z q1 (by omega) q3
theorem HS {seats:List (List Int)}(hl:∀ r,r < seats.length→(gt seats r).length≤12){z:Nat}(hz:1≤z)(h:(bO seats z).isSome=true):z≤12:=by
 obtain⟨l,h1,h2⟩:=(HN hz).1 h;obtain⟨r,hr,rfl⟩:=fZ h1;have:=HL hz h2;have:=hl r hr;omega
noncomputable def lgE (h:List Int×Int)(l:List aB)(minute:Int):Int×Int:=if eO h l minute 0 1=0 then((lgF (aM h l minute).1 12:Int),0)else(0,eO h l minute 0 1)
noncomputable def Li (h:List Int×Int)(l:List aB)(minute size:Int):Int×Int:=if eO h l minute 0 size=0 then((grpS size.toNat (aM h l minute).1:Int),0)else(0,eO h l minute 0 size)
theorem HU (z:Nat)(hz:1≤z)(l:List Nat)(hl:l.length≤1000)(hb:∀ x∈l,x≤1000):we ((z:Int),0,((cs l).length:Int),0,cs l)=some ((((l.map (· / z)).sum:Nat):Int),cs l):=by
 have hsum:∀ k,((l.take k).map (· / z)).sum≤1000*k:=fun k=>by
  induction k with
  | zero=>simp
  | succ k ih=>
   by_cases hk:k < l.length
   ·rw[dJ l hk,List.map_append,List.sum_append];have:=hb _ (cj hk);have:gt l k / z≤gt l k:=Nat.div_le_self _ _;simp only[List.map_cons,List.map_nil,List.sum_cons,List.sum_nil];omega
   ·rw[List.take_of_length_le (by omega)]at ih ⊢;omega
 have hlen:=un l;have key:=aQ (step:=fun x=>PE x.1 x.2.1 x.2.2.1 x.2.2.2.1 x.2.2.2.2) l.length (fun k=>((z:Int),(((l.take k).map (· / z)).sum:Int),((cs l).length:Int),(k:Int),cs l)) ((((l.map (· / z)).sum:Nat):Int),cs l)
  (fun k hk=>by
   show sD ja P42v1 uw (z:Int) (((l.take k).map (· / z)).sum:Int) ((cs l).length:Int) (k:Int) (cs l)=_;unfold sD;have hg:gt (cs l) k=((gt l k:Nat):Int):=by rw[b8 (by omega),b8 hk]; simp[cs]
   have ht:Int.tdiv ((gt l k:Nat):Int) (z:Int)=((gt l k / z:Nat):Int):=rfl;have h1:=hsum k;have h2:=hb _ (cj hk);have h3:gt l k / z≤gt l k:=Nat.div_le_self _ _;have h4:gt l k / z≤1000:=by omega
   have h5:((gt l k / z:Nat):Int)≤1000:=Int.ofNat_le.2 h4;have h6:(0:Int)≤((gt l k / z:Nat):Int):=Int.natCast_nonneg _;rw[aN (by omega),cond_true,ak (aC (by omega)),ak (decide_eq_true (by omega)),bI,hg,ht,ak (aS (by generalize ((gt l k / z:Nat):Int)=dv at h5 h6; omega) (by generalize ((gt l k / z:Nat):Int)=dv at h5 h6; omega)),ak (aS (by generalize ((gt l k / z:Nat):Int)=dv at h5 h6; omega) (by generalize ((gt l k / z:Nat):Int)=dv at h5 h6; omega)),ak (aF (by omega)),dJ l hk,List.map_append,List.sum_append]
   simp)
  (by
   show sD ja P42v1 uw (z:Int) (((l.take l.length).map (· / z)).sum:Int) ((cs l).length:Int) (l.length:Int) (cs l)=_;unfold sD;rw[hlen,aT,cond_false,List.take_length])
  (by omega)
 simp only[List.take_zero,List.map_nil,List.sum_nil]at key;exact key
theorem qq:∀ (l:List Int) (n:Nat),∀ r∈cH n l,r≤n+l.length
 | [],n,r,h=>by
  rw[cH]at h;split at h
  ·rw[List.mem_singleton.1 h]; simp
  ·cases h
 | v::l,n,r,h=>by
  rw[cH]at h;simp only[List.length_cons];split at h
  ·have:=qq l (n+1) r h; omega
  ·rcases List.mem_append.1 h with q | q
   ·split at q
    ·rw[List.mem_singleton.1 q]; omega
    ·cases q
   ·have:=qq l 0 r q; omega
theorem Lj (l:List Int)(k:Nat):fr l (k:Int)=decide (gt l k = -1):=by
 by_cases h:k < l.length
 ·exact H2 h
 ·rw[LD (by omega)];unfold fr;have:wi (k:Int) 0 ((l.length:Int)-1)=false:=by
   cases hw:wi (k:Int) 0 ((l.length:Int)-1)with
   | false=>rfl
   | true=>have:=dk.1 hw; omega
  rw[this];rfl
theorem Lk (l:List Int)(s n:Nat):H3 l (s:Int) n=nQ l s n:=
 iN fun k _=>by rw[show((s:Int)+(k:Int))=((s+k:Nat):Int)by omega,Lj]
theorem HV {z n r:Nat}{seats:List (List Int)}{pl:List nT}{sn vn:List Int}(hz:1≤z)(hz':z≤100)(hr:r < seats.length)(hl:(gt seats r).length≤100)(hn:n≤100000):
  wh ((z:Int),(n:Int),(r:Int),0,seats,pl,sn,vn)=some ((z:Int),((n+grd z (gt seats r).length (gt seats r):Nat):Int),(r:Int),seats,pl,sn,vn):=by
 have key:=cF (step:=fun x=>PS x.1 x.2.1 x.2.2.1 x.2.2.2.1 x.2.2.2.2.1 x.2.2.2.2.2.1 x.2.2.2.2.2.2.1 x.2.2.2.2.2.2.2)
  (fun x=>(gt seats r).length-x.2.2.2.1.toNat)
  (fun x=>∃ s m:Nat,s≤(gt seats r).length∧m≤n+s∧x=((z:Int),(m:Int),(r:Int),(s:Int),seats,pl,sn,vn)∧m+grd z (gt seats r).length ((gt seats r).drop s)=n+grd z (gt seats r).length (gt seats r))
  (fun y=>y=((z:Int),((n+grd z (gt seats r).length (gt seats r):Nat):Int),(r:Int),seats,pl,sn,vn))
  (x:=((z:Int),(n:Int),(r:Int),((0:Nat):Int),seats,pl,sn,vn)) ⟨0,n,Nat.zero_le _,Nat.le_refl _,rfl,rfl⟩ (by show(gt seats r).length-_ < _; omega) (by
   rintro x ⟨s,m,hs,hm,rfl,hg⟩;show(∃ s',q36_1 P51 P52 P22 (z:Int) (m:Int) (r:Int) (s:Int) seats pl sn vn=_∧_)∨∃ y,q36_1 P51 P52 P22 (z:Int) (m:Int) (r:Int) (s:Int) seats pl sn vn=_∧_;unfold q36_1;rw[ak (aC hr),bI];by_cases c:s < (gt seats r).length
   ·left;have hd:(gt seats r).drop s=gt (gt seats r) s::(gt seats r).drop (s+1):=by rw[List.drop_eq_getElem_cons c,b8 c]
    have hlen:(gt seats r).length=((gt seats r).length-1)+1:=by omega
    have hg':m+grd z (((gt seats r).length-1)+1) ((gt seats r).drop s)=n+grd z (gt seats r).length (gt seats r):=by rw[← hlen]; exact hg
    rw[hd,grd,← hd,HH]at hg';rw[show decide ((s:Int) < (↑(List.length (gt seats r)):Int))=true from aN c,cond_true,ak (aC hr),H5 _ (by omega) (by omega) (by omega),aa,Lk];cases hp:nQ (gt seats r) s z with
    | true=>
     have hpl:=me hz hp;rw[hp,if_pos rfl]at hg';rw[cond_true,ak (aS (by omega) (by omega)),ak (aS (by omega) (by omega)),ak (aS (by omega) (by omega)),ak (aS (by omega) (by omega))];refine⟨((z:Int),((m+1:Nat):Int),(r:Int),((s+z:Nat):Int),seats,pl,sn,vn),?_,⟨s+z,m+1,by omega,by omega,rfl,?_⟩,by show(gt seats r).length-((s+z:Nat):Int).toNat < (gt seats r).length-((s:Nat):Int).toNat; omega⟩
     ·rw[show((s:Int)+((z:Int)-1))+1=((s+z:Nat):Int)by omega];rfl
     ·rw[List.drop_drop]at hg';rw[jM z hz (gt seats r).length _ ((gt seats r).length-1) (by simp only[List.length_drop]; omega) (by simp only[List.length_drop]; omega)];omega
    | false=>
     rw[hp,if_neg (by decide)]at hg';rw[cond_false,ak (aF (by omega))];refine⟨((z:Int),(m:Int),(r:Int),((s+1:Nat):Int),seats,pl,sn,vn),rfl,⟨s+1,m,by omega,by omega,rfl,?_⟩,by show(gt seats r).length-((s+1:Nat):Int).toNat < (gt seats r).length-((s:Nat):Int).toNat; omega⟩;rw[← hg',jM z hz (gt seats r).length _ ((gt seats r).length-1) (by simp only[List.length_drop]; omega) (by simp only[List.length_drop]; omega)]
   ·obtain rfl:s=(gt seats r).length:=by omega
    right;rw[List.drop_length]at hg;have e0:grd z (gt seats r).length []=0:=by cases(gt seats r).length <;> rfl
    rw[show decide (((gt seats r).length:Int) < (↑(List.length (gt seats r)):Int))=false from aT _,cond_false];refine⟨_,rfl,?_⟩;rw[← hg,e0,Nat.add_zero])
 obtain⟨y,h1,h2⟩:=key;rw[← h2];exact h1
theorem yS (z:Nat):∀ (f:Nat) (l:List Int),grd z f l≤f
 | 0,l=>Nat.le_refl _
 | f+1,[]=>Nat.zero_le _
 | f+1,v::l=>by
  rw[grd];split
  ·have:=yS z f ((v::l).drop z); omega
  ·have:=yS z f l; omega
theorem sK {z:Nat}{seats:List (List Int)}{k:Nat}(h:k < seats.length):grpS z (seats.take (k+1))=grpS z (seats.take k)+grd z (gt seats k).length (gt seats k):=by
 unfold grpS;rw[dJ _ h,List.map_append,List.sum_append]
 simp
theorem HW {z:Nat}{seats:List (List Int)}{pl:List nT}{sn vn:List Int}(hz:1≤z)(hz':z≤100)(hl:∀ r,r < seats.length→(gt seats r).length≤100)(hs:seats.length≤100):
  Bg ((z:Int),0,0,seats,pl,sn,vn)=some ((grpS z seats:Int),seats,pl,sn,vn):=by
 have hb:∀ k,k≤seats.length→grpS z (seats.take k)≤100*k:=fun k=>by
  induction k with
  | zero=>intro _; simp[grpS]
  | succ k ih=>
   intro hk;have:=ih (by omega);have:=hl k (by omega);have:=yS z (gt seats k).length (gt seats k);rw[sK (by omega)];omega
 have key:=aQ (step:=fun x=>PU x.1 x.2.1 x.2.2.1 x.2.2.2.1 x.2.2.2.2.1 x.2.2.2.2.2.1 x.2.2.2.2.2.2) seats.length (fun k=>((z:Int),(grpS z (seats.take k):Int),(k:Int),seats,pl,sn,vn)) ((grpS z seats:Int),seats,pl,sn,vn)
  (fun k hk=>by
   show sE P51 P52 P22 wh (z:Int) (grpS z (seats.take k):Int) (k:Int) seats pl sn vn=_;unfold sE;have h1:=hb k (by omega);rw[show decide ((k:Int) < (↑(List.length seats):Int))=true from aN hk,cond_true,HV hz hz' hk (hl k hk) (by omega),aa];simp only;rw[ak (aF (by omega)),sK hk];rfl)
  (by
   show sE P51 P52 P22 wh (z:Int) (grpS z (seats.take seats.length):Int) (seats.length:Int) seats pl sn vn=_;unfold sE;rw[show decide ((seats.length:Int) < (↑(List.length seats):Int))=false from aT _,cond_false,List.take_length])
  (by omega)
 exact key
theorem HX {seats:List (List Int)}{pl:List nT}{sn vn:List Int}(hl:∀ r,r < seats.length→(gt seats r).length≤12)(hs:seats.length≤30):∀ n:Nat,n≤12 →
  ∃ y,wg ((n:Int),seats,pl,sn,vn)=some y∧((∃ a b c d,y = .inl ((lgF seats n:Int),0,a,b,c,d))∨(lgF seats n=0∧∃ a,y = .inr a)):=by
 intro n hn;have key:=cF (step:=fun x=>PL x.1 x.2.1 x.2.2.1 x.2.2.2.1 x.2.2.2.2)
  (fun x=>x.1.toNat)
  (fun x=>∃ k:Nat,k≤n∧x=((k:Int),seats,pl,sn,vn)∧lgF seats k=lgF seats n)
  (fun y=>(∃ a b c d,y = .inl ((lgF seats n:Int),0,a,b,c,d))∨(lgF seats n=0∧∃ a,y = .inr a))
  (x:=((n:Int),seats,pl,sn,vn)) ⟨n,Nat.le_refl _,rfl,rfl⟩ (by show(n:Int).toNat < _; omega) (by
   rintro x ⟨k,hk,rfl,hg⟩;show(∃ s',q35_0 P51 P52 P56 (k:Int) seats pl sn vn=_∧_)∨∃ y,q35_0 P51 P52 P56 (k:Int) seats pl sn vn=_∧_;unfold q35_0;cases k with
   | zero=>
    right;rw[show decide ((0:Int) < ((0:Nat):Int))=false from rfl,cond_false];exact⟨_,rfl,.inr ⟨hg.symm,_,rfl⟩⟩
   | succ k=>
    rw[decide_eq_true (show(0:Int) < ((k+1:Nat):Int)by omega),cond_true,show P56 (((k+1:Nat):Int),seats)=_ from yU (fun r hr=>by have:=hl r hr; omega) (by omega) (by omega),aa];have hbo:((cG seats (k+1) 0 seats.length).find? (pB seats (k+1) false)).or ((cG seats (k+1) 0 seats.length).find? (pB seats (k+1) true))=bO seats (k+1):=rfl;rw[hbo];rw[lgF]at hg;cases hb:bO seats (k+1)with
    | some c=>
     right;rw[hb,if_pos (show(some c).isSome=true from rfl)]at hg;refine⟨_,rfl,.inl ⟨_,_,_,_,by rw[← hg]⟩⟩
    | none=>
     left;rw[hb,if_neg (by decide)]at hg;simp only[cond_false];rw[ak (aS (by omega) (by omega))];refine⟨((k:Int),seats,pl,sn,vn),?_,⟨k,by omega,rfl,hg⟩,by show(k:Int).toNat < ((k+1:Nat):Int).toNat; omega⟩;congr 3;omega)
 exact key
section
variable {h:List Int×Int} {l:List aB} (minute:Int) (hh:h.1.length≤1000) (hl:l.length≤1000)
include hh hl
theorem UB:PA (h,l,minute)=some (lgE h l minute):=by
 show q32 ja P42v1 uw Pz h l minute=_;unfold q32 lgE;rw[qo h l minute 0 1 hh hl];by_cases h0:eO h l minute 0 1=0
 ·obtain⟨⟨c1,c2⟩,_⟩:=fG.1 h0;obtain⟨pool,e1,e2⟩:=jJ h0;have hI:=IM.after (h:=h) c2 minute;have hlen:=hI.len;have hsl:=fF c1;have hrow:∀ r,r < (aM h l minute).1.length→(gt (aM h l minute).1 r).length≤12:=fun r hr=>hI.row (eV c1) hr;obtain⟨e3,e4⟩:=HQ (rows:=h.1) (vain:=(aM h l minute).2.2) (hold:=h.2) (pool:=pool) hrow (by omega);obtain⟨M,m1,m2,m3⟩:=UA (cs (gl (aM h l minute).1)++[0]) (by simp) (by simp[un]; omega);rw[if_pos h0,jK,e1,aa,if_pos h0];simp only[decide_true,Bool.not_true,cond_false];rw[e3,aa,ak (bY (by simp[un]; omega)),m1,aa];congr 2;obtain⟨g1,g2,g3⟩:=wG (aM h l minute).1 12;have a1:(0:Int)≤M:=m3 0 (by simp);have a2:∀ z:Nat,1≤z→(bO (aM h l minute).1 z).isSome=true→(z:Int)≤M:=fun z hz hb=>by
   obtain⟨r,hr,hzr⟩:=(wF hz).2 hb;have:=m3 (r:Int) (by simp only[List.mem_append]; left; exact List.mem_map.2 ⟨r,hr,rfl⟩);omega
  have a3:M≤(lgF (aM h l minute).1 12:Int):=by
   rcases List.mem_append.1 m2 with q | q
   ·obtain⟨r,hr,rfl⟩:=List.mem_map.1 q;by_cases c:1≤r
    ·have hb:=(wF c).1 ⟨r,hr,Nat.le_refl _⟩;have:=g3 r c (HS hrow c hb) hb;omega
    ·omega
   ·rw[List.mem_singleton.1 q]; omega
  by_cases c:1≤lgF (aM h l minute).1 12
  ·have:=a2 _ c (g2 c);omega
  ·omega
 ·rw[if_neg h0,jL,if_neg h0,decide_eq_false h0];rfl
theorem UC:PM (h,l,minute)=some (lgE h l minute):=by
 show q35 P51 P52 P56 wg h l minute=_;unfold q35 lgE;rw[yN h l minute 0 1 hh hl,aa];by_cases h0:eO h l minute 0 1=0
 ·obtain⟨⟨c1,c2⟩,_⟩:=fG.1 h0;obtain⟨pl,sn,e1,k⟩:=Hz minute c1 c2;have hI:=IM.after (h:=h) c2 minute;have hlen:=hI.len;have hsl:=fF c1;have hrow:∀ r,r < (aM h l minute).1.length→(gt (aM h l minute).1 r).length≤12:=fun r hr=>hI.row (eV c1) hr;obtain⟨y,y1,y2⟩:=HX (pl:=pl) (sn:=sn) (vn:=(aM h l minute).2.2) hrow (by omega) 12 (Nat.le_refl _);rw[decide_eq_true h0,Bool.not_true,cond_false,e1,aa,if_pos h0];simp only;rw[show wg (12,(aM h l minute).1,pl,sn,(aM h l minute).2.2)=_ from y1,aa];rcases y2 with⟨a,b,c,d,rfl⟩ | ⟨y3,a,rfl⟩
  ·rfl
  ·rw[y3]; rfl
 ·rw[decide_eq_false h0,Bool.not_false,cond_true,if_neg h0]
theorem P33_eq (size:Int):PF (h,l,minute,size)=some (Li h l minute size):=by
 show q33 ja P42v1 uw we h l minute size=_;unfold q33 Li;rw[qo h l minute 0 size hh hl];by_cases h0:eO h l minute 0 size=0
 ·obtain⟨⟨c1,c2⟩,_,_,c5⟩:=fG.1 h0;obtain⟨pool,e1,e2⟩:=jJ h0;have hI:=IM.after (h:=h) c2 minute;have hlen:=hI.len;have hsl:=fF c1;have hrow:∀ r,r < (aM h l minute).1.length→(gt (aM h l minute).1 r).length≤12:=fun r hr=>hI.row (eV c1) hr;obtain⟨e3,e4⟩:=HQ (rows:=h.1) (vain:=(aM h l minute).2.2) (hold:=h.2) (pool:=pool) hrow (by omega);obtain⟨z,rfl⟩:∃ z:Nat,size=(z:Int):=⟨size.toNat,by omega⟩;have hb:∀ x∈gl (aM h l minute).1,x≤1000:=fun x hx=>by
   obtain⟨row,h1,h2⟩:=List.mem_flatMap.1 hx;obtain⟨r,hr,rfl⟩:=fZ h1;have:=qq _ _ _ h2;have:=hrow r hr;omega
  rw[if_pos h0,jK,e1,aa,if_pos h0];simp only[decide_true,Bool.not_true,cond_false,Int.toNat_natCast];rw[e3,aa];simp only;rw[show we ((z:Int),0,(↑(List.length (cs (gl (aM h l minute).1))):Int),0,cs (gl (aM h l minute).1))=_ from HU z (by omega) _ (by omega) hb,aa,wE z (by omega)]
 ·rw[if_neg h0,jL,if_neg h0,decide_eq_false h0];rfl
theorem UD (size:Int):PV (h,l,minute,size)=some (Li h l minute size):=by
 show q36 P51 P52 P22 Bg h l minute size=_;unfold q36 Li;rw[yN h l minute 0 size hh hl,aa];by_cases h0:eO h l minute 0 size=0
 ·obtain⟨⟨c1,c2⟩,_,_,c5⟩:=fG.1 h0;obtain⟨pl,sn,e1,k⟩:=Hz minute c1 c2;have hI:=IM.after (h:=h) c2 minute;have hlen:=hI.len;have hsl:=fF c1;have hrow:∀ r,r < (aM h l minute).1.length→(gt (aM h l minute).1 r).length≤12:=fun r hr=>hI.row (eV c1) hr;obtain⟨z,rfl⟩:∃ z:Nat,size=(z:Int):=⟨size.toNat,by omega⟩;rw[decide_eq_true h0,Bool.not_true,cond_false,e1,aa,if_pos h0];simp only[Int.toNat_natCast];rw[HW (by omega) (by omega) (fun r hr=>by have:=hrow r hr; omega) (by omega),aa]
 ·rw[decide_eq_false h0,Bool.not_false,cond_true,if_neg h0]
theorem UE (size:Int):PG (h,l,minute,size)=some (sI h l minute size):=by
 show q34 P51 P52 P56 h l minute size=_;unfold q34 sI;rw[yN h l minute 0 size hh hl,aa];by_cases h0:eO h l minute 0 size=0
 ·obtain⟨⟨c1,c2⟩,_,_,c5⟩:=fG.1 h0;obtain⟨pl,sn,e1,k⟩:=Hz minute c1 c2;have hI:=IM.after (h:=h) c2 minute;have hlen:=hI.len;have hsl:=fF c1;obtain⟨z,rfl⟩:∃ z:Nat,size=(z:Int):=⟨size.toNat,by omega⟩;rw[decide_eq_true h0,Bool.not_true,cond_false,e1,aa,if_pos h0];simp only[Int.toNat_natCast];rw[show P56 ((z:Int),(aM h l minute).1)=_ from yU (fun r hr=>by have:=hI.row (eV c1) hr; omega) (by omega) (by omega),aa];have hbo:((cG (aM h l minute).1 z 0 (aM h l minute).1.length).find? (pB (aM h l minute).1 z false)).or ((cG (aM h l minute).1 z 0 (aM h l minute).1.length).find? (pB (aM h l minute).1 z true))=bO (aM h l minute).1 z:=rfl;rw[hbo];cases bO (aM h l minute).1 z <;> rfl
 ·rw[decide_eq_false h0,Bool.not_false,cond_true,if_neg h0]
end
theorem Pure.SeatsFree' (h:List Int×Int)(l:List aB)(x:Int×Int×Int):P10 (h,l,x)=some true:=by
 show q10 wN fJ CY P21 PG PA PM PF PV h l x=_;unfold q10;rw[Ux,aa];by_cases hf:30 < h.1.length∨60 < l.length
 ·rw[decide_eq_true hf,cond_true,HG];rfl
 have hh:h.1.length≤1000:=by omega
 have hl:l.length≤1000:=by omega
 rw[decide_eq_false hf,cond_false,Uy h l hh hl,aa];simp only;rw[show((h.1,h.2):List Int×Int)=h from rfl,HF x.1 hh hl,aa,UE x.1 hh hl,aa,UB x.1 hh hl,aa,UC x.1 hh hl,aa,P33_eq x.1 hh hl,aa,UD x.1 hh hl,aa,HG];simp only[decide_true,cond_true,aa]
theorem Pure.SeatsFree (h:List Int×Int)(_:Wf TyH h)(l:List aB)(_:Wf TyC l)(x:Int×Int×Int)(_:Wf TyX x):P10 (h,l,x)=some true:=Pure.SeatsFree' h l x
end Go.Proofs.Ytdkaijofmigmbaa.D
