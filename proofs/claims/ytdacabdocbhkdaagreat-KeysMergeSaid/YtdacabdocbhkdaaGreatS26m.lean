/- Cut down from a longer text. -/
import Derived.Test.YtdacabdocbhkdaaGreatS25m
set_option linter.unusedVariables false
set_option linter.unusedSimpArgs false
namespace Go.Proofs.YtdacabdocbhkdaaGreat.D
open Go Go.Proofs L
def ddN (l:List Int):Nat→List Int
 | 0=>[]
 | n+1=>if 0 < n∧gt l n=gt l (n-1)then ddN l n else ddN l n++[gt l n]
theorem take_gtI (l:List Int){n:Nat}(h:n < l.length):l.take (n+1)=l.take n++[gt l n]:=by
 rw[List.take_add_one,List.getElem?_eq_getElem h,gt_lt h]; rfl
theorem ddN_take (l:List Int):∀ n,n≤l.length→(∀ k,k+1 < n→gt l (k+1)≠gt l k)→ddN l n=l.take n
 | 0,_,_=>by simp[ddN]
 | n+1,h,hd=>by
  rw[ddN,if_neg,ddN_take l n (by omega) fun k hk=>hd k (by omega),take_gtI l (by omega)]
  rintro⟨h0,e⟩
  have:=hd (n-1) (by omega)
  rw[show n-1+1=n by omega]at this
  exact this e
theorem ddN_mem (l:List Int):∀ n,∀ x,x∈ddN l n↔∃ k,k < n∧gt l k=x
 | 0,x=>by simp[ddN]
 | n+1,x=>by
  rw[ddN]
  split
  ·rename_i h
   rw[ddN_mem l n]
   constructor
   ·rintro⟨k,hk,e⟩; exact⟨k,by omega,e⟩
   ·rintro⟨k,hk,e⟩
    by_cases hkn:k=n
    ·subst hkn; exact⟨k-1,by omega,by rw[← h.2]; exact e⟩
    ·exact⟨k,by omega,e⟩
  ·rw[List.mem_append,ddN_mem l n,List.mem_singleton]
   constructor
   ·rintro(⟨k,hk,e⟩ | e)
    ·exact⟨k,by omega,e⟩
    ·exact⟨n,by omega,e.symm⟩
   ·rintro⟨k,hk,e⟩
    by_cases hkn:k=n
    ·subst hkn; exact .inr e.symm
    ·exact .inl ⟨k,by omega,e⟩
theorem clr_take {α:Type}(l:List α)(w n:Nat)(z:α)(h:w≤l.length):(clrL l w n z).take w=l.take w:=by
 unfold clrL
 rw[List.take_append_of_le_length (by simp; omega),List.take_take,Nat.min_self]
theorem clr_len {α:Type}(l:List α)(w n:Nat)(z:α)(h:w+n≤l.length):(clrL l w n z).length=l.length:=by
 unfold clrL; simp; omega
theorem L71_1_eq (l:List Int){r:Nat}(hr:0 < r)(hl:r < l.length)(h1000:l.length≤1000)(he:gt l r=gt l (r-1))(hd:∀ k,k+1 < r→gt l (k+1)≠gt l k):
  ∃ y,L71_1 ((r:Int),(r:Int),((l.length-r:Nat):Int),1,l)=some y∧∃ w l1,y=(((w:Nat):Int),l1)∧l1.length=l.length∧w≤l.length∧l1.take w=ddN l l.length:=by
 refine while_inv (l.length-r-1) (fun t s=>∃ w l1,s=(((w:Nat):Int),(r:Int),((l.length-r:Nat):Int),((t+1:Nat):Int),l1)∧l1.length=l.length∧w≤r+t∧l1.take w=ddN l (r+t+1)∧∀ k,w≤k→gt l1 k=gt l k) _
  ⟨r,l,rfl,rfl,by omega,?_,fun _ _=>rfl⟩ (by omega) ?_ ?_
 ·show l.take r=ddN l (r+0+1)
  rw[Nat.add_zero,ddN,if_pos ⟨hr,he⟩,ddN_take l r (by omega) hd]
 ·rintro t s ht ⟨w,l1,rfl,h1,h2,h3,h4⟩
  have q:((t+1:Nat):Int)-1=((t:Nat):Int):=by omega
  have v1:=h4 (r+(t+1)) (by omega)
  have v2:=h4 (r+t) (by omega)
  simp only[p71_1,q71_1,Int.toNat_natCast,lt_nat_t (show t+1 < l.length-r by omega),cond_true,inR_nat (show t+1 < l.length-r by omega),q,inR_nat (show t < l.length-r by omega),fitsN (show(0:Int)≤((t:Nat):Int)by omega) (by omega),chk_t,ixn_gt,v1,v2,
   inR_nat (show w < l1.length by omega),fits_nat (show w < 9223372036854775807 by omega),fits_nat (show t+1 < 9223372036854775807 by omega)]
  have e0:ddN l (r+(t+1)+1)=if 0 < r+(t+1)∧gt l (r+(t+1))=gt l (r+t)then ddN l (r+t+1)else ddN l (r+t+1)++[gt l (r+(t+1))]:=rfl
  by_cases e:gt l (r+(t+1))=gt l (r+t)
  ·simp only[e,decide_true,Bool.not_true,cond_false]
   exact⟨_,rfl,w,l1,rfl,h1,by omega,by rw[e0,if_pos ⟨by omega,e⟩]; exact h3,h4⟩
  ·simp only[e,decide_false,Bool.not_false,cond_true]
   refine⟨_,rfl,w+1,l1.set w (gt l (r+(t+1))),by simp only[cast_succ],by simpa using h1,by omega,?_,fun k hk=>?_⟩
   ·rw[e0,if_neg fun h=>e h.2,← h3,take_gtI _ (by simp; omega),gt_set _ _ _ _ (by omega),if_pos rfl]
    congr 1
    exact List.take_set_of_le (Nat.le_refl _)
   ·rw[gt_set _ _ _ _ (by omega),if_neg (by omega)]; exact h4 k (by omega)
 ·rintro s ⟨w,l1,rfl,h1,h2,h3,h4⟩
  have q:l.length-r-1+1=l.length-r:=by omega
  simp only[p71_1,q71_1,Int.toNat_natCast,q,lt_nat_f,cond_false]
  refine⟨_,rfl,w,l1,rfl,h1,by omega,?_⟩
  rw[h3]; congr 1; omega
theorem P71_eq (l:List Int)(hl:l.length≤1000):P71 l=some (ddN l l.length):=by
 by_cases hs:l.length < 2
 ·have d:decide ((l.length:Int) < 2)=true:=by simp; omega
  simp only[P71,p71,q71,d,cond_true]
  rw[ddN_take l l.length (Nat.le_refl _) (fun k hk=>by omega),List.take_length]
 have d:decide ((l.length:Int) < 2)=false:=by simp; omega
 have h:=while_find (step:=fun x=>p71_0 x.1 x.2) (l.length-1) (fun k=>(((k+1:Nat):Int),l)) (fun k=>decide (gt l (k+1)=gt l k)) (fun _=>.inl (ddN l l.length)) (.inr l)
  (fun k hk hp=>by
   have q:((k+1:Nat):Int)-1=((k:Nat):Int):=by omega
   simp only[p71_0,q71_0,lt_nat_t (show k+1 < l.length by omega),cond_true,inR_nat (show k+1 < l.length by omega),inR_nat (show k < l.length by omega),q,fitsN (show(0:Int)≤((k:Nat):Int)by omega) (by omega),chk_t,ix_gt,fits_nat (show k+1 < 9223372036854775807 by omega)]
   by_cases e:gt l (k+1)=gt l k
   ·have hd:∀ j,j+1 < k+1→gt l (j+1)≠gt l j:=fun j hj=>by simpa using hp j (by omega)
    obtain⟨y,y1,w,l1,rfl,y2,y3,y4⟩:=L71_1_eq l (r:=k+1) (by omega) (by omega) hl e hd
    have c1:(l.length:Int)-((k+1:Nat):Int)=((l.length-(k+1):Nat):Int):=by omega
    have c2:(l1.length:Int)-(w:Int)=((l1.length-w:Nat):Int):=by omega
    have b1:decide ((0:Int)≤((k+1:Nat):Int))=true:=by simp; omega
    have b2:decide (((k+1:Nat):Int)≤(l.length:Int))=true:=by simp; omega
    have b3:∀ n:Nat,decide ((n:Int)≤(n:Int))=true:=fun n=>by simp
    have b4:decide (0 < l.length)=true:=by simp; omega
    have b5:decide ((0:Int)≤(w:Int))=true:=by simp
    have b6:decide ((w:Int)≤(l1.length:Int))=true:=by simp; omega
    have b7:decide (0 < l1.length)=true:=by simp; omega
    simp only[e,decide_true,cond_true,b1,b2,b3,b4,chk_t,c1,Int.toNat_natCast,y1,bind_some',b5,b6,b7,c2,clr_len l1 w (l1.length-w) _ (by omega),clr_take l1 w _ _ (by omega),y4]
   ·simp only[e,decide_false,cond_false]; rfl)
  (fun _=>by
   have d2:decide (((l.length-1+1:Nat):Int) < (l.length:Int))=false:=by simp; omega
   simp only[p71_0,q71_0,d2,cond_false]) (by omega)
 rcases h with⟨k,hk,h1,h2,h3⟩ | ⟨h2,h3⟩
 ·have e:L71_0 (1,l)=some (.inl (ddN l l.length)):=h3
  simp only[P71,p71,q71,d,cond_false,e,bind_some',elim_inl]
 ·have e:L71_0 (1,l)=some (.inr l):=h3
  simp only[P71,p71,q71,d,cond_false,e,bind_some',elim_inr]
  rw[ddN_take l l.length (Nat.le_refl _) (fun k hk=>by simpa using h2 k (by omega)),List.take_length]
theorem P116_eq (n:Int)(h0:0≤n)(h1:n≤100000):P116 n=some []:=by
 have d0:decide (n < 0)=false:=by simp; omega
 have f0:fits .i64 ((0:Int)-0)=true:=by decide
 have e0:n-((0:Int)-0)=n:=by omega
 have d1:decide ((0:Int)=0)=true:=by decide
 have d2:decide ((0:Int)≤0)=true:=by decide
 simp only[P116,p116,q116,d0,cond_false,f0,chk_t,e0,fitsN h0 (by omega)]
 by_cases h:0 < n
 ·have d3:decide ((56:Int)*n≤140737488355328)=true:=by simp; omega
  have d4:∀ k:Nat,decide ((0:Int)≤(k:Int))=true:=fun k=>by simp
  have d5:decide (0 < (repl n.toNat ((0,(0,([],(0,0)))):KT)).length)=true:=by simp[repl]; omega
  simp only[h,decide_true,cond_true,d1,d2,d3,d4,d5,chk_t]
  rfl
 ·simp only[h,decide_false,cond_false]
theorem P69_eq (l m:List KT)(hl:l.length≤1000)(hm:m.length≤1000):P69 [l,m]=some (l++m):=by
 have i0:inR 0 [l,m].length=true:=rfl
 have i1:inR 1 [l,m].length=true:=rfl
 have x0:ix [l,m] 0=l:=rfl
 have x1:ix [l,m] 1=m:=rfl
 have e0:L69_0 ([l,m],0,[l,m],2,0)=some ([l,m],(l.length:Int)+(m.length:Int)):=
  while_run (step:=fun x=>p69_0 x.1 x.2.1 x.2.2.1 x.2.2.2.1 x.2.2.2.2) 2 (fun k=>([l,m],(match k with
   | 0=>0
   | 1=>(l.length:Int)
   | _=>(l.length:Int)+(m.length:Int)),[l,m],2,(k:Int))) _ (fun i hi=>by
    match i,hi with
    | 0,_=>
     have d:decide ((l.length:Int) < 0)=false:=by simp
     have e:(0:Int)+(l.length:Int)=(l.length:Int):=by omega
     show p69_0 [l,m] 0 [l,m] 2 0=some (.inl ([l,m],(l.length:Int),[l,m],2,1))
     simp only[p69_0,q69_0,show decide ((0:Int) < 2)=true from rfl,cond_true,i0,chk_t,x0,e,fitsN (show 0≤(l.length:Int)by omega) (by omega),d,cond_false,show fits .i64 ((0:Int)+1)=true from by decide]
     rfl
    | 1,_=>
     have d:decide ((l.length:Int)+(m.length:Int) < 0)=false:=by simp; omega
     show p69_0 [l,m] (l.length:Int) [l,m] 2 1=some (.inl ([l,m],(l.length:Int)+(m.length:Int),[l,m],2,2))
     simp only[p69_0,q69_0,show decide ((1:Int) < 2)=true from rfl,cond_true,i1,chk_t,x1,fitsN (show 0≤(l.length:Int)+(m.length:Int)by omega) (by omega),d,cond_false,show fits .i64 ((1:Int)+1)=true from by decide]
     rfl) rfl (by omega)
 have e1:L69_1 ([l,m],2,0,[])=some (l++m):=
  while_run (step:=fun x=>p69_1 x.1 x.2.1 x.2.2.1 x.2.2.2) 2 (fun k=>([l,m],2,(k:Int),(match k with
   | 0=>[]
   | 1=>l
   | _=>l++m))) _ (fun i hi=>by
    match i,hi with
    | 0,_=>
     have c:capOk 56 (([]:List KT).length+l.length)=true:=capOk_of (by simp; omega)
     show p69_1 [l,m] 2 0 []=some (.inl ([l,m],2,1,l))
     simp only[p69_1,q69_1,show decide ((0:Int) < 2)=true from rfl,cond_true,i0,chk_t,x0,c,show fits .i64 ((0:Int)+1)=true from by decide,List.nil_append]
     rfl
    | 1,_=>
     have c:capOk 56 (l.length+m.length)=true:=capOk_of (by omega)
     show p69_1 [l,m] 2 1 l=some (.inl ([l,m],2,2,l++m))
     simp only[p69_1,q69_1,show decide ((1:Int) < 2)=true from rfl,cond_true,i1,chk_t,x1,c,show fits .i64 ((1:Int)+1)=true from by decide]
     rfl) rfl (by omega)
 have el:(([l,m]:List (List KT)).length:Int)=2:=rfl
 simp only[P69,p69,q69,el,e0,bind_some',P116_eq _ (show 0≤(l.length:Int)+(m.length:Int)by omega) (by omega),e1]
theorem P117_eq (n:Int)(h0:0≤n)(h1:n≤100000):P117 n=some []:=by
 have d0:decide (n < 0)=false:=by simp; omega
 have f0:fits .i64 ((0:Int)-0)=true:=by decide
 have e0:n-((0:Int)-0)=n:=by omega
 have d1:decide ((0:Int)=0)=true:=by decide
 have d2:decide ((0:Int)≤0)=true:=by decide
 simp only[P117,p117,q117,d0,cond_false,f0,chk_t,e0,fitsN h0 (by omega)]
 by_cases h:0 < n
 ·have d3:decide ((8:Int)*n≤140737488355328)=true:=by simp; omega
  have d4:∀ k:Nat,decide ((0:Int)≤(k:Int))=true:=fun k=>by simp
  have d5:decide (0 < (repl n.toNat (0:Int)).length)=true:=by simp[repl]; omega
  simp only[h,decide_true,cond_true,d1,d2,d3,d4,d5,chk_t]
  rfl
 ·simp only[h,decide_false,cond_false]
theorem P70_eq (l m:List Int)(hl:l.length≤1000)(hm:m.length≤1000):P70 [l,m]=some (l++m):=by
 have i0:inR 0 [l,m].length=true:=rfl
 have i1:inR 1 [l,m].length=true:=rfl
 have x0:ix [l,m] 0=l:=rfl
 have x1:ix [l,m] 1=m:=rfl
 have e0:L70_0 ([l,m],0,[l,m],2,0)=some ([l,m],(l.length:Int)+(m.length:Int)):=
  while_run (step:=fun x=>p70_0 x.1 x.2.1 x.2.2.1 x.2.2.2.1 x.2.2.2.2) 2 (fun k=>([l,m],(match k with
   | 0=>0
   | 1=>(l.length:Int)
   | _=>(l.length:Int)+(m.length:Int)),[l,m],2,(k:Int))) _ (fun i hi=>by
    match i,hi with
    | 0,_=>
     have d:decide ((l.length:Int) < 0)=false:=by simp
     have e:(0:Int)+(l.length:Int)=(l.length:Int):=by omega
     show p70_0 [l,m] 0 [l,m] 2 0=some (.inl ([l,m],(l.length:Int),[l,m],2,1))
     simp only[p70_0,q70_0,show decide ((0:Int) < 2)=true from rfl,cond_true,i0,chk_t,x0,e,fitsN (show 0≤(l.length:Int)by omega) (by omega),d,cond_false,show fits .i64 ((0:Int)+1)=true from by decide]
     rfl
    | 1,_=>
     have d:decide ((l.length:Int)+(m.length:Int) < 0)=false:=by simp; omega
     show p70_0 [l,m] (l.length:Int) [l,m] 2 1=some (.inl ([l,m],(l.length:Int)+(m.length:Int),[l,m],2,2))
     simp only[p70_0,q70_0,show decide ((1:Int) < 2)=true from rfl,cond_true,i1,chk_t,x1,fitsN (show 0≤(l.length:Int)+(m.length:Int)by omega) (by omega),d,cond_false,show fits .i64 ((1:Int)+1)=true from by decide]
     rfl) rfl (by omega)
 have e1:L70_1 ([l,m],2,0,[])=some (l++m):=
  while_run (step:=fun x=>p70_1 x.1 x.2.1 x.2.2.1 x.2.2.2) 2 (fun k=>([l,m],2,(k:Int),(match k with
   | 0=>[]
   | 1=>l
   | _=>l++m))) _ (fun i hi=>by
    match i,hi with
    | 0,_=>
     have c:capOk 8 (([]:List Int).length+l.length)=true:=capOk_of (by simp; omega)
     show p70_1 [l,m] 2 0 []=some (.inl ([l,m],2,1,l))
     simp only[p70_1,q70_1,show decide ((0:Int) < 2)=true from rfl,cond_true,i0,chk_t,x0,c,show fits .i64 ((0:Int)+1)=true from by decide,List.nil_append]
     rfl
    | 1,_=>
     have c:capOk 8 (l.length+m.length)=true:=capOk_of (by omega)
     show p70_1 [l,m] 2 1 l=some (.inl ([l,m],2,2,l++m))
     simp only[p70_1,q70_1,show decide ((1:Int) < 2)=true from rfl,cond_true,i1,chk_t,x1,c,show fits .i64 ((1:Int)+1)=true from by decide]
     rfl) rfl (by omega)
 have el:(([l,m]:List (List Int)).length:Int)=2:=rfl
 simp only[P70,p70,q70,el,e0,bind_some',P117_eq _ (show 0≤(l.length:Int)+(m.length:Int)by omega) (by omega),e1]
theorem P113_eq {l:List AT}(hl:l.length≤1000):P113 l=some l:=by
 have:capOk 16 (([]:List AT).length+l.length)=true:=capOk_sm (by omega) (by simp; omega)
 simp only[P113,p113,q113,this,chk_t,append_self]
 exact bisn_clone l _ rfl
theorem P114_eq {l:List CT}(hl:l.length≤1000):P114 l=some l:=by
 have:capOk 72 (([]:List CT).length+l.length)=true:=capOk_sm (by omega) (by simp; omega)
 simp only[P114,p114,q114,this,chk_t,append_self]
 exact bisn_clone l _ rfl
theorem P115_eq {l:List VT}(hl:l.length≤1000):P115 l=some l:=by
 have:capOk 56 (([]:List VT).length+l.length)=true:=capOk_sm (by omega) (by simp; omega)
 simp only[P115,p115,q115,this,chk_t,append_self]
 exact bisn_clone l _ rfl
theorem P72_eq (l:List KT)(hl:l.length≤2000)(hd:∀ x∈l,x.2.2.1.length≤1000):∃ o,P72 l=some o∧o.Nodup∧(o.Pairwise fun x y=>x.1≤y.1)∧∀ x,x∈o↔x∈l∧0≤x.1∧x.1≤99:=by
 have e2:∀ (id:Int) (P Q:List KT) (i:Nat) (kn:Bool),i < l.length→(P++Q).length≤2000→(∀ x∈Q,x.2.2.1.length≤1000)→L72_2 (l,id,(P.length:Int),(i:Int),kn,(P.length:Int),P++Q)=some (l,id,(P.length:Int),(i:Int),kn||decide (gt l i∈Q),P++Q):=fun id P Q i kn hi hlen hQd=>by
  have hQ:∀ t,t < Q.length→gt (P++Q) (P.length+t)=gt Q t:=fun t ht=>by rw[gt_append,if_neg (by omega)]; congr 1; omega
  simp only[List.length_append]at hlen
  have:=while_run (step:=fun x=>p72_2 x.1 x.2.1 x.2.2.1 x.2.2.2.1 x.2.2.2.2.1 x.2.2.2.2.2.1 x.2.2.2.2.2.2) Q.length (fun t=>(l,id,(P.length:Int),(i:Int),kn||decide (gt l i∈Q.take t),((P.length+t:Nat):Int),P++Q)) (l,id,(P.length:Int),(i:Int),kn||decide (gt l i∈Q),P++Q) (fun t ht=>by
   have hlt:P.length+t < (P++Q).length:=by rw[List.length_append]; omega
   have hk:decide (gt l i∈Q.take (t+1))=(decide (gt l i∈Q.take t)||decide (gt Q t=gt l i)):=by
    rw[take_gt1 Q ht,Bool.eq_iff_iff]
    simp only[List.mem_append,List.mem_singleton,decide_eq_true_eq,Bool.or_eq_true]
    constructor
    ·rintro(h | h)
     ·exact .inl h
     ·exact .inr h.symm
    ·rintro(h | h)
     ·exact .inl h
     ·exact .inr h.symm
   simp only[p72_2,q72_2,lt_nat_t hlt,cond_true,inR_nat hlt,inR_nat hi,chk_t,ix_gt,hQ t ht,P86_eq _ _ (hQd _ (gt_mem ht)) (hd _ (gt_mem hi)),bind_some',fits_nat (show P.length+t < 9223372036854775807 by omega),hk]
   cases hkn:(kn||decide (gt l i∈Q.take t))
   ·have h1:kn=false:=by cases kn <;> simp_all
    have h2:decide (gt l i∈Q.take t)=false:=by cases kn <;> simp_all
    simp only[h1,h2,cond_false,Bool.false_or]; rfl
   ·rw[← Bool.or_assoc,hkn,Bool.true_or]; rfl) (by
   have hlen2:P.length+Q.length=(P++Q).length:=by rw[List.length_append]
   simp only[hlen2,p72_2,q72_2,lt_nat_f,cond_false,List.take_length]) (by omega)
  simp only[List.take_zero,List.not_mem_nil,decide_false,Bool.or_false,Nat.add_zero]at this
  exact this
 have e1:∀ (id:Int) (P:List KT),P.Nodup→(∀ x∈P,x∈l∧x.1 < id)→∃ y,L72_1 (l,id,(P.length:Int),0,P)=some y∧∃ Q:List KT,y=(l,id,P++Q)∧Q.Nodup∧∀ x,x∈Q↔x∈l∧x.1=id:=fun id P hP1 hP2=>by
  refine while_inv l.length (fun t s=>∃ Q:List KT,s=(l,id,(P.length:Int),(t:Int),P++Q)∧Q.Nodup∧∀ x,x∈Q↔x∈l.take t∧x.1=id) _ ⟨[],by simp,by simp,by simp⟩ (by omega) ?_ ?_
  ·rintro t s ht ⟨Q,rfl,q1,q2⟩
   have hlen:(P++Q).length≤2000:=by
    have hn:(P++Q).Nodup:=List.nodup_append.2 ⟨hP1,q1,fun x hx y hy e=>by subst e; have:=(hP2 x hx).2; have:=((q2 x).1 hy).2; omega⟩
    have:=List.Nodup.length_le_of_subset hn (l₂:=l) fun x hx=>by
     rcases List.mem_append.1 hx with h | h
     ·exact(hP2 x h).1
     ·exact List.mem_of_mem_take ((q2 x).1 h).1
    omega
   have c:capOk 56 ((P++Q).length+[gt l t].length)=true:=capOk_of (by simp only[List.length_singleton]; omega)
   simp only[p72_1,q72_1,lt_nat_t ht,cond_true,inR_nat ht,chk_t,ix_gt,e2 id P Q t _ ht hlen (fun x hx=>hd x (List.mem_of_mem_take ((q2 x).1 hx).1)),P39_eq _ (hd _ (gt_mem ht)),bind_some',c,fits_nat (show t < 9223372036854775807 by omega)]
   by_cases hid:(gt l t).1=id
   ·by_cases hmem:gt l t∈Q
    ·simp only[hid,hmem,decide_true,Bool.not_true,Bool.or_true,cond_false]
     refine⟨_,rfl,Q,rfl,q1,fun x=>?_⟩
     rw[take_gt1 l ht,List.mem_append,q2,List.mem_singleton]
     constructor
     ·rintro⟨h,h'⟩; exact⟨.inl h,h'⟩
     ·rintro⟨h | h,h'⟩
      ·exact⟨h,h'⟩
      ·subst h; exact(q2 _).1 hmem
    ·simp only[hid,hmem,decide_true,decide_false,Bool.not_true,Bool.not_false,Bool.or_false,cond_true]
     refine⟨_,rfl,Q++[gt l t],by rw[List.append_assoc]; rfl,?_,fun x=>?_⟩
     ·refine List.nodup_append.2 ⟨q1,by simp,fun x hx y hy e=>?_⟩
      rw[List.mem_singleton]at hy; subst hy; subst e; exact hmem hx
     ·rw[take_gt1 l ht,List.mem_append,List.mem_append,q2,List.mem_singleton]
      constructor
      ·rintro(⟨h,h'⟩ | h)
       ·exact⟨.inl h,h'⟩
       ·exact⟨.inr h,by rw[h]; exact hid⟩
      ·rintro⟨h | h,h'⟩
       ·exact .inl ⟨h,h'⟩
       ·exact .inr h
   ·simp only[hid,decide_false,Bool.not_false,Bool.true_or,Bool.not_true,cond_false]
    refine⟨_,rfl,Q,rfl,q1,fun x=>?_⟩
    rw[take_gt1 l ht,List.mem_append,q2,List.mem_singleton]
    constructor
    ·rintro⟨h,h'⟩; exact⟨.inl h,h'⟩
    ·rintro⟨h | h,h'⟩
     ·exact⟨h,h'⟩
     ·subst h; exact absurd h' hid
  ·rintro s ⟨Q,rfl,q1,q2⟩
   simp only[p72_1,q72_1,lt_nat_f,cond_false]
   rw[List.take_length]at q2
   exact⟨_,rfl,Q,rfl,q1,q2⟩
 obtain⟨y,y1,y2,y3,y4⟩:∃ y,L72_0 (l,0,[])=some y∧y.Nodup∧(y.Pairwise fun x y=>x.1≤y.1)∧∀ x,x∈y↔x∈l∧0≤x.1∧x.1 < 100:=by
  refine while_inv 100 (fun t s=>∃ P:List KT,s=(l,(t:Int),P)∧P.Nodup∧(P.Pairwise fun x y=>x.1≤y.1)∧∀ x,x∈P↔x∈l∧0≤x.1∧x.1 < (t:Int)) _ ⟨[],rfl,by simp,by simp,fun x=>⟨fun h=>(by cases h),fun h=>(by omega)⟩⟩ (by omega) ?_ ?_
  ·rintro t s ht ⟨P,rfl,p1,p2,p3⟩
   have d:decide ((t:Int)≤99)=true:=by simp; omega
   obtain⟨y,h1,Q,rfl,h2,h3⟩:=e1 t P p1 fun x hx=>⟨((p3 x).1 hx).1,((p3 x).1 hx).2.2⟩
   simp only[p72_0,q72_0,d,cond_true,h1,bind_some',fits_nat (show t < 9223372036854775807 by omega),chk_t]
   refine⟨_,rfl,P++Q,by simp only[cast_succ],List.nodup_append.2 ⟨p1,h2,fun x hx y hy e=>?_⟩,List.pairwise_append.2 ⟨p2,?_,fun x hx y hy=>?_⟩,fun x=>?_⟩
   ·subst e; have:=((p3 x).1 hx).2.2; have:=((h3 x).1 hy).2; omega
   ·exact List.pairwise_iff_forall_sublist.2 fun {x y} hs=>by
     have hx:=((h3 x).1 (hs.subset (by simp))).2
     have hy:=((h3 y).1 (hs.subset (by simp))).2
     omega
   ·have:=((p3 x).1 hx).2.2; have:=((h3 y).1 hy).2; omega
   ·rw[List.mem_append,p3,h3]
    constructor
    ·rintro(⟨a,b,c⟩ | ⟨a,b⟩)
     ·exact⟨a,b,by omega⟩
     ·exact⟨a,by omega,by omega⟩
    ·rintro⟨a,b,c⟩
     by_cases hx:x.1 < (t:Int)
     ·exact .inl ⟨a,b,hx⟩
     ·exact .inr ⟨a,by omega⟩
  ·rintro s ⟨P,rfl,p1,p2,p3⟩
   exact⟨P,rfl,p1,p2,p3⟩
 exact⟨y,by simp only[P72,p72,q72,y1,bind_some'],y2,y3,fun x=>(y4 x).trans ⟨fun h=>⟨h.1,h.2.1,by omega⟩,fun h=>⟨h.1,h.2.1,by omega⟩⟩⟩
end Go.Proofs.YtdacabdocbhkdaaGreat.D
