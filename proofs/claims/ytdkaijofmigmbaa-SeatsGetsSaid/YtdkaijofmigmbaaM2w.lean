/- Cut down from longer texts. -/
import Derived.Test.YtdkaijofmigmbaaM1w
set_option linter.unusedVariables false
set_option linter.unusedSimpArgs false
set_option linter.unusedSectionVars false
namespace Go.Proofs.Ytdkaijofmigmbaa.D
open Go Go.Proofs Go.Proofs.Ytdkaijofmigmbaa.L
def ut (h:List Int×Int)(l:List au)(m:Int):Prop:=cx h∧b8 l∧0≤m∧m≤9999
instance (h:List Int×Int) (l:List au) (m:Int):Decidable (ut h l m):=by unfold ut; infer_instance
theorem yP (h:List Int×Int)(l:List au)(m:Int):P12 (h,l,m)=some (decide (ut h l m)):=by
 show q12 C2 wO h l m=_;unfold q12;rw[UR,bind_some'];by_cases hf:30 < h.1.length∨60 < l.length
 ·rw[decide_eq_true hf,Bool.not_true,cond_false,decide_eq_false fun hv:ut h l m=>by have:=hv.1.1; have:=hv.2.1.1; omega]
 ·rw[decide_eq_false hf,Bool.not_false,cond_true,UJ h l (by omega) (by omega),bind_some'];by_cases hc:ln h l=0
  ·obtain⟨c1,c2⟩:=mb.1 hc;rw[decide_eq_true hc,cond_true];by_cases h0:0≤m
   ·rw[decide_eq_true h0,cond_true];congr 1;rw[Bool.eq_iff_iff,decide_eq_true_eq,decide_eq_true_eq];exact⟨fun q=>⟨c1,c2,h0,q⟩,fun q=>q.2.2.2⟩
   ·rw[decide_eq_false h0,cond_false,decide_eq_false fun hv:ut h l m=>h0 hv.2.2.1]
  ·rw[decide_eq_false hc,cond_false,decide_eq_false fun hv:ut h l m=>hc (mb.2 ⟨hv.1,hv.2.1⟩)]
theorem UZ (n:Int):kH n=some (decide (0≤n∧n≤99)):=by
 show cond (decide (0≤n)) (some (decide (n≤99))) (some false)=_;by_cases h:0≤n
 ·rw[decide_eq_true h,cond_true];congr 1;rw[Bool.eq_iff_iff,decide_eq_true_eq,decide_eq_true_eq];omega
 ·rw[decide_eq_false h,cond_false,decide_eq_false (by omega)]
theorem ug {h:List Int×Int}{l:List au}{m n:Int}(hv:ut h l m)(hn:0≤n∧n≤99):P15 (h,l,m,n)=some (ku ((afterM h l m).2.1 n),0):=by
 obtain⟨c1,c2,c3⟩:=hv;rw[HJ m (by have:=c1.1; omega) (by have:=c2.1; omega)];unfold HI;rw[if_pos (eH.2 ⟨⟨c1,c2⟩,c3,hn,by decide,by decide⟩)]
section
variable {K:gk→Prop} (k0:∀ o,K o→o.1≠0) (k1:∀ o,K o→o.1=2→K (iV o)) (k2:∀ o,K o→o.1=2→K (3,o.2)) (k3:∀ o,K o→held o→K (5,-1,-1,o.2.2.2.1,o.2.2.2.2))
include k1
include k0 k2 k3
end
theorem HW {h:List Int×Int}{l:List au}{m:Int}(hv:ut h l m):P17 (h,l,m)=some (0,(afterM h l m).1):=by
 obtain⟨c1,c2,c3⟩:=hv;rw[UO m (by have:=c1.1; omega) (by have:=c2.1; omega)];unfold UN;rw[if_pos (eH.2 ⟨⟨c1,c2⟩,c3,by decide,by decide⟩)]
theorem more1 {h:List Int×Int}{l:List au}{m id:Int}(hv:ut h l m)(hl40:l.length < 40)(h1:-1≤id)(h2:id < 99)(h3:∀ c∈l,c.2.1≤m)(h4:∀ c∈l,c.1≤id){d:au}(hd:be d)(d1:d.1=id+1)(d2:d.2.1=m):
  ut h (l++[d]) m∧afterM h (l++[d]) m=eN (afterM h l m) d:=by
 have hok:b8 (l++[d]):=me hv.2.1 (by simp; omega) (by simpa using hd) (fun c hc e he=>by rw[List.mem_singleton.1 he]; have:=h4 c hc; omega) (by simp);refine⟨⟨hv.1,hok,hv.2.2⟩,?_⟩;rw[sx hv.1 hv.2.1 hok h3 (by simpa using d2) (fun c hc e he=>by rw[List.mem_singleton.1 he]; have:=h4 c hc; omega) (by simp)];rfl
theorem Ly {h:List Int×Int}(hh:cx h){x:HM}(hI:IM (gi h.1) x):x.1.length=h.1.length∧∀ r,r < x.1.length→((gt x.1 r).length:Int)=gt h.1 r:=by
 have hl:x.1.length=h.1.length:=by rw[hI.len]; simp[gi]
 refine⟨hl,fun r hr=>?_⟩;have e:(gt x.1 r).length=(gt h.1 r).toNat:=by
  rw[← tV hr,hI.shp];unfold gi;rw[ca (by simp; omega),ca (show r < h.1.length by omega)]
  simp
 have:=hh.2.1 _ (ck (show r < h.1.length by omega));omega
theorem HX {h:List Int×Int}(hh:cx h){x:HM}(hI:IM (gi h.1) x):P18 (h,x.1)=some (true,x.1):=by
 obtain⟨hl,hr⟩:=Ly hh hI;have h6:=hh.1;have e:A7 (0,x.1,h)=some (.inr (x.1,h)):=by
  refine aY (step:=fun x=>PV x.1 x.2.1 x.2.2) x.1.length (fun k=>((k:Int),x.1,h)) (.inr (x.1,h)) (fun k hk=>?_) ?_ (by omega)
  ·show sf (k:Int) x.1 h=_;unfold sf;rw[show decide ((k:Int) < (↑(List.length x.1):Int))=true from aN hk,cond_true,show decide ((k:Int) < (↑(List.length h.1):Int))=true from aN (by omega),cond_true,aj (aC hk),aj (aC (by omega)),bI,bI,
    decide_eq_true (hr k hk),Bool.not_true,cond_false,aj (aE (by omega))]
   rfl
  ·show sf (x.1.length:Int) x.1 h=_;unfold sf;rw[show decide ((x.1.length:Int) < (↑(List.length x.1):Int))=false from aV _,cond_false]
 show q18 A7 h x.1=_;unfold q18;rw[e,bind_some',elim_inr];simp only;rw[decide_eq_true (show(↑(List.length x.1):Int)=(↑(List.length h.1):Int)by omega)]
def cn (row:List Int)(n:Int):Nat→Nat
 | 0=>0
 | k+1=>cn row n k+if gt row k=n then 1 else 0
theorem HY (row:List Int)(n:Int):∀ k,cn row n k≤k
 | 0=>Nat.le_refl _
 | k+1=>by have:=HY row n k; rw[cn]; split <;> omega
theorem Qp (row:List Int)(n:Int):∀ k,(∀ j,j < k→gt row j≠n)→cn row n k=0
 | 0,_=>rfl
 | k+1,h=>by rw[cn,Qp row n k fun j hj=>h j (by omega),if_neg (h k (by omega))]
theorem Qq (row:List Int)(n:Int)(S Z:Nat):∀ k,(∀ j,j < k→(gt row j=n↔S≤j∧j < S+Z))→cn row n k=min k (S+Z)-min k S
 | 0,_=>by simp[cn]
 | k+1,h=>by
  rw[cn,Qq row n S Z k fun j hj=>h j (by omega)];have:=h k (by omega);by_cases c:gt row k=n
  ·rw[if_pos c]; have:=this.1 c; omega
  ·rw[if_neg c]; have:¬ (S≤k∧k < S+Z):=fun q=>c (this.2 q); omega
def HZ (seats:List (List Int))(n:Int):Nat→Nat
 | 0=>0
 | r+1=>HZ seats n r+cn (gt seats r) n (gt seats r).length
theorem H0 {seats:List (List Int)}(n:Int)(hl:∀ r,r < seats.length→(gt seats r).length≤12):∀ r,r≤seats.length→HZ seats n r≤12*r
 | 0,_=>Nat.le_refl _
 | r+1,h=>by
  have:=H0 n hl r (by omega);have:=HY (gt seats r) n (gt seats r).length;have:=hl r (by omega);rw[HZ];omega
theorem Bm {seats:List (List Int)}{n:Int}{R S Z:Nat}(ho:Owns seats n R S Z):∀ r,r≤seats.length→HZ seats n r=if R < r then Z else 0
 | 0,_=>by simp[HZ]
 | r+1,h=>by
  rw[HZ,Bm ho r (by omega)];obtain⟨h1,h2,h3⟩:=ho;by_cases c:r=R
  ·subst c;rw[if_neg (by omega),if_pos (by omega),Qq _ _ S Z _ fun j hj=>by rw[h3 r j h1 hj]; exact⟨fun q=>q.2,fun q=>⟨rfl,q⟩⟩];omega
  ·rw[Qp _ _ _ fun j hj e=>c ((h3 r j (by omega) hj).1 e).1];by_cases d:R < r
   ·rw[if_pos d,if_pos (by omega)]; omega
   ·rw[if_neg d,if_neg (by omega)]
theorem H1 {lens:List Nat}{x:HM}(hI:IM lens x){r s:Nat}(hr:r < x.1.length)(hs:s < (gt x.1 r).length){v:Int}(he:gt (gt x.1 r) s=v)(hv:v ≠ -1):
  (0≤v∧v≤99)∧held (x.2.1 v)∧∃ S Z:Nat,(ku (x.2.1 v)).2.1=(r:Int)∧(ku (x.2.1 v)).2.2.1=(S:Int)∧(ku (x.2.1 v)).2.2.2=(Z:Int)∧S≤s∧s < S+Z∧Z≤12:=by
 have hh:held (x.2.1 v):=by
  rcases hI.occ r s hr hs with e | e
  ·rw[he]at e; exact absurd e hv
  ·rw[he]at e; exact e
 obtain⟨R,S,Z,e1,e2,e3,⟨o1,o2,o3⟩,e5,e6⟩:=hI.own _ hh;have q:=(o3 r s hr hs).1 he;refine⟨ge hI hh,hh,S,Z,?_,e2,e3,q.2.1,q.2.2,e6⟩;show(x.2.1 v).2.1=(r:Int);rw[e1,q.1]
section
variable {h:List Int×Int} {l:List au} {x:Int×Int×Int} (hv:ut h l x.1) (hn:0≤x.2.1∧x.2.1≤99) {has:Bool} (hhas:has=true↔held ((afterM h l x.1).2.1 x.2.1))
include hv hn hhas
theorem Lz {own r s:Nat}(hr:r < (afterM h l x.1).1.length)(hs:s < (gt (afterM h l x.1).1 r).length)(hs12:(gt (afterM h l x.1).1 r).length≤12)(ho:own≤10000):
  Cw P12 P14 kH P15 P17 P18 l has (own:Int) (r:Int) (s:Int) h x (ku ((afterM h l x.1).2.1 x.2.1)) (afterM h l x.1).1 =
   some (.inl (l,has,((own+if gt (gt (afterM h l x.1).1 r) s=x.2.1 then 1 else 0:Nat):Int),(r:Int),((s+1:Nat):Int),h,x,ku ((afterM h l x.1).2.1 x.2.1),(afterM h l x.1).1)):=by
 have hI:=IM.after (h:=h) hv.2.1 x.1;have hP:∀ v,0≤v∧v≤99→P15 (h,l,x.1,v)=some (ku ((afterM h l x.1).2.1 v),0):=fun v h'=>ug hv h';unfold Cw;generalize afterM h l x.1=A at hr hs hs12 hI hP hhas ⊢;have f1:af .i64 ((s:Int)+1)=true:=aE (by omega);have f2:af .i64 ((own:Int)+1)=true:=aE (by omega);rw[aj (aC hr),bI,show decide ((s:Int) < (↑(List.length (gt A.1 r)):Int))=true from aN hs,cond_true,aj (aC hr),aj (aC hs),bI];have hcell:=fun(v:Int) (he:gt (gt A.1 r) s=v) (hne:v ≠ -1)=>H1 hI hr hs he hne;generalize gt (gt A.1 r) s=v at hcell ⊢;by_cases hvn:v=x.2.1
 ·have hne:v ≠ -1:=by omega
  obtain⟨c1,c2,S,Z,c3,c4,c5,c6,c7,c8⟩:=hcell v rfl hne;have hst:(ku (A.2.1 v)).1=2∨(ku (A.2.1 v)).1=3:=c2;have hP':=hP v c1;have hhas':has=true:=hhas.2 (hvn▸c2);rw[← hvn,decide_eq_true rfl,cond_true,if_pos rfl,aj f2,hhas',Bool.not_true,cond_false,c3,c4,c5,decide_eq_true rfl,Bool.not_true,cond_false,decide_eq_false (show ¬ (s:Int) < (S:Int)by omega),cond_false,aj (aO (by omega) (by omega)),
   decide_eq_false (show ¬ (S:Int)+(Z:Int)≤(s:Int)by omega),cond_false,decide_eq_false hne,cond_false,hP',bind_some']
  simp only[decide_true,Bool.not_true,cond_false,c3,c4,c5];rw[decide_eq_false (show ¬ (s:Int) < (S:Int)by omega),decide_eq_false (show ¬ (S:Int)+(Z:Int)≤(s:Int)by omega),aj f1];rcases hst with e | e
  ·rw[e]; simp only[decide_true,Bool.not_true,cond_false]; rw[aj (aO (by omega) (by omega))]; rfl
  ·rw[e]; simp only[decide_true,Bool.not_true,cond_false]; rw[aj (aO (by omega) (by omega))]; rfl
 ·rw[decide_eq_false hvn,cond_false,if_neg hvn];by_cases hne:v = -1
  ·rw[decide_eq_true hne,cond_true,aj f1]; rfl
  ·obtain⟨c1,c2,S,Z,c3,c4,c5,c6,c7,c8⟩:=hcell v rfl hne;have hst:(ku (A.2.1 v)).1=2∨(ku (A.2.1 v)).1=3:=c2;rw[decide_eq_false hne,cond_false,hP v c1,bind_some'];simp only[decide_true,Bool.not_true,cond_false,c3,c4,c5];rw[decide_eq_false (show ¬ (s:Int) < (S:Int)by omega),decide_eq_false (show ¬ (S:Int)+(Z:Int)≤(s:Int)by omega),aj f1];rcases hst with e | e
   ·rw[e]; simp only[decide_true,Bool.not_true,cond_false]; rw[aj (aO (by omega) (by omega))]; rfl
   ·rw[e]; simp only[decide_true,Bool.not_true,cond_false]; rw[aj (aO (by omega) (by omega))]; rfl
theorem LA {own r:Nat}(hr:r < (afterM h l x.1).1.length)(hs12:(gt (afterM h l x.1).1 r).length≤12)(ho:own≤9000):
  Ha (l,has,(own:Int),(r:Int),0,h,x,ku ((afterM h l x.1).2.1 x.2.1),(afterM h l x.1).1) =
   some (.inr (l,has,((own+cn (gt (afterM h l x.1).1 r) x.2.1 (gt (afterM h l x.1).1 r).length:Nat):Int),(r:Int),h,x,ku ((afterM h l x.1).2.1 x.2.1),(afterM h l x.1).1)):=by
 have key:=aY (step:=fun x=>aaf x.1 x.2.1 x.2.2.1 x.2.2.2.1 x.2.2.2.2.1 x.2.2.2.2.2.1 x.2.2.2.2.2.2.1 x.2.2.2.2.2.2.2.1 x.2.2.2.2.2.2.2.2) (gt (afterM h l x.1).1 r).length
  (fun k=>(l,has,((own+cn (gt (afterM h l x.1).1 r) x.2.1 k:Nat):Int),(r:Int),(k:Int),h,x,ku ((afterM h l x.1).2.1 x.2.1),(afterM h l x.1).1))
  (Sum.inr (l,has,((own+cn (gt (afterM h l x.1).1 r) x.2.1 (gt (afterM h l x.1).1 r).length:Nat):Int),(r:Int),h,x,ku ((afterM h l x.1).2.1 x.2.1),(afterM h l x.1).1))
  (fun k hk=>by
   have hc:=HY (gt (afterM h l x.1).1 r) x.2.1 k;have e:=Lz hv hn hhas (own:=own+cn (gt (afterM h l x.1).1 r) x.2.1 k) hr hk hs12 (by omega);rw[Nat.add_assoc]at e;exact e)
  (by
   show Cw P12 P14 kH P15 P17 P18 l has _ (r:Int) ((gt (afterM h l x.1).1 r).length:Int) h x (ku ((afterM h l x.1).2.1 x.2.1)) (afterM h l x.1).1=_;unfold Cw;rw[aj (aC hr),bI,show decide (((gt (afterM h l x.1).1 r).length:Int) < (↑(List.length (gt (afterM h l x.1).1 r)):Int))=false from aV _,cond_false])
  (by omega)
 exact key
theorem uh :
  KI (l,has,0,0,h,x,ku ((afterM h l x.1).2.1 x.2.1),(afterM h l x.1).1)=some (.inr (has,((HZ (afterM h l x.1).1 x.2.1 (afterM h l x.1).1.length:Nat):Int),h,x,ku ((afterM h l x.1).2.1 x.2.1),(afterM h l x.1).1)):=by
 have hI:=IM.after (h:=h) hv.2.1 x.1;have hlen:=hI.len;have hsl:=kj hv.1;have hrow:∀ r,r < (afterM h l x.1).1.length→(gt (afterM h l x.1).1 r).length≤12:=fun r hr=>hI.row (gx hv.1) hr;have key:=aY (step:=fun x=>aah x.1 x.2.1 x.2.2.1 x.2.2.2.1 x.2.2.2.2.1 x.2.2.2.2.2.1 x.2.2.2.2.2.2.1 x.2.2.2.2.2.2.2) (afterM h l x.1).1.length
  (fun k=>(l,has,((HZ (afterM h l x.1).1 x.2.1 k:Nat):Int),(k:Int),h,x,ku ((afterM h l x.1).2.1 x.2.1),(afterM h l x.1).1))
  (Sum.inr (has,((HZ (afterM h l x.1).1 x.2.1 (afterM h l x.1).1.length:Nat):Int),h,x,ku ((afterM h l x.1).2.1 x.2.1),(afterM h l x.1).1))
  (fun k hk=>by
   show Cx P12 P14 kH P15 P17 P18 Ha l has ((HZ (afterM h l x.1).1 x.2.1 k:Nat):Int) (k:Int) h x (ku ((afterM h l x.1).2.1 x.2.1)) (afterM h l x.1).1=_;unfold Cx;have hc:=H0 x.2.1 hrow k (by omega);rw[show decide ((k:Int) < (↑(List.length (afterM h l x.1).1):Int))=true from aN hk,cond_true,LA hv hn hhas hk (hrow k hk) (by omega),bind_some',elim_inr];simp only;rw[aj (aE (by omega))];rfl)
  (by
   show Cx P12 P14 kH P15 P17 P18 Ha l has _ ((afterM h l x.1).1.length:Int) h x (ku ((afterM h l x.1).2.1 x.2.1)) (afterM h l x.1).1=_;unfold Cx;rw[show decide (((afterM h l x.1).1.length:Int) < (↑(List.length (afterM h l x.1).1):Int))=false from aV _,cond_false])
  (by omega)
 exact key
end
theorem Pure.SeatsOnce' (h:List Int×Int)(l:List au)(x:Int×Int×Int):P5 (h,l,x)=some true:=by
 show q5 P12 P14 kH P15 P17 P18 KI h l x=_;unfold q5;rw[yP,bind_some',UZ];simp only[qi,bind_some'];by_cases hv:ut h l x.1
 case neg=>rw[decide_eq_false hv]; rfl
 rw[decide_eq_true hv,Bool.not_true,cond_false];by_cases hn:0≤x.2.1∧x.2.1≤99
 case neg=>rw[decide_eq_false hn]; rfl
 have hI:=IM.after (h:=h) hv.2.1 x.1;rw[decide_eq_true hn,Bool.not_true,cond_false,ug hv hn,bind_some',HW hv,bind_some'];simp only[decide_true,Bool.not_true,cond_false];rw[HX hv.1 hI,bind_some'];simp only[Bool.not_true,cond_false];have hown:held ((afterM h l x.1).2.1 x.2.1)→((HZ (afterM h l x.1).1 x.2.1 (afterM h l x.1).1.length:Nat):Int)=(ku ((afterM h l x.1).2.1 x.2.1)).2.2.2:=fun hh=>by
  obtain⟨R,S,Z,e1,e2,e3,o,_⟩:=hI.own _ hh;rw[Bm o _ (Nat.le_refl _),if_pos o.1];exact e3.symm
 have hst:=hI.st x.2.1;have hp1:(ku ((afterM h l x.1).2.1 x.2.1)).1=((afterM h l x.1).2.1 x.2.1).1:=rfl;have hp2:(ku ((afterM h l x.1).2.1 x.2.1)).2.1=((afterM h l x.1).2.1 x.2.1).2.1:=rfl;have hp3:(ku ((afterM h l x.1).2.1 x.2.1)).2.2.1=((afterM h l x.1).2.1 x.2.1).2.2.1:=rfl;by_cases h2:((afterM h l x.1).2.1 x.2.1).1=2
 ·rw[hp1,decide_eq_true h2,cond_true,uh hv hn ⟨fun _=>.inl h2,fun _=>rfl⟩,bind_some',elim_inr,Bool.not_true,cond_false,decide_eq_true (hown (.inl h2))];rfl
 rw[hp1,decide_eq_false h2,cond_false];by_cases h3:((afterM h l x.1).2.1 x.2.1).1=3
 ·rw[decide_eq_true h3,Bool.not_true,cond_false,uh hv hn ⟨fun _=>.inr h3,fun _=>rfl⟩,bind_some',elim_inr,Bool.not_true,cond_false,decide_eq_true (hown (.inr h3))];rfl
 have hnh:¬ held ((afterM h l x.1).2.1 x.2.1):=fun q=>q.elim h2 h3;have hrs:((afterM h l x.1).2.1 x.2.1).2.1 = -1∧((afterM h l x.1).2.1 x.2.1).2.2.1 = -1:=by
  rcases hst with e | ⟨_,_,e | e,_⟩
  ·rw[e]; exact⟨rfl,rfl⟩
  ·exact absurd e hnh
  ·exact e
 rw[decide_eq_false h3,Bool.not_false,cond_true,hp2,decide_eq_true hrs.1,Bool.not_true,cond_false,hp3,decide_eq_true hrs.2,Bool.not_true,cond_false,uh hv hn ⟨fun e=>(by cases e),fun e=>absurd e hnh⟩,bind_some',elim_inr,Bool.not_false,cond_true]
theorem Pure.SeatsOnce (h:List Int×Int)(_:Wf TyH h)(l:List au)(_:Wf TyC l)(x:Int×Int×Int)(_:Wf TyX x):P5 (h,l,x)=some true:=Pure.SeatsOnce' h l x
def cB (p:Nat→Bool):Nat→Nat
 | 0=>0
 | k+1=>cB p k+if p k=true then 1 else 0
theorem wG (p:Nat→Bool):∀ n,cB p n≤n
 | 0=>Nat.le_refl _
 | n+1=>by have:=wG p n; rw[cB]; split <;> omega
theorem ui (p:Nat→Bool):∀ n,0 < cB p n↔∃ k,k < n∧p k=true
 | 0=>by
  constructor
  ·intro h; exact absurd h (Nat.lt_irrefl 0)
  ·rintro⟨k,h,_⟩; omega
 | n+1=>by
  have ih:=ui p n;rw[cB];by_cases c:p n=true
  ·rw[if_pos c]; exact⟨fun _=>⟨n,by omega,c⟩,fun _=>by omega⟩
  ·rw[if_neg c,Nat.add_zero,ih];constructor
   ·rintro⟨k,h1,h2⟩; exact⟨k,by omega,h2⟩
   ·rintro⟨k,h1,h2⟩;by_cases e:k=n
    ·subst e; exact absurd h2 c
    ·exact⟨k,by omega,h2⟩
def sB (q:Nat→Nat):Nat→Nat
 | 0=>0
 | k+1=>sB q k+q k
theorem yQ (q:Nat→Nat):∀ n,0 < sB q n↔∃ k,k < n∧0 < q k
 | 0=>by
  constructor
  ·intro h; exact absurd h (Nat.lt_irrefl 0)
  ·rintro⟨k,h,_⟩; omega
 | n+1=>by
  have ih:=yQ q n;rw[sB];constructor
  ·intro h;by_cases c:0 < q n
   ·exact⟨n,by omega,c⟩
   ·obtain⟨k,h1,h2⟩:=ih.1 (by omega);exact⟨k,by omega,h2⟩
  ·rintro⟨k,h1,h2⟩;by_cases e:k=n
   ·subst e; omega
   ·have:=ih.2 ⟨k,by omega,h2⟩; omega
def pP (seats:List (List Int))(z r s:Nat):Bool:=ji (gt seats r) s z
def pW (seats:List (List Int))(z r s:Nat):Bool:=ji (gt seats r) s z&&!gp (gt seats r) (s:Int) (z:Int)
theorem LB (l:List Int)(k:Nat):fr l (k:Int)=decide (gt l k = -1):=by
 by_cases h:k < l.length
 ·exact Id h
 ·rw[zL (by omega)];unfold fr;have:wi (k:Int) 0 ((l.length:Int)-1)=false:=by
   cases hw:wi (k:Int) 0 ((l.length:Int)-1)with
   | false=>rfl
   | true=>have:=cS.1 hw; omega
  rw[this];rfl
theorem wH (l:List Int)(s n:Nat):LI l (s:Int) n=ji l s n:=
 pO fun k _=>by rw[show((s:Int)+(k:Int))=((s+k:Nat):Int)by omega,LB]
theorem wI {l:List Int}{s z:Nat}(hz:1≤z)(h:ji l s z=true):s+z≤l.length:=by
 by_cases c:s+z≤l.length
 ·exact c
 ·have:=cN.1 h (s+z-1) (by omega) (by omega);rw[zL (by omega)]at this;cases this
section
variable {l:List au} {id row seat e:Int} {h:List Int×Int} {m o:Int} {z:Nat} {seats:List (List Int)}
theorem LC {a b r:Nat}(hr:r < seats.length)(hl:(gt seats r).length≤12)(hz:z≤12)(ha:a≤1000)(hb:b≤1000):
  Hb (l,id,row,seat,e,(a:Int),(b:Int),(r:Int),0,h,(m,o,(z:Int)),seats)=some (l,id,row,seat,e,((a+cB (pP seats z r) (gt seats r).length:Nat):Int),((b+cB (pW seats z r) (gt seats r).length:Nat):Int),(r:Int),h,(m,o,(z:Int)),seats):=by
 have key:=aY (step:=fun x=>aaw x.1 x.2.1 x.2.2.1 x.2.2.2.1 x.2.2.2.2.1 x.2.2.2.2.2.1 x.2.2.2.2.2.2.1 x.2.2.2.2.2.2.2.1 x.2.2.2.2.2.2.2.2.1 x.2.2.2.2.2.2.2.2.2.1 x.2.2.2.2.2.2.2.2.2.2.1 x.2.2.2.2.2.2.2.2.2.2.2) (gt seats r).length
  (fun k=>(l,id,row,seat,e,((a+cB (pP seats z r) k:Nat):Int),((b+cB (pW seats z r) k:Nat):Int),(r:Int),(k:Int),h,(m,o,(z:Int)),seats))
  (l,id,row,seat,e,((a+cB (pP seats z r) (gt seats r).length:Nat):Int),((b+cB (pW seats z r) (gt seats r).length:Nat):Int),(r:Int),h,(m,o,(z:Int)),seats)
  (fun k hk=>by
   show Cy P12 P14 P17 P21 P18 P22 P23 P15 l id row seat e ((a+cB (pP seats z r) k:Nat):Int) ((b+cB (pW seats z r) k:Nat):Int) (r:Int) (k:Int) h (m,o,(z:Int)) seats=_;unfold Cy;have h1:=wG (pP seats z r) k;have h2:=wG (pW seats z r) k;have fa:af .i64 (((a+cB (pP seats z r) k:Nat):Int)+1)=true:=aE (by omega);have fb:af .i64 (((b+cB (pW seats z r) k:Nat):Int)+1)=true:=aE (by omega);have fk:af .i64 ((k:Int)+1)=true:=aE (by omega);have e1:cB (pP seats z r) (k+1)=cB (pP seats z r) k+if ji (gt seats r) k z=true then 1 else 0:=rfl;have e2:cB (pW seats z r) (k+1)=cB (pW seats z r) k+if(ji (gt seats r) k z&&!gp (gt seats r) (k:Int) (z:Int))=true then 1 else 0:=rfl;simp only;rw[aj (aC hr),bI,show decide ((k:Int) < (↑(List.length (gt seats r)):Int))=true from aN hk,cond_true,aj (aC hr),Ie _ (by omega) (by omega) (by omega),bind_some',wH,e1,e2];cases ji (gt seats r) k z with
   | false=>rw[cond_false,aj fk]; rfl
   | true=>
    rw[cond_true,aj fa,aj (aC hr),If _ (by omega) (by omega) (by omega) (by omega),bind_some'];cases gp (gt seats r) (k:Int) (z:Int)with
    | false=>rw[Bool.not_false,cond_true,aj fb,aj fk]; rfl
    | true=>rw[Bool.not_true,cond_false,aj fk]; rfl)
  (by
   show Cy P12 P14 P17 P21 P18 P22 P23 P15 l id row seat e _ _ (r:Int) ((gt seats r).length:Int) h (m,o,(z:Int)) seats=_;unfold Cy;rw[aj (aC hr),bI,show decide (((gt seats r).length:Int) < (↑(List.length (gt seats r)):Int))=false from aV _,cond_false])
  (by omega)
 exact key
def nP (seats:List (List Int))(z:Nat):Nat:=sB (fun r=>cB (pP seats z r) (gt seats r).length) seats.length
def nW (seats:List (List Int))(z:Nat):Nat:=sB (fun r=>cB (pW seats z r) (gt seats r).length) seats.length
theorem H2 {q:Nat→Nat}{n:Nat}(h:∀ r,r < n→q r≤12):∀ k,k≤n→sB q k≤12*k
 | 0,_=>Nat.le_refl _
 | k+1,hk=>by have:=H2 h k (by omega); have:=h k (by omega); rw[sB]; omega
theorem LD (hl:∀ r,r < seats.length→(gt seats r).length≤12)(hs:seats.length≤30)(hz:z≤12):
  KJ (l,id,row,seat,e,0,0,0,h,(m,o,(z:Int)),seats)=some (l,id,row,seat,e,(nP seats z:Int),(nW seats z:Int),h,(m,o,(z:Int)),seats):=by
 have b1:=H2 (q:=fun r=>cB (pP seats z r) (gt seats r).length) (n:=seats.length) fun r hr=>Nat.le_trans (wG _ _) (hl r hr);have b2:=H2 (q:=fun r=>cB (pW seats z r) (gt seats r).length) (n:=seats.length) fun r hr=>Nat.le_trans (wG _ _) (hl r hr);have key:=aY (step:=fun x=>aay x.1 x.2.1 x.2.2.1 x.2.2.2.1 x.2.2.2.2.1 x.2.2.2.2.2.1 x.2.2.2.2.2.2.1 x.2.2.2.2.2.2.2.1 x.2.2.2.2.2.2.2.2.1 x.2.2.2.2.2.2.2.2.2.1 x.2.2.2.2.2.2.2.2.2.2) seats.length
  (fun k=>(l,id,row,seat,e,(sB (fun r=>cB (pP seats z r) (gt seats r).length) k:Int),(sB (fun r=>cB (pW seats z r) (gt seats r).length) k:Int),(k:Int),h,(m,o,(z:Int)),seats))
  (l,id,row,seat,e,(nP seats z:Int),(nW seats z:Int),h,(m,o,(z:Int)),seats)
  (fun k hk=>by
   have c1:=b1 k (by omega);have c2:=b2 k (by omega);show Cz P12 P14 P17 P21 P18 P22 P23 P15 Hb l id row seat e (sB (fun r=>cB (pP seats z r) (gt seats r).length) k:Int) (sB (fun r=>cB (pW seats z r) (gt seats r).length) k:Int) (k:Int) h (m,o,(z:Int)) seats=_;unfold Cz;rw[show decide ((k:Int) < (↑(List.length seats):Int))=true from aN hk,cond_true,LC hk (hl k hk) hz (by omega) (by omega),bind_some'];simp only;rw[aj (aE (by omega))];rfl)
  (by
   show Cz P12 P14 P17 P21 P18 P22 P23 P15 Hb l id row seat e _ _ (seats.length:Int) h (m,o,(z:Int)) seats=_;unfold Cz;rw[show decide ((seats.length:Int) < (↑(List.length seats):Int))=false from aV _,cond_false];rfl)
  (by omega)
 exact key
end
theorem U0 {seats:List (List Int)}{z:Nat}(hz:1≤z):0 < nP seats z↔(bO seats z).isSome=true:=by
 unfold nP;rw[yQ];constructor
 ·rintro⟨r,hr,h⟩;obtain⟨s,hs,h⟩:=(ui _ _).1 h;cases hb:bO seats z with
  | some c=>rfl
  | none=>
   have h':ji (gt seats r) s z=true:=h;have:=Bg hb (c:=(r,s)) hr (wI hz h');rw[h']at this;cases this
 ·intro h;obtain⟨c,hc⟩:=Option.isSome_iff_exists.1 h;obtain⟨b1,b2,b3⟩:=iW hc;exact⟨c.1,b1,(ui _ _).2 ⟨c.2,by omega,b3⟩⟩
theorem U1 {seats:List (List Int)}{z:Nat}(hz:1≤z){c:Nat×Nat}(hc:bO seats z=some c)(hg:gp (gt seats c.1) (c.2:Int) (z:Int)=true):nW seats z=0:=by
 by_cases h0:nW seats z=0
 ·exact h0
 ·obtain⟨r,hr,h⟩:=(yQ _ _).1 (Nat.pos_of_ne_zero h0);obtain⟨s,hs,h⟩:=(ui _ _).1 h;have h':(ji (gt seats r) s z&&!gp (gt seats r) (s:Int) (z:Int))=true:=h;rw[Bool.and_eq_true]at h';have hm:(r,s)∈eI seats z 0 seats.length:=ma.2 ⟨hr,wI hz h'.1⟩;cases hf:(eI seats z 0 seats.length).find? (pB seats z false)with
  | none=>
   have:=List.find?_eq_none.1 hf _ hm;unfold pB at this;rw[h'.1,Bool.true_and,Bool.false_or,h'.2]at this;exact absurd rfl this
  | some d=>
   have e:bO seats z=some d:=by unfold bO; rw[hf]; rfl
   rw[hc]at e;cases e;have:=List.find?_some hf;unfold pB at this;rw[hg]at this
   simp at this
theorem H3 {hold minute n:Int}:∀ (l:List au) {x:HM},(∀ c∈l,c.2.2.2.1≠n)→x.2.1 n=qt→(nK hold minute l x).2.1 n=qt
 | [],x,_,h=>h
 | c::l,x,hc,h=>by
  rw[nK];split
  ·exact h
  ·refine H3 l (fun d hd=>hc d (by simp[hd])) ?_;have hn:=hc c (by simp);have h1:(gl hold c.2.1 x).2.1 n=qt:=by
    show lapG hold c.2.1 x.2.1 n=qt;unfold lapG;rw[h,l9];rfl
   have up:∀ (o:gk),eM (gl hold c.2.1 x).2.1 c.2.2.2.1 o n=qt:=fun o=>by
    unfold eM;rw[if_neg (Ne.symm hn)];exact h1
   unfold eN jK wq l8;split
   ·split
    ·cases bO (gl hold c.2.1 x).1 c.2.2.2.2.toNat with
     | none=>exact up _
     | some q=>exact up _
    ·exact h1
   ·split
    ·split
     ·exact up _
     ·exact h1
    ·split
     ·exact up _
     ·exact h1
theorem sy {h:List Int×Int}{l:List au}(hl:b8 l)(minute:Int){n:Int}(hn:∀ c∈l,c.2.2.2.1≠n):(afterM h l minute).2.1 n=qt:=by
 obtain⟨e1,e2,e3,e4⟩:=jM (l:=l) (by have:=hl.1; omega) hl.2.1 hl.2.2;have hg:=H3 (hold:=h.2) (minute:=minute) (n:=n) (hrd l) (x:=Ls h.1) (fun c hc=>hn c ((e3 c).1 hc)) rfl;show lapG h.2 minute _ n=qt;unfold lapG;rw[hg,l9];rfl
theorem LE {l:List au}{h:List Int×Int}{x:Int×Int×Int}(hl:b8 l):
  (∃ y,L7_0 (l,-1,0,h,x)=some (.inl y)∧y.1=true)∨∃ id,L7_0 (l,-1,0,h,x)=some (.inr (l,id,h,x)) ∧ -1≤id∧id≤99∧(∀ c∈l,c.2.1≤x.1)∧(∀ c∈l,c.1≤id)∧∀ c∈l,c.2.2.2.1≠99:=by
 have hlen:=hl.1;have key:=du (step:=fun x=>aau x.1 x.2.1 x.2.2.1 x.2.2.2.1 x.2.2.2.2)
  (fun s=>l.length-s.2.2.1.toNat)
  (fun s=>∃ (i:Nat) (id:Int),i≤l.length∧s=(l,id,(i:Int),h,x) ∧ -1≤id∧id≤99∧∀ k,k < i→(gt l k).2.1≤x.1∧(gt l k).1≤id∧(gt l k).2.2.2.1≠99)
  (fun y=>(∃ z,y=Sum.inl z∧z.1=true)∨∃ id,y=Sum.inr (l,id,h,x) ∧ -1≤id∧id≤99∧(∀ c∈l,c.2.1≤x.1)∧(∀ c∈l,c.1≤id)∧∀ c∈l,c.2.2.2.1≠99)
  (x:=(l,-1,((0:Nat):Int),h,x)) ⟨0,-1,Nat.zero_le _,rfl,by decide,by decide,fun k hk=>by omega⟩ (by show l.length-_ < _; omega) (by
   rintro s ⟨i,id,hi,rfl,h1,h2,h3⟩;show(∃ s',q7_0 P12 P14 P17 P21 P18 P22 P23 P15 l id (i:Int) h x=_∧_)∨∃ z,q7_0 P12 P14 P17 P21 P18 P22 P23 P15 l id (i:Int) h x=_∧_;unfold q7_0;by_cases him:i < l.length
   ·rw[show decide ((i:Int) < (↑(List.length l):Int))=true from aN him,cond_true,aj (aC him),bI,qi];by_cases c:x.1 < (gt l i).2.1
    ·right;rw[decide_eq_true c];exact⟨_,rfl,.inl ⟨_,rfl,rfl⟩⟩
    ·rw[decide_eq_false c,cond_false,aj (aC him)];by_cases c2:(gt l i).2.2.2.1=99
     ·right;rw[decide_eq_true c2];exact⟨_,rfl,.inl ⟨_,rfl,rfl⟩⟩
     ·left;rw[decide_eq_false c2,cond_false,aj (aC him),aj (aE (by omega))];have hid:=(hl.2.1 _ (ck him)).1;refine⟨_,rfl,⟨i+1,_,by omega,rfl,by omega,by omega,fun k hk=>?_⟩,by show l.length-((i:Int)+1).toNat < l.length-((i:Nat):Int).toNat; omega⟩;by_cases e:k=i
      ·subst e; exact⟨by omega,by omega,c2⟩
      ·have:=h3 k (by omega); exact⟨this.1,by omega,this.2.2⟩
   ·obtain rfl:i=l.length:=by omega
    right;rw[show decide ((l.length:Int) < (↑(List.length l):Int))=false from aV _,cond_false];refine⟨_,rfl,.inr ⟨id,rfl,h1,h2,fun c hc=>?_,fun c hc=>?_,fun c hc=>?_⟩⟩
    ·obtain⟨k,hk,rfl⟩:=dm hc; exact(h3 k hk).1
    ·obtain⟨k,hk,rfl⟩:=dm hc; exact(h3 k hk).2.1
    ·obtain⟨k,hk,rfl⟩:=dm hc; exact(h3 k hk).2.2)
 obtain⟨y,e,⟨z,rfl,e1⟩ | ⟨id,rfl,e1⟩⟩:=key
 ·exact .inl ⟨z,e,e1⟩
 ·exact .inr ⟨id,e,e1⟩
theorem Bn {h:List Int×Int}{l:List au}{m:Int}{z:Nat}(hv:ut h l m)(hz:1≤z∧z≤12):P21 (h,l,m,(z:Int))=some (match bO (afterM h l m).1 z with
  | some c=>((c.1:Int),(c.2:Int),0)
  | none=>(0,0,3)):=by
 obtain⟨c1,c2,c3⟩:=hv;rw[HK m (by have:=c1.1; omega) (by have:=c2.1; omega)];unfold wA;rw[if_pos (eH.2 ⟨⟨c1,c2⟩,c3,by decide,by omega,by omega⟩)];rfl
theorem Pure.SeatsGets' (h:List Int×Int)(l:List au)(x:Int×Int×Int):P7 (h,l,x)=some true:=by
 show q7 P12 P14 P17 P21 P18 P22 P23 P15 L7_0 KJ Hc h l x=_;unfold q7;rw[yP,bind_some'];simp only[qi,bind_some'];by_cases hv:ut h l x.1
 case neg=>rw[decide_eq_false hv]; rfl
 rw[decide_eq_true hv,Bool.not_true,cond_false];by_cases hz1:x.2.2 < 1
 ·rw[decide_eq_true hz1]; rfl
 rw[decide_eq_false hz1,cond_false];by_cases hz2:12 < x.2.2
 ·rw[decide_eq_true hz2]; rfl
 rw[decide_eq_false hz2,cond_false];by_cases hl40:40≤l.length
 ·rw[show decide (40≤(↑(List.length l):Int))=true from decide_eq_true (by omega)]; rfl
 rw[show decide (40≤(↑(List.length l):Int))=false from decide_eq_false (by omega),cond_false];rcases LE (h:=h) (x:=x) hv.2.1 with⟨y,e1,e2⟩ | ⟨id,e1,h1,h2,h3,h4,h5⟩
 ·rw[e1,bind_some',elim_inl,e2]
 obtain⟨m,o,z⟩:=x;simp only at hv hz1 hz2 h3;obtain⟨z,rfl⟩:∃ n:Nat,z=(n:Int):=⟨z.toNat,by omega⟩;have hz:1≤z∧z≤12:=by omega
 have hI:=IM.after (h:=h) hv.2.1 m;have hlen:=hI.len;have hsl:=kj hv.1;have hrow:∀ r,r < (afterM h l m).1.length→(gt (afterM h l m).1 r).length≤12:=fun r hr=>hI.row (gx hv.1) hr;have hP18:=HX hv.1 hI;have hmap:=HW hv;have hbest:=Bn hv hz;have hun:=sy (h:=h) hv.2.1 m h5;have hnP:=U0 (seats:=(afterM h l m).1) hz.1;have hask:id < 99→P15 (h,l++[(id+1,m,1,99,(z:Int))],m,99)=some (ku ((jK (afterM h l m) 99 z m).2.1 99),0):=fun hid=>by
  have hd:be (id+1,m,1,99,(z:Int)):=⟨⟨by show 0≤id+1; omega,by show id+1≤99; omega⟩,hv.2.2,.inl ⟨rfl,by show(1:Int)≤z; omega,by show(z:Int)≤12; omega⟩,by show(0:Int)≤99∧(99:Int)≤99; decide⟩
  obtain⟨hv2,ha⟩:=more1 hv (by omega) h1 hid h3 h4 hd rfl rfl;rw[ug hv2 (by decide),ha];rfl
 have h71:=fun(row seat e:Int)=>LD (l:=l) (id:=id) (row:=row) (seat:=seat) (e:=e) (h:=h) (m:=m) (o:=o) (z:=z) hrow (by omega) hz.2;rw[e1,bind_some',elim_inr];simp only;rw[hmap,bind_some',hbest,bind_some'];simp only[decide_true,Bool.not_true,cond_false];rw[hP18,bind_some'];simp only[Bool.not_true,cond_false];cases hb:bO (afterM h l m).1 z with
 | none=>
  have n0:¬ 0 < nP (afterM h l m).1 z:=fun q=>by have:=hnP.1 q; rw[hb]at this; cases this
  have e73:Hc (l,id,0,0,3,(nW (afterM h l m).1 z:Int),h,(m,o,(z:Int)),(afterM h l m).1)=some (.inr (l,id,0,0,3,h,(m,o,(z:Int)),(afterM h l m).1)):=rfl;have d3:decide ((3:Int)=0)=false:=rfl;have d4:decide ((3:Int)=3)=true:=rfl;simp only[d3,d4,Bool.not_false,cond_true,Bool.not_true,cond_false,decide_false,decide_true];rw[h71,bind_some'];simp only[d3,decide_eq_false (show ¬ (0:Int) < (nP (afterM h l m).1 z:Int)by omega),show((false!=false)=false)from rfl,cond_false,decide_false,decide_true];rw[e73,bind_some',elim_inr];simp only;by_cases hid:99≤id
  ·rw[decide_eq_true hid]; rfl
  rw[decide_eq_false hid,cond_false,aj (aO (by omega) (by omega)),aj (bY (by omega)),aj (bY (by simp; omega)),hask (by omega),bind_some'];simp only[d3,cond_false,decide_false,decide_true,cond_true];have e:(jK (afterM h l m) 99 z m).2.1 99=(1,-1,-1,(z:Int),m):=by
   unfold jK;rw[if_pos (by rw[hun]; rfl),hb];simp only[eM,if_true]
  rw[e]
  simp[ku]
 | some c=>
  obtain⟨b1,b2,b3⟩:=iW hb;have n0:0 < nP (afterM h l m).1 z:=hnP.2 (by rw[hb]; rfl);have hgap:=U1 hz.1 hb;have hrc:=hrow _ b1;have e73:Hc (l,id,(c.1:Int),(c.2:Int),0,(nW (afterM h l m).1 z:Int),h,(m,o,(z:Int)),(afterM h l m).1)=some (.inr (l,id,(c.1:Int),(c.2:Int),0,h,(m,o,(z:Int)),(afterM h l m).1)):=by
   show KK P12 P14 P17 P21 P18 P22 P23 P15 l id (c.1:Int) (c.2:Int) 0 (nW (afterM h l m).1 z:Int) h (m,o,(z:Int)) (afterM h l m).1=_;unfold KK;simp only[decide_true];rw[cond_true,decide_eq_false (show ¬ (c.1:Int) < 0 by omega),cond_false,show decide ((↑(List.length (afterM h l m).1):Int)≤(c.1:Int))=false from decide_eq_false (by omega),cond_false,decide_eq_false (show ¬ (c.2:Int) < 0 by omega),cond_false,
    aj (aC b1),bI,Ie _ (by omega) (by omega) (by omega),bind_some',wH,b3,Bool.not_true,cond_false,aj (aC b1),If _ (by omega) (by omega) (by omega) (by omega),bind_some']
   cases hg:gp (gt (afterM h l m).1 c.1) (c.2:Int) (z:Int)with
   | false=>rfl
   | true=>rw[cond_true,hgap hg]; rfl
  have d0:decide ((0:Int)=0)=true:=rfl;simp only[d0,Bool.not_true,cond_false,decide_true];rw[h71,bind_some'];simp only[d0,decide_eq_true (show(0:Int) < (nP (afterM h l m).1 z:Int)by omega),show((true!=true)=false)from rfl,cond_false,decide_true];rw[e73,bind_some',elim_inr];simp only;by_cases hid:99≤id
  ·rw[decide_eq_true hid]; rfl
  rw[decide_eq_false hid,cond_false,aj (aO (by omega) (by omega)),aj (bY (by omega)),aj (bY (by simp; omega)),hask (by omega),bind_some'];simp only[d0,cond_true,decide_true];have e:(jK (afterM h l m) 99 z m).2.1 99=(2,(c.1:Int),(c.2:Int),(z:Int),m):=by
   unfold jK;rw[if_pos (by rw[hun]; rfl),hb];simp only[eM,if_true]
  rw[e]
  simp[ku]
theorem Pure.SeatsGets (h:List Int×Int)(_:Wf TyH h)(l:List au)(_:Wf TyC l)(x:Int×Int×Int)(_:Wf TyX x):P7 (h,l,x)=some true:=Pure.SeatsGets' h l x
theorem H6 (seats:List (List Int))(n:Nat):(eI seats n 0 seats.length).Pairwise (fun c d=>c.1 < d.1∨(c.1=d.1∧c.2 < d.2)):=by
 unfold eI;rw[List.pairwise_flatMap];constructor
 ·intro r _;unfold nr;rw[List.pairwise_map];exact(List.pairwise_lt_range' (step:=1)).imp fun h=>.inr ⟨rfl,h⟩
 ·refine(List.pairwise_lt_range' (step:=1)).imp fun {a b} h x hx y hy=>?_;unfold nr at hx hy;obtain⟨s,_,rfl⟩:=List.mem_map.1 hx;obtain⟨t,_,rfl⟩:=List.mem_map.1 hy;exact .inl h
theorem qn {seats:List (List Int)}{n:Nat}{p:Nat×Nat→Bool}{c d:Nat×Nat}(h:(eI seats n 0 seats.length).find? p=some c)(hd:d∈eI seats n 0 seats.length)(hlt:d.1=c.1∧d.2 < c.2):p d=false:=by
 obtain⟨_,xs,ys,e,h2⟩:=List.find?_eq_some_iff_append.1 h;have hs:=H6 seats n;rw[e]at hs hd;rw[List.pairwise_append,List.pairwise_cons]at hs;rcases List.mem_append.1 hd with q | q
 ·have:=h2 d q
  simpa using this
 ·rcases List.mem_cons.1 q with rfl | q
  ·omega
  ·have:=hs.2.1.1 d q;omega
theorem sA (row:List Int):∀ (s:Nat) {e:Nat},(∀ i,s≤i→i < e→gt row i = -1)→∃ a,a≤s∧(∀ i,a≤i→i < e→gt row i = -1)∧(a=0∨gt row (a-1) ≠ -1)
 | 0,e,h=>⟨0,Nat.le_refl _,h,.inl rfl⟩
 | s+1,e,h=>by
  by_cases c:gt row s = -1
  ·obtain⟨a,h1,h2,h3⟩:=sA row s (e:=e) fun i hi he=>by
    by_cases q:i=s
    ·rw[q]; exact c
    ·exact h i (by omega) he
   exact⟨a,by omega,h2,h3⟩
  ·exact⟨s+1,Nat.le_refl _,h,.inr c⟩
theorem H7 {l:List Int}{i:Int}(h:i < 0):fr l i=false:=by
 unfold fr;have:wi i 0 ((l.length:Int)-1)=false:=by
  cases hw:wi i 0 ((l.length:Int)-1)with
  | false=>rfl
  | true=>have:=cS.1 hw; omega
 rw[this];rfl
theorem yR {seats:List (List Int)}{z:Nat}(hz:1≤z){c:Nat×Nat}(hc:bO seats z=some c):c.2=0∨gt (gt seats c.1) (c.2-1) ≠ -1:=by
 obtain⟨b1,b2,b3⟩:=iW hc;have hfree:=cN.1 b3;refine Decidable.byContradiction fun hn=>?_;have h0:c.2≠0:=fun e=>hn (.inl e);have h1:gt (gt seats c.1) (c.2-1) = -1:=Decidable.byContradiction fun e=>hn (.inr e);obtain⟨a,a1,a2,a3⟩:=sA (gt seats c.1) (c.2-1) (e:=c.2+z) fun i hi he=>by
  by_cases q:i=c.2-1
  ·rw[q]; exact h1
  ·exact hfree i (by omega) he
 have hm:(c.1,a)∈eI seats z 0 seats.length:=ma.2 ⟨b1,by show a+z≤(gt seats c.1).length; omega⟩;have hp:ji (gt seats c.1) a z=true:=cN.2 fun i h2 h3=>a2 i h2 (by omega);have hfa:fr (gt seats c.1) ((a:Int)-1)=false:=by
  rcases a3 with e | e
  ·rw[e]; exact H7 (by decide)
  ·by_cases q:a=0
   ·rw[q]; exact H7 (by decide)
   ·rw[show(a:Int)-1=((a-1:Nat):Int)by omega,ue];exact decide_eq_false e
 unfold bO at hc;cases hf:(eI seats z 0 seats.length).find? (pB seats z false)with
 | none=>
  rw[hf]at hc;have:=qn (c:=c) hc hm ⟨rfl,by show a < c.2; omega⟩;unfold pB at this;simp only[hp,Bool.true_or,Bool.and_true]at this;cases this
 | some d=>
  rw[hf]at hc;cases hc;have q1:=qn hf hm ⟨rfl,by show a < c.2; omega⟩;have q2:=List.find?_some hf;unfold pB at q1 q2;simp only[hp,b3,Bool.true_and,Bool.false_or,Bool.not_eq_false',Bool.not_eq_true']at q1 q2;unfold gp at q1 q2;rw[hfa,Bool.false_and,Bool.false_or,Bool.and_eq_true,Bool.not_eq_true']at q1;have e1:a=c.2-1:=by
   by_cases q:a=c.2-1
   ·exact q
   ·have:=a2 (a+z+1) (by omega) (by omega);have q3:=q1.2;rw[show(a:Int)+(z:Int)+1=((a+z+1:Nat):Int)by omega,ue,this]at q3;cases q3
  rw[Bool.or_eq_false_iff,show(c.2:Int)-1=((c.2-1:Nat):Int)by omega,ue,decide_eq_true h1,Bool.true_and,Bool.not_eq_false',show(c.2:Int)-2=(a:Int)-1 by omega,hfa]at q2;cases q2.1
def Gd (P:List Int):Prop:=P=[]∨gt P (P.length-1) ≠ -1
theorem LF (z:Nat){P M:List Int}(hP:P≠[])(hg:Gd P):ji (P++M) 0 z=ji P 0 z∧(ji P 0 z=true→z < P.length):=by
 have hl:0 < P.length:=List.length_pos_iff.2 hP;have hne:gt P (P.length-1) ≠ -1:=hg.resolve_left hP;have key:∀ Q:List Int,(∀ i,i < P.length→gt Q i=gt P i)→ji Q 0 z=true→z < P.length:=fun Q hQ h=>by
  by_cases c:z < P.length
  ·exact c
  ·have:=cN.1 h (P.length-1) (by omega) (by omega);rw[hQ _ (by omega)]at this;exact absurd this hne
 have hQ:∀ i,i < P.length→gt (P++M) i=gt P i:=fun i hi=>by rw[hU,if_pos hi]
 refine⟨?_,key P fun _ _=>rfl⟩;rw[Bool.eq_iff_iff];constructor
 ·intro h;have hz:=key _ hQ h;rw[cN]at h ⊢;intro i h1 h2;rw[← hQ i (by omega)];exact h i h1 h2
 ·intro h;have hz:=key P (fun _ _=>rfl) h;rw[cN]at h ⊢;intro i h1 h2;rw[hQ i (by omega)];exact h i h1 h2
theorem Bo {P:List Int}(hg:Gd P){k:Nat}(h:k < P.length):Gd (P.drop k):=by
 right;rw[tq,List.length_drop,show k+(P.length-k-1)=P.length-1 by omega];exact hg.resolve_left fun e=>by rw[e]at h; simp at h
theorem kl (z:Nat)(hz:1≤z):∀ (F:Nat) (P M:List Int),Gd P→P.length+M.length≤F→grd z F (P++M)=grd z F P+grd z F M
 | 0,P,M,_,h=>by simp[grd]
 | F+1,[],M,_,_=>by rw[List.nil_append,show grd z (F+1) []=0 from rfl,Nat.zero_add]
 | F+1,v::P,M,hg,h=>by
  obtain⟨e1,e2⟩:=LF z (P:=v::P) (M:=M) (by simp) hg;simp only[List.length_cons]at h e2;have hM:grd z (F+1) M=grd z F M:=ip z hz _ _ _ (by omega) (by omega);rw[List.cons_append,grd,← List.cons_append,e1,hM]
  conv=>rhs; rw[grd]
  by_cases c:ji (v::P) 0 z=true
  ·have hzl:=e2 c;rw[if_pos c,if_pos c,List.drop_append_of_le_length (by simp only[List.length_cons]; omega),kl z hz F _ M (Bo hg (by simp only[List.length_cons]; omega)) (by simp only[List.length_drop,List.length_cons]; omega)];omega
  ·rw[if_neg c,if_neg c];have hg':Gd P:=by
    by_cases q:P=[]
    ·exact .inl q
    ·have:=Bo hg (k:=1) (by have:=List.length_pos_iff.2 q; simp only[List.length_cons]; omega)
     simpa using this
   exact kl z hz F P M hg' (by omega)
theorem sC (z:Nat)(hz:1≤z){n:Int}(hn:n ≠ -1)(T:List Int):∀ (k F:Nat),k+T.length≤F→grd z F (List.replicate k n++T)=grd z F T
 | 0,F,_=>by simp
 | k+1,0,h=>by omega
 | k+1,F+1,h=>by
  rw[List.replicate_succ,List.cons_append,wC z hz hn,sC z hz hn T k F (by omega)];exact ip z hz _ _ _ (by omega) (by omega)
theorem H8 (z:Nat)(hz:1≤z){n:Int}(hn:n ≠ -1){row:List Int}{s:Nat}(hp:ji row s z=true)(hs:s=0∨gt row (s-1) ≠ -1):
  grd z row.length row=1+grd z row.length (cA row s z n):=by
 have hl:=mc hz hp;have hfree:=cN.1 hp;have e1:row=row.take s++(List.replicate z (-1)++row.drop (s+z)):=by
  refine mX (by simp; omega) fun i hi=>?_;rw[hU,List.length_take,Nat.min_eq_left (by omega)];by_cases c:i < s
  ·rw[if_pos c,lV _ _ _ c]
  ·rw[if_neg c,ua];by_cases d:i-s < z
   ·rw[if_pos d]; exact hfree i (by omega) (by omega)
   ·rw[if_neg d,tq]; congr 1; omega
 have hg:Gd (row.take s):=by
  rcases hs with e | e
  ·left; rw[e]; simp
  ·by_cases q:s=0
   ·left; rw[q]; simp
   ·right;rw[List.length_take,Nat.min_eq_left (by omega),lV _ _ _ (by omega)];exact e
 have lT:(row.drop (s+z)).length=row.length-(s+z):=List.length_drop;have lP:(row.take s).length=s:=by rw[List.length_take]; omega
 have f1:grd z row.length (row.take s++(List.replicate z (-1)++row.drop (s+z)))=grd z row.length (row.take s)+grd z row.length (List.replicate z (-1)++row.drop (s+z)):=
  kl z hz _ _ _ hg (by simp only[List.length_append,List.length_replicate,lT,lP]; omega)
 have f2:grd z row.length (row.take s++(List.replicate z n++row.drop (s+z)))=grd z row.length (row.take s)+grd z row.length (List.replicate z n++row.drop (s+z)):=
  kl z hz _ _ _ hg (by simp only[List.length_append,List.length_replicate,lT,lP]; omega)
 have f3:grd z row.length (List.replicate z n++row.drop (s+z))=grd z row.length (row.drop (s+z)):=sC z hz hn _ _ _ (by rw[lT]; omega);have f4:grd z row.length (List.replicate z (-1)++row.drop (s+z))=1+grd z row.length (row.drop (s+z)):=by
  obtain⟨L,hL⟩:∃ L,row.length=L+1:=⟨row.length-1,by omega⟩;obtain⟨y,hy⟩:∃ y,z=y+1:=⟨z-1,by omega⟩;have hi:ji (List.replicate z (-1)++row.drop (s+z)) 0 z=true:=cN.2 fun i _ hi=>by rw[ua,if_pos (by omega)]
  rw[hL];have e:List.replicate z (-1:Int)++row.drop (s+z) = -1::(List.replicate y (-1)++row.drop (s+z)):=by
   conv=>lhs; arg 1; rw[hy]
   rfl
  rw[e]at hi;rw[e,grd,if_pos hi,← e,wB _ _ _ (Nat.le_refl _),Nat.sub_self,List.replicate_zero,List.nil_append];congr 1;exact ip z hz _ _ _ (by rw[lT]; omega) (by rw[lT]; omega)
 have e2:cA row s z n=row.take s++(List.replicate z n++row.drop (s+z)):=by unfold cA; simp only[List.append_assoc]
 rw[e2,f2,f3]
 conv=>lhs; arg 3; rw[e1]
 rw[f1,f4];omega
theorem Bp {α:Type}[Inhabited α](f:α→Nat):∀ (l:List α) (i:Nat) (a:α),i < l.length→((l.set i a).map f).sum+f (gt l i)=(l.map f).sum+f a
 | [],i,a,h=>by simp at h
 | b::l,0,a,_=>by
  show f a+(l.map f).sum+f b=f b+(l.map f).sum+f a;omega
 | b::l,i+1,a,h=>by
  have ih:=Bp f l i a (by simpa using h);have e:gt (b::l) (i+1)=gt l i:=rfl;rw[e];show f b+((l.set i a).map f).sum+f (gt l i)=f b+(l.map f).sum+f a;omega
theorem CV {seats:List (List Int)}{z:Nat}(hz:1≤z){c:Nat×Nat}(hc:bO seats z=some c){n:Int}(hn:n ≠ -1):bA z seats=1+bA z (seats.set c.1 (cA (gt seats c.1) c.2 z n)):=by
 obtain⟨b1,b2,b3⟩:=iW hc;have h1:=Bp (fun l:List Int=>grd z l.length l) seats c.1 (cA (gt seats c.1) c.2 z n) b1;have h2:=H8 z hz hn b3 (yR hz hc);simp only[clrL_len' _ _ _ _ b2]at h1;unfold bA;omega
theorem qo {seats:List (List Int)}{z:Nat}(hz:1≤z):0 < bA z seats↔(bO seats z).isSome=true:=by
 rw[qk hz]
 induction seats with
 | nil=>simp[bA]
 | cons l s ih=>
  have e:bA z (l::s)=grd z l.length l+bA z s:=rfl;have hp:=ub z hz l.length l (Nat.le_refl _);rw[e];constructor
  ·intro h;by_cases c:0 < grd z l.length l
   ·exact⟨l,by simp,hp.1 c⟩
   ·obtain⟨q,h1,h2⟩:=ih.1 (by omega);exact⟨q,by simp[h1],h2⟩
  ·rintro⟨q,h1,h2⟩;rcases List.mem_cons.1 h1 with rfl | h1
   ·have:=hp.2 h2; omega
   ·have:=ih.2 ⟨q,h1,h2⟩; omega
def dg (m:Int)(z:Nat)(k:Nat):List au:=(List.range k).map fun i:Nat=>(40+(i:Int),m,1,40+(i:Int),(z:Int))
theorem ns (m:Int)(z k:Nat):dg m z (k+1)=dg m z k++[(40+(k:Int),m,1,40+(k:Int),(z:Int))]:=by
 unfold dg;rw[List.range_succ,List.map_append];rfl
theorem Bq {m:Int}{z:Nat}(hz:1≤z){A:HM}(hu:∀ i:Nat,A.2.1 (40+(i:Int))=qt):∀ k,k≤bA z A.1 →
  bA z (hearL A (dg m z k)).1+k=bA z A.1∧(∀ i:Nat,i < k→((hearL A (dg m z k)).2.1 (40+(i:Int))).1=2)∧∀ i:Nat,k≤i→(hearL A (dg m z k)).2.1 (40+(i:Int))=qt
 | 0,_=>⟨rfl,fun i hi=>by omega,fun i _=>hu i⟩
 | k+1,hk=>by
  obtain⟨h1,h2,h3⟩:=Bq hz hu k (by omega);have e:hearL A (dg m z (k+1))=jK (hearL A (dg m z k)) (40+(k:Int)) z m:=by
   rw[ns];unfold hearL;rw[List.foldl_append];rfl
  rw[e];generalize hearL A (dg m z k)=B at h1 h2 h3;have hs:=(qo (seats:=B.1) hz).1 (by omega);obtain⟨c,hc⟩:=Option.isSome_iff_exists.1 hs;have hg:=CV hz hc (n:=40+(k:Int)) (by omega);have hk0:=h3 k (Nat.le_refl _);unfold jK;rw[if_pos (by rw[hk0]; rfl),hc];refine⟨by simp only; omega,fun i hi=>?_,fun i hi=>?_⟩
  ·simp only[eM];by_cases q:i=k
   ·subst q; rw[if_pos rfl]
   ·rw[if_neg (by omega)]; exact h2 i (by omega)
  ·simp only[eM];rw[if_neg (by omega)];exact h3 i (by omega)
theorem H9 {m:Int}{z:Nat}(hz:1≤z){A:HM}(hu:∀ i:Nat,A.2.1 (40+(i:Int))=qt):
  (∀ i:Nat,i < bA z A.1→((hearL A (dg m z (bA z A.1+1))).2.1 (40+(i:Int))).1=2)∧((hearL A (dg m z (bA z A.1+1))).2.1 (40+(bA z A.1:Int))).1=1:=by
 obtain⟨h1,h2,h3⟩:=Bq (m:=m) hz hu (bA z A.1) (Nat.le_refl _);have e:hearL A (dg m z (bA z A.1+1))=jK (hearL A (dg m z (bA z A.1))) (40+(bA z A.1:Int)) z m:=by
  rw[ns];unfold hearL;rw[List.foldl_append];rfl
 rw[e];generalize hearL A (dg m z (bA z A.1))=B at h1 h2 h3;have hk0:=h3 _ (Nat.le_refl _);have hc:bO B.1 z=none:=by
  cases hb:bO B.1 z with
  | none=>rfl
  | some c=>have:=(qo (seats:=B.1) hz).2 (by rw[hb]; rfl); omega
 unfold jK;rw[if_pos (by rw[hk0]; rfl),hc];refine⟨fun i hi=>?_,?_⟩
 ·simp only[eM];rw[if_neg (by omega)];exact h2 i hi
 ·simp only[eM,if_true]
theorem LG {l:List au}{h:List Int×Int}{x:Int×Int×Int}(hl:l.length≤1000):
  (∃ y,L9_0 (l,0,h,x)=some (.inl y)∧y.1=true)∨(L9_0 (l,0,h,x)=some (.inr (l,h,x))∧(∀ c∈l,c.2.1≤x.1)∧(∀ c∈l,c.1 < 40)∧∀ c∈l,c.2.2.2.1 < 40):=by
 have key:=du (step:=fun x=>p9_0 x.1 x.2.1 x.2.2.1 x.2.2.2)
  (fun s=>l.length-s.2.1.toNat)
  (fun s=>∃ i:Nat,i≤l.length∧s=(l,(i:Int),h,x)∧∀ k,k < i→(gt l k).2.1≤x.1∧(gt l k).1 < 40∧(gt l k).2.2.2.1 < 40)
  (fun y=>(∃ z,y=Sum.inl z∧z.1=true)∨(y=Sum.inr (l,h,x)∧(∀ c∈l,c.2.1≤x.1)∧(∀ c∈l,c.1 < 40)∧∀ c∈l,c.2.2.2.1 < 40))
  (x:=(l,((0:Nat):Int),h,x)) ⟨0,Nat.zero_le _,rfl,fun k hk=>by omega⟩ (by show l.length-_ < _; omega) (by
   rintro s ⟨i,hi,rfl,h3⟩;show(∃ s',q9_0 P12 P14 P32 P33 P21 P15 l (i:Int) h x=_∧_)∨∃ z,q9_0 P12 P14 P32 P33 P21 P15 l (i:Int) h x=_∧_;unfold q9_0;by_cases him:i < l.length
   ·rw[show decide ((i:Int) < (↑(List.length l):Int))=true from aN him,cond_true,aj (aC him),bI,qi];by_cases c:x.1 < (gt l i).2.1
    ·right;rw[decide_eq_true c];exact⟨_,rfl,.inl ⟨_,rfl,rfl⟩⟩
    ·rw[decide_eq_false c,cond_false,aj (aC him)];by_cases c2:40≤(gt l i).2.2.2.1
     ·right;rw[decide_eq_true c2];exact⟨_,rfl,.inl ⟨_,rfl,rfl⟩⟩
     ·rw[decide_eq_false c2,cond_false,aj (aC him)];by_cases c3:40≤(gt l i).1
      ·right;rw[decide_eq_true c3];exact⟨_,rfl,.inl ⟨_,rfl,rfl⟩⟩
      ·left;rw[decide_eq_false c3,cond_false,aj (aE (by omega))];refine⟨_,rfl,⟨i+1,by omega,rfl,fun k hk=>?_⟩,by show l.length-((i:Int)+1).toNat < l.length-((i:Nat):Int).toNat; omega⟩;by_cases e:k=i
       ·subst e; exact⟨by omega,by omega,by omega⟩
       ·exact h3 k (by omega)
   ·obtain rfl:i=l.length:=by omega
    right;rw[show decide ((l.length:Int) < (↑(List.length l):Int))=false from aV _,cond_false];refine⟨_,rfl,.inr ⟨rfl,fun c hc=>?_,fun c hc=>?_,fun c hc=>?_⟩⟩
    ·obtain⟨k,hk,rfl⟩:=dm hc; exact(h3 k hk).1
    ·obtain⟨k,hk,rfl⟩:=dm hc; exact(h3 k hk).2.1
    ·obtain⟨k,hk,rfl⟩:=dm hc; exact(h3 k hk).2.2)
 obtain⟨y,e,⟨z,rfl,e1⟩ | ⟨rfl,e1⟩⟩:=key
 ·exact .inl ⟨z,e,e1⟩
 ·exact .inr ⟨e,e1⟩
theorem lg_ok {h:List Int×Int}{l:List au}{m:Int}(hv:ut h l m):P32 (h,l,m)=some ((lgF (afterM h l m).1 12:Int),0):=by
 obtain⟨c1,c2,c3⟩:=hv;rw[UV m (by have:=c1.1; omega) (by have:=c2.1; omega)];unfold lgE;rw[if_pos (eH.2 ⟨⟨c1,c2⟩,c3,by decide,by decide⟩)]
theorem U2 {h:List Int×Int}{l:List au}{m:Int}{z:Nat}(hv:ut h l m)(hz:1≤z∧z≤12):P33 (h,l,m,(z:Int))=some ((bA z (afterM h l m).1:Int),0):=by
 obtain⟨c1,c2,c3⟩:=hv;rw[UW m (by have:=c1.1; omega) (by have:=c2.1; omega)];unfold UU;rw[if_pos (eH.2 ⟨⟨c1,c2⟩,c3,by decide,by omega,by omega⟩)];rfl
theorem Ia {seats:List (List Int)}{z n:Nat}(hz:1≤z)(hn:z≤n)(h:(bO seats n).isSome=true):(bO seats z).isSome=true:=by
 obtain⟨l,h1,s,h2⟩:=(qk (by omega)).1 h;exact(qk hz).2 ⟨l,h1,s,cN.2 fun i q1 q2=>cN.1 h2 i q1 (by omega)⟩
theorem wJ (m:Int)(z k:Nat):(dg m z k).length=k:=by simp[dg]
theorem LH {many z:Nat}{h:List Int×Int}{m o:Int}{l:List au}(hm:many≤28)(hl:l.length≤1000):
  KT ((many:Int),0,h,(m,o,(z:Int)),l)=some ((many:Int),h,(m,o,(z:Int)),l++dg m z (many+1)):=by
 have key:=aY (step:=fun x=>p9_3 x.1 x.2.1 x.2.2.1 x.2.2.2.1 x.2.2.2.2) (many+1) (fun k=>((many:Int),(k:Int),h,(m,o,(z:Int)),l++dg m z k)) ((many:Int),h,(m,o,(z:Int)),l++dg m z (many+1))
  (fun k hk=>by
   show CA P12 P14 P32 P33 P21 P15 (many:Int) (k:Int) h (m,o,(z:Int)) (l++dg m z k)=_;unfold CA;have hla:=wJ m z k;rw[decide_eq_true (show(k:Int)≤(many:Int)by omega),cond_true,aj (aO (by omega) (by omega)),aj (aO (by omega) (by omega)),aj (bY (by simp[hla]; omega)),aj (aE (by omega)),ns,List.append_assoc];rfl)
  (by
   show CA P12 P14 P32 P33 P21 P15 (many:Int) ((many+1:Nat):Int) h (m,o,(z:Int)) (l++dg m z (many+1))=_;unfold CA;rw[decide_eq_false (show ¬ ((many+1:Nat):Int)≤(many:Int)by omega),cond_false])
  (by omega)
 have e:dg m z 0=[]:=rfl;simp only[e,List.append_nil]at key;exact key
theorem Pure.SeatsGroups' (h:List Int×Int)(l:List au)(x:Int×Int×Int):P9 (h,l,x)=some true:=by
 show q9 P12 P14 P32 P33 P21 P15 L9_0 KQ KS KT KU h l x=_;unfold q9;rw[yP,bind_some'];simp only[qi,bind_some'];by_cases hv:ut h l x.1
 case neg=>rw[decide_eq_false hv]; rfl
 rw[decide_eq_true hv,Bool.not_true,cond_false];by_cases hz1:x.2.2 < 1
 ·rw[decide_eq_true hz1]; rfl
 rw[decide_eq_false hz1,cond_false];by_cases hz2:12 < x.2.2
 ·rw[decide_eq_true hz2]; rfl
 rw[decide_eq_false hz2,cond_false];by_cases hl10:10 < l.length
 ·rw[show decide (10 < (↑(List.length l):Int))=true from decide_eq_true (by omega)]; rfl
 rw[show decide (10 < (↑(List.length l):Int))=false from decide_eq_false (by omega),cond_false];rcases LG (l:=l) (h:=h) (x:=x) (by omega)with⟨y,e1,e2⟩ | ⟨e1,h3,h4,h5⟩
 ·rw[e1,bind_some',elim_inl,e2]
 obtain⟨m,o,z⟩:=x;simp only at hv hz1 hz2 h3;obtain⟨z,rfl⟩:∃ n:Nat,z=(n:Int):=⟨z.toNat,by omega⟩;have hz:1≤z∧z≤12:=by omega
 have hI:=IM.after (h:=h) hv.2.1 m;have hrow:∀ r,r < (afterM h l m).1.length→(gt (afterM h l m).1 r).length≤12:=fun r hr=>hI.row (gx hv.1) hr;have hlg:=lg_ok hv;have hgr:=U2 hv hz;have hbest:=fun(n:Nat) (hn:1≤n∧n≤12)=>Bn hv hn;have hun:∀ i:Nat,(afterM h l m).2.1 (40+(i:Int))=qt:=fun i=>sy hv.2.1 m fun c hc e=>by have:=h5 c hc; omega
 have hmore:=H9 (m:=m) hz.1 hun;obtain⟨g1,g2,g3⟩:=ql (afterM h l m).1 12;have hpos:=qo (seats:=(afterM h l m).1) hz.1;have hall:bA z (afterM h l m).1≤28→ut h (l++dg m z (bA z (afterM h l m).1+1)) m∧afterM h (l++dg m z (bA z (afterM h l m).1+1)) m=hearL (afterM h l m) (dg m z (bA z (afterM h l m).1+1)):=fun h28=>by
  have a0:∀ d∈dg m z (bA z (afterM h l m).1+1),∃ i:Nat,i≤28∧d=(40+(i:Int),m,1,40+(i:Int),(z:Int)):=fun d hd=>by
   obtain⟨i,hi,rfl⟩:=List.mem_map.1 hd;exact⟨i,by have:=List.mem_range.1 hi; omega,rfl⟩
  have a1:∀ d∈dg m z (bA z (afterM h l m).1+1),be d:=fun d hd=>by
   obtain⟨i,hi,rfl⟩:=a0 d hd;exact⟨⟨by show(0:Int)≤40+(i:Int); omega,by show 40+(i:Int)≤99; omega⟩,hv.2.2,.inl ⟨rfl,by show(1:Int)≤z; omega,by show(z:Int)≤12; omega⟩,⟨by show(0:Int)≤40+(i:Int); omega,by show 40+(i:Int)≤99; omega⟩⟩
  have a2:∀ c∈l,∀ d∈dg m z (bA z (afterM h l m).1+1),c.1 < d.1:=fun c hc d hd=>by
   obtain⟨i,hi,rfl⟩:=a0 d hd;have:=h4 c hc;show c.1 < 40+(i:Int);omega
  have a3:(dg m z (bA z (afterM h l m).1+1)).Pairwise (fun a b=>a.1 < b.1):=by
   unfold dg;rw[List.pairwise_map];exact List.pairwise_lt_range.imp fun q=>by show 40+_ < 40+_; omega
  have a4:∀ d∈dg m z (bA z (afterM h l m).1+1),d.2.1=m:=fun d hd=>by obtain⟨i,hi,rfl⟩:=a0 d hd; rfl
  have hok:=me hv.2.1 (by rw[wJ]; omega) a1 a2 a3;exact⟨⟨hv.1,hok,hv.2.2⟩,sx hv.1 hv.2.1 hok h3 a4 a2 a3⟩
 rw[e1,bind_some',elim_inr];simp only;rw[hlg,bind_some',hgr,bind_some'];generalize afterM h l m=A at hbest hmore g1 g2 g3 hpos hall hrow;have d1:decide ((lgF A.1 12:Int) < 0)=false:=decide_eq_false (by omega);have d2:decide (12 < (lgF A.1 12:Int))=false:=decide_eq_false (by omega);have d3:decide ((bA z A.1:Int) < 0)=false:=decide_eq_false (by omega);have d4:(decide ((0:Int) < (bA z A.1:Int))!=decide ((z:Int)≤(lgF A.1 12:Int)))=false:=by
  have:decide ((0:Int) < (bA z A.1:Int))=decide ((z:Int)≤(lgF A.1 12:Int)):=by
   rw[Bool.eq_iff_iff,decide_eq_true_eq,decide_eq_true_eq];constructor
   ·intro q;have:=g3 z hz.1 hz.2 (hpos.1 (by omega));omega
   ·intro q;have:=hpos.2 (Ia hz.1 (show z≤lgF A.1 12 by omega) (g2 (by omega)));omega
  rw[this]
  simp
 simp only[decide_true,Bool.not_true,cond_false,d1,d2,d3,d4];have e91:KQ (l,(lgF A.1 12:Int),(bA z A.1:Int),h,(m,o,(z:Int)))=some (.inr (l,(lgF A.1 12:Int),(bA z A.1:Int),h,(m,o,(z:Int)))):=by
  show KP P12 P14 P32 P33 P21 P15 l (lgF A.1 12:Int) (bA z A.1:Int) h (m,o,(z:Int))=_;unfold KP;by_cases c:1≤lgF A.1 12
  ·obtain⟨b,hb⟩:=Option.isSome_iff_exists.1 (g2 c);simp only;rw[decide_eq_true (show(0:Int) < (lgF A.1 12:Int)by omega),cond_true,hbest _ ⟨c,g1⟩,hb];rfl
  ·rw[decide_eq_false (show ¬ (0:Int) < (lgF A.1 12:Int)by omega),cond_false]
 have e92:KS (l,(lgF A.1 12:Int),(bA z A.1:Int),h,(m,o,(z:Int)))=some (.inr (l,(bA z A.1:Int),h,(m,o,(z:Int)))):=by
  show KR P12 P14 P32 P33 P21 P15 l (lgF A.1 12:Int) (bA z A.1:Int) h (m,o,(z:Int))=_;unfold KR;by_cases c:lgF A.1 12 < 12
  ·have hb:bO A.1 (lgF A.1 12+1)=none:=by
    cases hb:bO A.1 (lgF A.1 12+1)with
    | none=>rfl
    | some q=>have:=g3 (lgF A.1 12+1) (by omega) (by omega) (by rw[hb]; rfl); omega
   have hq:=hbest (lgF A.1 12+1) ⟨by omega,by omega⟩;rw[hb]at hq;simp only;rw[decide_eq_true (show(lgF A.1 12:Int) < 12 by omega),cond_true,aj (aO (by omega) (by omega)),show P21 (h,l,m,(lgF A.1 12:Int)+1)=_ from hq];rfl
  ·rw[decide_eq_false (show ¬ (lgF A.1 12:Int) < 12 by omega),cond_false]
 rw[e91,bind_some',elim_inr];simp only;rw[e92,bind_some',elim_inr];simp only;by_cases h28:28 < bA z A.1
 ·rw[decide_eq_true (show(28:Int) < (bA z A.1:Int)by omega)]; rfl
 obtain⟨v1,v2⟩:=hall (by omega);rw[decide_eq_false (show ¬ (28:Int) < (bA z A.1:Int)by omega),cond_false,aj (bY (by simp; omega)),List.nil_append,LH (by omega) (by omega),bind_some'];simp only;have e94:KU ((bA z A.1:Int),0,h,(m,o,(z:Int)),l++dg m z (bA z A.1+1))=some (.inr (h,(m,o,(z:Int)),l++dg m z (bA z A.1+1))):=by
  refine aY (step:=fun x=>p9_4 x.1 x.2.1 x.2.2.1 x.2.2.2.1 x.2.2.2.2) (bA z A.1+1) (fun k=>((bA z A.1:Int),(k:Int),h,(m,o,(z:Int)),l++dg m z (bA z A.1+1))) _ (fun k hk=>?_) ?_ (by omega)
  ·show CB P12 P14 P32 P33 P21 P15 (bA z A.1:Int) (k:Int) h (m,o,(z:Int)) (l++dg m z (bA z A.1+1))=_;unfold CB;simp only;rw[decide_eq_true (show(k:Int)≤(bA z A.1:Int)by omega),cond_true,aj (aO (by omega) (by omega)),ug v1 (show 0≤40+(k:Int)∧40+(k:Int)≤99 by omega),bind_some',v2];have hs:(ku ((hearL A (dg m z (bA z A.1+1))).2.1 (40+(k:Int)))).1=((hearL A (dg m z (bA z A.1+1))).2.1 (40+(k:Int))).1:=rfl;simp only[decide_true,Bool.not_true,cond_false,hs];by_cases c:k < bA z A.1
   ·rw[hmore.1 k c,decide_eq_true (show(k:Int) < (bA z A.1:Int)by omega),decide_eq_false (show ¬ (k:Int)=(bA z A.1:Int)by omega),aj (aE (by omega))];rfl
   ·obtain rfl:k=bA z A.1:=by omega
    rw[hmore.2,decide_eq_false (show ¬ (bA z A.1:Int) < (bA z A.1:Int)by omega),show decide (((bA z A.1:Nat):Int)=(bA z A.1:Int))=true from decide_eq_true rfl,aj (aE (by omega))];rfl
  ·show CB P12 P14 P32 P33 P21 P15 (bA z A.1:Int) ((bA z A.1+1:Nat):Int) h (m,o,(z:Int)) (l++dg m z (bA z A.1+1))=_;unfold CB;rw[decide_eq_false (show ¬ ((bA z A.1+1:Nat):Int)≤(bA z A.1:Int)by omega),cond_false]
 rw[e94];rfl
theorem Pure.SeatsGroups (h:List Int×Int)(_:Wf TyH h)(l:List au)(_:Wf TyC l)(x:Int×Int×Int)(_:Wf TyX x):P9 (h,l,x)=some true:=Pure.SeatsGroups' h l x
end Go.Proofs.Ytdkaijofmigmbaa.D
