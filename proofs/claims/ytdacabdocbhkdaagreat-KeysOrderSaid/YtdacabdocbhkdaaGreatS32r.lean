/- Cut down from a longer text. -/
import Derived.Test.YtdacabdocbhkdaaGreatS31r
set_option linter.unusedVariables false
set_option linter.unusedSimpArgs false
set_option linter.unusedSectionVars false
namespace Go.Proofs.YtdacabdocbhkdaaGreat.D
open Go Go.Proofs Go.Proofs.YtdacabdocbhkdaaGreat.L
theorem eta2 {α β:Type}(p:α×β):(p.1,p.2)=p:=rfl
theorem set_self {α:Type}[Inhabited α]{l:List α}{k:Nat}(h:k < l.length):l.set k (gt l k)=l:=by
 rw[gt_lt h]; exact List.set_getElem_self h
theorem P68_eq {l:LT}(hz:szL l):P68 l=some (l.1,l.2.2.2.1,l.2.2.2.2,l.2.1,l.2.2.1):=by
 have za:=hz.a
 have zc:=hz.c
 have zs:=hz.s
 have zr:=hz.r
 have e0:L68_0 ((l.2.1.length:Int),0,l.1,l.2.2.2.1,l.2.2.2.2,l.2.1,l.2.2.1)=some (l.1,l.2.2.2.1,l.2.2.2.2,l.2.1,l.2.2.1):=
  while_run (step:=fun x=>p68_0 x.1 x.2.1 x.2.2.1 x.2.2.2.1 x.2.2.2.2.1 x.2.2.2.2.2.1 x.2.2.2.2.2.2) l.2.1.length (fun k=>((l.2.1.length:Int),(k:Int),l.1,l.2.2.2.1,l.2.2.2.2,l.2.1,l.2.2.1)) _ (fun k hk=>by
   have:=hz.ca _ (gt_mem hk)
   have e:=set_self hk
   simp(disch:=omega) only[p68_0,q68_0,ltN,dT,cond_true,inR_nat,chk_t,ix_gt,P102_eq,bind_some',fitK,a1,Int.toNat_natCast,eta2,e]) (by simp(disch:=omega) only[p68_0,q68_0,ltN,dF,cond_false]) (by omega)
 have e1:L68_1 ((l.2.2.1.length:Int),0,l.1,l.2.2.2.1,l.2.2.2.2,l.2.1,l.2.2.1)=some (l.1,l.2.2.2.1,l.2.2.2.2,l.2.1,l.2.2.1):=
  while_run (step:=fun x=>p68_1 x.1 x.2.1 x.2.2.1 x.2.2.2.1 x.2.2.2.2.1 x.2.2.2.2.2.1 x.2.2.2.2.2.2) l.2.2.1.length (fun k=>((l.2.2.1.length:Int),(k:Int),l.1,l.2.2.2.1,l.2.2.2.2,l.2.1,l.2.2.1)) _ (fun k hk=>by
   have:=hz.sd _ (gt_mem hk)
   have:=hz.sf _ (gt_mem hk)
   have e:=set_self hk
   simp(disch:=omega) only[p68_1,q68_1,ltN,dT,cond_true,inR_nat,chk_t,ix_gt,P102_eq,P113_eq,bind_some',fitK,a1,Int.toNat_natCast,eta2,e]) (by simp(disch:=omega) only[p68_1,q68_1,ltN,dF,cond_false]) (by omega)
 simp(disch:=omega) only[P68,p68,q68,P113_eq,P102_eq,P114_eq,P115_eq,bind_some',e0,e1]
theorem OnceOk.same_len {l o o':List KT}(h:OnceOk l o)(h':OnceOk l o'):o.length=o'.length:=
 Nat.le_antisymm (List.Nodup.length_le_of_subset h.nd fun x hx=>(h'.mem x).2 ((h.mem x).1 hx)) (List.Nodup.length_le_of_subset h'.nd fun x hx=>(h.mem x).2 ((h'.mem x).1 hx))
theorem asc_eqK:∀ {l l':List KT} ,l.Pairwise (fun x y=>x.1 < y.1)→l'.Pairwise (fun x y=>x.1 < y.1)→(∀ x,x∈l↔x∈l')→l=l'
 | [],[],_,_,_=>rfl
 | [],y::l',_,_,h=>absurd ((h y).2 (by simp)) (by simp)
 | x::l,[],_,_,h=>absurd ((h x).1 (by simp)) (by simp)
 | x::l,y::l',h1,h2,h=>by
  rw[List.pairwise_cons]at h1 h2
  have hxy:x=y:=by
   rcases List.mem_cons.1 ((h x).1 (by simp))with e | e
   ·exact e
   ·rcases List.mem_cons.1 ((h y).2 (by simp))with e' | e'
    ·exact e'.symm
    ·have:=h1.1 y e'; have:=h2.1 x e; omega
  subst hxy
  refine congrArg _ (asc_eqK h1.2 h2.2 fun z=>⟨fun hz=>?_,fun hz=>?_⟩)
  ·rcases List.mem_cons.1 ((h z).1 (List.mem_cons_of_mem _ hz))with e | e
   ·subst e; have:=h1.1 z hz; omega
   ·exact e
  ·rcases List.mem_cons.1 ((h z).2 (List.mem_cons_of_mem _ hz))with e | e
   ·subst e; have:=h2.1 z hz; omega
   ·exact e
theorem OnceOk.asc {l o:List KT}(h:OnceOk l o)(hn:ncB l=true):o.Pairwise fun x y=>x.1 < y.1:=by
 have:=List.Pairwise.and (sd_pw h.sd) h.nd
 refine this.imp_of_mem fun {x y} hx hy ⟨q1,q2⟩=>?_
 have:x.1≠y.1:=fun e=>q2 (ncB_iff.1 hn x ((h.mem x).1 hx) y ((h.mem y).1 hy) e)
 omega
theorem OnceOk.eq {l o o':List KT}(h:OnceOk l o)(h':OnceOk l o')(hn:ncB l=true):o=o':=
 asc_eqK (h.asc hn) (h'.asc hn) fun x=>(h.mem x).trans (h'.mem x).symm
theorem OnceOk.nc {l o:List KT}(h:OnceOk l o):ncB o=ncB l:=by
 rw[Bool.eq_iff_iff,ncB_iff,ncB_iff]
 exact⟨fun q x hx y hy=>q x ((h.mem x).2 hx) y ((h.mem y).2 hy),fun q x hx y hy=>q x ((h.mem x).1 hx) y ((h.mem y).1 hy)⟩
structure RecOk (l R:List Int):Prop where
 asc:R.Pairwise (· < ·)
 mem:∀ x,x∈R↔x∈l
theorem RecOk.eq {l R R':List Int}(h:RecOk l R)(h':RecOk l R'):R=R':=asc_ext h.asc h'.asc fun x=>(h.mem x).trans (h'.mem x).symm
theorem ddN_asc {l:List Int}(hs:l.Pairwise (·≤·)):∀ n,n≤l.length→(ddN l n).Pairwise (· < ·)
 | 0,_=>by simp[ddN]
 | n+1,hn=>by
  have hp:=List.pairwise_iff_getElem.1 hs
  have hle:∀ i j,i≤j→j < l.length→gt l i≤gt l j:=fun i j h1 h2=>by
   by_cases e:i=j
   ·rw[e]; omega
   ·rw[gt_lt (by omega),gt_lt h2]; exact hp i j (by omega) h2 (by omega)
  have ih:=ddN_asc hs n (by omega)
  rw[ddN]
  split
  ·exact ih
  ·next hc=>
   refine List.pairwise_append.2 ⟨ih,by simp,fun x hx y hy=>?_⟩
   rw[List.mem_singleton]at hy; subst hy
   obtain⟨k,hk,rfl⟩:=(ddN_mem l n x).1 hx
   have h1:=hle k (n-1) (by omega) (by omega)
   have h2:=hle (n-1) n (by omega) (by omega)
   have h3:gt l n≠gt l (n-1):=fun e=>hc ⟨by omega,e⟩
   omega
theorem sort_rec {l:List Int}(hl:l.length≤12):∃ m R,P66 l=some m∧P71 m=some R∧RecOk l R:=by
 obtain⟨m,m1,m2,m3⟩:=P66_eq hl
 have hm:=m2.length_eq
 refine⟨m,_,m1,P71_eq m (by omega),ddN_asc m3 _ (Nat.le_refl _),fun x=>?_⟩
 rw[ddN_mem,← m2.mem_iff]
 exact⟨fun⟨k,hk,e⟩=>e▸gt_mem hk,fun h=>mem_gt h⟩
theorem RecOk.len {l R:List Int}(h:RecOk l R):R.length≤l.length:=
 List.Nodup.length_le_of_subset (h.asc.imp fun h=>by omega) fun x hx=>(h.mem x).1 hx
abbrev emL:LT:=([],[],[],[],[])
inductive MergeR (l:LT) (mo:List KT) (rc:List Int):Int×LT→Prop
 | bad (h:chkV l≠0):MergeR l mo rc (chkV l,emL)
 | own (h:chkV l=0) (h2:chkV (l.1,l.2.1,l.2.2.1,mo,rc)≠0):MergeR l mo rc (chkV (l.1,l.2.1,l.2.2.1,mo,rc),emL)
 | big (h:chkV l=0) (h2:chkV (l.1,l.2.1,l.2.2.1,mo,rc)=0) (o:List KT) (R:List Int) (ho:OnceOk (l.2.2.2.1++mo) o) (hR:RecOk (l.2.2.2.2++rc) R) (hb:20 < o.length∨20 < R.length):MergeR l mo rc (20,emL)
 | clash (h:chkV l=0) (h2:chkV (l.1,l.2.1,l.2.2.1,mo,rc)=0) (o:List KT) (R:List Int) (ho:OnceOk (l.2.2.2.1++mo) o) (hR:RecOk (l.2.2.2.2++rc) R) (hb:o.length≤20∧R.length≤20) (hn:ncB (l.2.2.2.1++mo)=false):MergeR l mo rc (21,emL)
 | ok (h:chkV l=0) (h2:chkV (l.1,l.2.1,l.2.2.1,mo,rc)=0) (o:List KT) (R:List Int) (ho:OnceOk (l.2.2.2.1++mo) o) (hR:RecOk (l.2.2.2.2++rc) R) (hb:o.length≤20∧R.length≤20) (hn:ncB (l.2.2.2.1++mo)=true):MergeR l mo rc (0,l.1,l.2.1,l.2.2.1,o,R)
theorem MergeR.uniq {l:LT}{mo:List KT}{rc:List Int}{x y:Int×LT}(h:MergeR l mo rc x)(h':MergeR l mo rc y):x=y:=by
 have len:∀ {o o':List KT} {R R':List Int},OnceOk (l.2.2.2.1++mo) o→OnceOk (l.2.2.2.1++mo) o'→RecOk (l.2.2.2.2++rc) R→RecOk (l.2.2.2.2++rc) R'→(20 < o.length∨20 < R.length)→o'.length≤20∧R'.length≤20→False:=fun a b c d e f=>by
  have:=a.same_len b
  have:=c.eq d
  subst this; omega
 cases h with
 | bad h=>cases h' <;> first | rfl | contradiction
 | own h h2=>cases h' <;> first | rfl | contradiction
 | big h h2 o R ho hR hb=>
  cases h' with
  | bad=>contradiction
  | own=>contradiction
  | big=>rfl
  | clash _ _ o' R' ho' hR' hb'=>exact(len ho ho' hR hR' hb hb').elim
  | ok _ _ o' R' ho' hR' hb'=>exact(len ho ho' hR hR' hb hb').elim
 | clash h h2 o R ho hR hb hn=>
  cases h' with
  | bad=>contradiction
  | own=>contradiction
  | big _ _ o' R' ho' hR' hb'=>exact(len ho' ho hR' hR hb' hb).elim
  | clash=>rfl
  | ok _ _ o' R' ho' hR' hb' hn'=>rw[hn]at hn'; cases hn'
 | ok h h2 o R ho hR hb hn=>
  cases h' with
  | bad=>contradiction
  | own=>contradiction
  | big _ _ o' R' ho' hR' hb'=>exact(len ho' ho hR' hR hb' hb).elim
  | clash _ _ o' R' ho' hR' hb' hn'=>rw[hn]at hn'; cases hn'
  | ok _ _ o' R' ho' hR' hb' hn'=>rw[ho.eq ho' hn,hR.eq hR']
theorem mo_ok {l:LT}{mo:List KT}{rc:List Int}(hz:szL l)(hz2:szL (l.1,l.2.1,l.2.2.1,mo,rc))(h:chkV l=0)(h2:chkV (l.1,l.2.1,l.2.2.1,mo,rc)=0):
  (∀ x∈l.2.2.2.1++mo,x.2.2.1.length≤1000)∧idsK (l.2.2.2.1++mo)∧∀ x∈l.2.2.2.2++rc,0≤x∧x≤99:=by
 have b1:=(chkV_iff.1 h).1
 have b2:=(chkV_iff.1 h2).1
 refine⟨fun x hx=>?_,fun x hx=>?_,fun x hx=>?_⟩
 ·rcases List.mem_append.1 hx with q | q
  ·exact Nat.le_trans (hz.kd x q) (by omega)
  ·exact Nat.le_trans (hz2.kd x q) (by omega)
 ·rcases List.mem_append.1 hx with q | q
  ·exact lib_ids b1 x q
  ·exact lib_ids b2 x q
 ·rcases List.mem_append.1 hx with q | q
  ·exact(lib_ok b1).rcl x q
  ·exact(lib_ok b2).rcl x q
theorem P40_eq {l:LT}{mo:List KT}{rc:List Int}(hz:szL l)(hz2:szL (l.1,l.2.1,l.2.2.1,mo,rc))(hs:(l.2.2.2.2++rc).length≤12):∃ r,P40 (l,mo,rc)=some (r.2.1,r.1,r.2.2.1,r.2.2.2.1,r.2.2.2.2.1,r.2.2.2.2.2)∧MergeR l mo rc r:=by
 have zk:=hz.k
 have zr:=hz.r
 have zk2:mo.length≤100:=hz2.k
 have zr2:rc.length≤100:=hz2.r
 by_cases h:chkV l=0
 ·by_cases h2:chkV (l.1,l.2.1,l.2.2.1,mo,rc)=0
  ·obtain⟨hd,hi,hr⟩:=mo_ok hz hz2 h h2
   obtain⟨o,o1,o2⟩:=P52_eq (l:=l.2.2.2.1++mo) (by rw[List.length_append]; omega) hd hi
   have o3:=o2.len
   rw[List.length_append]at o3
   obtain⟨m,R,m1,m2,m3⟩:=sort_rec (l:=l.2.2.2.2++rc) hs
   have k1:=P69_eq l.2.2.2.1 mo (by omega) (by omega)
   have k2:=P70_eq l.2.2.2.2 rc (by omega) (by omega)
   have n1:=P51_eq o2 (by omega)
   by_cases g1:(20:Int) < (o.length:Int)
   ·exact⟨_,by simp only[P40,p40,q40,P28_eq l hz,P28_eq _ hz2,bind_some',h,h2,decide_true,Bool.not_true,cond_false,P68_eq hz,k1,o1,k2,m1,m2,dT g1,cond_true],.big h h2 o R o2 m3 (.inl (by omega))⟩
   by_cases g2:(20:Int) < (R.length:Int)
   ·exact⟨_,by simp only[P40,p40,q40,P28_eq l hz,P28_eq _ hz2,bind_some',h,h2,decide_true,Bool.not_true,cond_false,P68_eq hz,k1,o1,k2,m1,m2,dF g1,dT g2,cond_true],.big h h2 o R o2 m3 (.inr (by omega))⟩
   cases hn:ncB (l.2.2.2.1++mo)
   ·exact⟨_,by simp only[P40,p40,q40,P28_eq l hz,P28_eq _ hz2,bind_some',h,h2,decide_true,Bool.not_true,cond_false,P68_eq hz,k1,o1,k2,m1,m2,dF g1,dF g2,n1,hn,Bool.not_false,cond_true],.clash h h2 o R o2 m3 ⟨by omega,by omega⟩ hn⟩
   ·exact⟨_,by simp only[P40,p40,q40,P28_eq l hz,P28_eq _ hz2,bind_some',h,h2,decide_true,Bool.not_true,cond_false,P68_eq hz,k1,o1,k2,m1,m2,dF g1,dF g2,n1,hn],.ok h h2 o R o2 m3 ⟨by omega,by omega⟩ hn⟩
  ·exact⟨_,by simp only[P40,p40,q40,P28_eq l hz,P28_eq _ hz2,bind_some',h,decide_true,Bool.not_true,cond_false,decide_eq_false h2,Bool.not_false,cond_true],.own h h2⟩
 ·exact⟨_,by simp only[P40,p40,q40,P28_eq l hz,bind_some',decide_eq_false h,Bool.not_false,cond_true],.bad h⟩
end Go.Proofs.YtdacabdocbhkdaaGreat.D
