/- Cut down from a longer text. -/
import Derived.Test.YtdacabdocbhkdaaGreatS26m
set_option linter.unusedVariables false
set_option linter.unusedSimpArgs false
namespace Go.Proofs.YtdacabdocbhkdaaGreat.D
open Go Go.Proofs L
theorem eta2 {α β:Type}(p:α×β):(p.1,p.2)=p:=rfl
theorem set_self {α:Type}[Inhabited α]{l:List α}{k:Nat}(h:k < l.length):l.set k (gt l k)=l:=by
 rw[gt_lt h]; exact List.set_getElem_self h
theorem P68_eq {l:LT}(hz:szL l):P68 l=some (l.1,l.2.2.2.1,l.2.2.2.2,l.2.1,l.2.2.1):=by
 have za:=hz.a
 have zc:=hz.c
 have zs:=hz.s
 have zr:=hz.r
 have e0:L68_0 ((l.2.1.length:Int),0,l.1,l.2.2.2.1,l.2.2.2.2,l.2.1,l.2.2.1)=some (l.1,l.2.2.2.1,l.2.2.2.2,l.2.1,l.2.2.1):=
  while_run (step:=fun x=>p68_0 x.1 x.2.1 x.2.2.1 x.2.2.2.1 x.2.2.2.2.1 x.2.2.2.2.2.1 x.2.2.2.2.2.2) l.2.1.length (fun k=>((l.2.1.length:Int),(k:Int),l.1,l.2.2.2.1,l.2.2.2.2,l.2.1,l.2.2.1)) _ (fun k hk=>by
   have:=hz.ca _ (gt_mem hk)
   have e:=set_self hk
   simp(disch:=omega) only[p68_0,q68_0,ltN,dT,cond_true,inR_nat,chk_t,ix_gt,P102_eq,bind_some',fitK,a1,Int.toNat_natCast,eta2,e]) (by simp(disch:=omega) only[p68_0,q68_0,ltN,dF,cond_false]) (by omega)
 have e1:L68_1 ((l.2.2.1.length:Int),0,l.1,l.2.2.2.1,l.2.2.2.2,l.2.1,l.2.2.1)=some (l.1,l.2.2.2.1,l.2.2.2.2,l.2.1,l.2.2.1):=
  while_run (step:=fun x=>p68_1 x.1 x.2.1 x.2.2.1 x.2.2.2.1 x.2.2.2.2.1 x.2.2.2.2.2.1 x.2.2.2.2.2.2) l.2.2.1.length (fun k=>((l.2.2.1.length:Int),(k:Int),l.1,l.2.2.2.1,l.2.2.2.2,l.2.1,l.2.2.1)) _ (fun k hk=>by
   have:=hz.sd _ (gt_mem hk)
   have:=hz.sf _ (gt_mem hk)
   have e:=set_self hk
   simp(disch:=omega) only[p68_1,q68_1,ltN,dT,cond_true,inR_nat,chk_t,ix_gt,P102_eq,P113_eq,bind_some',fitK,a1,Int.toNat_natCast,eta2,e]) (by simp(disch:=omega) only[p68_1,q68_1,ltN,dF,cond_false]) (by omega)
 simp(disch:=omega) only[P68,p68,q68,P113_eq,P102_eq,P114_eq,P115_eq,bind_some',e0,e1]
theorem P25v1_eq {l:LT}(hz:szL l):P25v1 l=some l:=by
 have za:=hz.a
 have zc:=hz.c
 have zs:=hz.s
 have zk:=hz.k
 have zr:=hz.r
 have e0:L25v1_0 (0,l,l.1,[],l.2.2.2.2)=some (l,l.1,l.2.2.2.2,l.2.1.map id):=
  while_map (step:=fun x=>p25v1_0 x.1 x.2.1 x.2.2.1 x.2.2.2.1 x.2.2.2.2) l.2.1 id (fun k out=>((k:Int),l,l.1,out,l.2.2.2.2)) (fun out=>(l,l.1,l.2.2.2.2,out)) (fun k out hk ho=>by
   have:=hz.ca _ (gt_mem hk)
   have c:capOk 8 (([]:List Int).length+(gt l.2.1 k).2.2.2.2.2.2.length)=true:=capOk_sm (by omega) (by simp; omega)
   simp(disch:=omega) only[p25v1_0,q25v1_0,ltN,dT,cond_true,inR_nat,chk_t,ix_gt,c,List.length_singleton,capOk_sm,append_self,fitK,a1,id]) (fun out ho=>by simp(disch:=omega) only[p25v1_0,q25v1_0,ltN,dF,cond_false]) (by omega)
 have e1:L25v1_1 (0,l,l.1,l.2.1,[],l.2.2.2.2)=some (l,l.1,l.2.1,l.2.2.2.2,l.2.2.1.map id):=
  while_map (step:=fun x=>p25v1_1 x.1 x.2.1 x.2.2.1 x.2.2.2.1 x.2.2.2.2.1 x.2.2.2.2.2) l.2.2.1 id (fun k out=>((k:Int),l,l.1,l.2.1,out,l.2.2.2.2)) (fun out=>(l,l.1,l.2.1,l.2.2.2.2,out)) (fun k out hk ho=>by
   have:=hz.sd _ (gt_mem hk)
   have:=hz.sf _ (gt_mem hk)
   simp(disch:=omega) only[p25v1_1,q25v1_1,ltN,dT,cond_true,inR_nat,chk_t,ix_gt,List.length_singleton,capOk_sm,fitK,a1,id]) (fun out ho=>by simp(disch:=omega) only[p25v1_1,q25v1_1,ltN,dF,cond_false]) (by omega)
 have e2:L25v1_2 (0,l,l.1,l.2.1,l.2.2.1,[],l.2.2.2.2)=some (l,l.1,l.2.1,l.2.2.1,l.2.2.2.2,l.2.2.2.1.map id):=
  while_map (step:=fun x=>p25v1_2 x.1 x.2.1 x.2.2.1 x.2.2.2.1 x.2.2.2.2.1 x.2.2.2.2.2.1 x.2.2.2.2.2.2) l.2.2.2.1 id (fun k out=>((k:Int),l,l.1,l.2.1,l.2.2.1,out,l.2.2.2.2)) (fun out=>(l,l.1,l.2.1,l.2.2.1,l.2.2.2.2,out)) (fun k out hk ho=>by
   have:=hz.kd _ (gt_mem hk)
   simp(disch:=omega) only[p25v1_2,q25v1_2,ltN,dT,cond_true,inR_nat,chk_t,ix_gt,P39_eq,bind_some',List.length_singleton,capOk_sm,fitK,a1,id]) (fun out ho=>by simp(disch:=omega) only[p25v1_2,q25v1_2,ltN,dF,cond_false]) (by omega)
 rw[List.map_id]at e0 e1 e2
 simp(disch:=omega) only[P25v1,p25v1,q25v1,capOk_sm,chk_t,e0,bind_some',e1,e2]
theorem OnceOk.same_len {l o o':List KT}(h:OnceOk l o)(h':OnceOk l o'):o.length=o'.length:=
 Nat.le_antisymm (List.Nodup.length_le_of_subset h.nd fun x hx=>(h'.mem x).2 ((h.mem x).1 hx)) (List.Nodup.length_le_of_subset h'.nd fun x hx=>(h.mem x).2 ((h'.mem x).1 hx))
theorem asc_eqK:∀ {l l':List KT} ,l.Pairwise (fun x y=>x.1 < y.1)→l'.Pairwise (fun x y=>x.1 < y.1)→(∀ x,x∈l↔x∈l')→l=l'
 | [],[],_,_,_=>rfl
 | [],y::l',_,_,h=>absurd ((h y).2 (by simp)) (by simp)
 | x::l,[],_,_,h=>absurd ((h x).1 (by simp)) (by simp)
 | x::l,y::l',h1,h2,h=>by
  rw[List.pairwise_cons]at h1 h2
  have hxy:x=y:=by
   rcases List.mem_cons.1 ((h x).1 (by simp))with e | e
   ·exact e
   ·rcases List.mem_cons.1 ((h y).2 (by simp))with e' | e'
    ·exact e'.symm
    ·have:=h1.1 y e'; have:=h2.1 x e; omega
  subst hxy
  refine congrArg _ (asc_eqK h1.2 h2.2 fun z=>⟨fun hz=>?_,fun hz=>?_⟩)
  ·rcases List.mem_cons.1 ((h z).1 (List.mem_cons_of_mem _ hz))with e | e
   ·subst e; have:=h1.1 z hz; omega
   ·exact e
  ·rcases List.mem_cons.1 ((h z).2 (List.mem_cons_of_mem _ hz))with e | e
   ·subst e; have:=h2.1 z hz; omega
   ·exact e
theorem OnceOk.asc {l o:List KT}(h:OnceOk l o)(hn:ncB l=true):o.Pairwise fun x y=>x.1 < y.1:=by
 have:=List.Pairwise.and (sd_pw h.sd) h.nd
 refine this.imp_of_mem fun {x y} hx hy ⟨q1,q2⟩=>?_
 have:x.1≠y.1:=fun e=>q2 (ncB_iff.1 hn x ((h.mem x).1 hx) y ((h.mem y).1 hy) e)
 omega
theorem OnceOk.eq {l o o':List KT}(h:OnceOk l o)(h':OnceOk l o')(hn:ncB l=true):o=o':=
 asc_eqK (h.asc hn) (h'.asc hn) fun x=>(h.mem x).trans (h'.mem x).symm
theorem OnceOk.nc {l o:List KT}(h:OnceOk l o):ncB o=ncB l:=by
 rw[Bool.eq_iff_iff,ncB_iff,ncB_iff]
 exact⟨fun q x hx y hy=>q x ((h.mem x).2 hx) y ((h.mem y).2 hy),fun q x hx y hy=>q x ((h.mem x).1 hx) y ((h.mem y).1 hy)⟩
theorem pw_sd {α:Type}[Inhabited α]{f:α→Int}{l:List α}(h:l.Pairwise fun x y=>f x≤f y):Sd f l 0 l.length:=fun i j _ q2 q3=>by
 rw[gt_lt (by omega),gt_lt q3]
 exact List.pairwise_iff_getElem.1 h i j (by omega) q3 q2
theorem P72_once {l:List KT}(hl:l.length≤2000)(hd:∀ x∈l,x.2.2.1.length≤1000)(hi:idsK l):∃ o,P72 l=some o∧OnceOk l o:=by
 obtain⟨o,o1,o2,o3,o4⟩:=P72_eq l hl hd
 have hm:∀ x,x∈o↔x∈l:=fun x=>(o4 x).trans ⟨fun h=>h.1,fun h=>⟨h,hi x h⟩⟩
 exact⟨o,o1,hm,o2,pw_sd o3,List.Nodup.length_le_of_subset o2 fun x hx=>(hm x).1 hx⟩
structure RecOk (l R:List Int):Prop where
 asc:R.Pairwise (· < ·)
 mem:∀ x,x∈R↔x∈l
theorem RecOk.eq {l R R':List Int}(h:RecOk l R)(h':RecOk l R'):R=R':=asc_ext h.asc h'.asc fun x=>(h.mem x).trans (h'.mem x).symm
theorem ddN_asc {l:List Int}(hs:l.Pairwise (·≤·)):∀ n,n≤l.length→(ddN l n).Pairwise (· < ·)
 | 0,_=>by simp[ddN]
 | n+1,hn=>by
  have hp:=List.pairwise_iff_getElem.1 hs
  have hle:∀ i j,i≤j→j < l.length→gt l i≤gt l j:=fun i j h1 h2=>by
   by_cases e:i=j
   ·rw[e]; omega
   ·rw[gt_lt (by omega),gt_lt h2]; exact hp i j (by omega) h2 (by omega)
  have ih:=ddN_asc hs n (by omega)
  rw[ddN]
  split
  ·exact ih
  ·next hc=>
   refine List.pairwise_append.2 ⟨ih,by simp,fun x hx y hy=>?_⟩
   rw[List.mem_singleton]at hy; subst hy
   obtain⟨k,hk,rfl⟩:=(ddN_mem l n x).1 hx
   have h1:=hle k (n-1) (by omega) (by omega)
   have h2:=hle (n-1) n (by omega) (by omega)
   have h3:gt l n≠gt l (n-1):=fun e=>hc ⟨by omega,e⟩
   omega
theorem sort_rec {l:List Int}(hl:l.length≤250):∃ m R,P66 l=some m∧P71 m=some R∧RecOk l R:=by
 obtain⟨m,m1,m2,m3⟩:=P66_eq hl
 have hm:=m2.length_eq
 refine⟨m,_,m1,P71_eq m (by omega),ddN_asc m3 _ (Nat.le_refl _),fun x=>?_⟩
 rw[ddN_mem,← m2.mem_iff]
 exact⟨fun⟨k,hk,e⟩=>e▸gt_mem hk,fun h=>mem_gt h⟩
theorem RecOk.len {l R:List Int}(h:RecOk l R):R.length≤l.length:=
 List.Nodup.length_le_of_subset (h.asc.imp fun h=>by omega) fun x hx=>(h.mem x).1 hx
abbrev emL:LT:=([],[],[],[],[])
inductive MergeR (l:LT) (mo:List KT) (rc:List Int):Int×LT→Prop
 | bad (h:chkV l≠0):MergeR l mo rc (chkV l,emL)
 | own (h:chkV l=0) (h2:chkV (l.1,l.2.1,l.2.2.1,mo,rc)≠0):MergeR l mo rc (chkV (l.1,l.2.1,l.2.2.1,mo,rc),emL)
 | big (h:chkV l=0) (h2:chkV (l.1,l.2.1,l.2.2.1,mo,rc)=0) (o:List KT) (R:List Int) (ho:OnceOk (l.2.2.2.1++mo) o) (hR:RecOk (l.2.2.2.2++rc) R) (hb:20 < o.length∨20 < R.length):MergeR l mo rc (20,emL)
 | clash (h:chkV l=0) (h2:chkV (l.1,l.2.1,l.2.2.1,mo,rc)=0) (o:List KT) (R:List Int) (ho:OnceOk (l.2.2.2.1++mo) o) (hR:RecOk (l.2.2.2.2++rc) R) (hb:o.length≤20∧R.length≤20) (hn:ncB (l.2.2.2.1++mo)=false):MergeR l mo rc (21,emL)
 | ok (h:chkV l=0) (h2:chkV (l.1,l.2.1,l.2.2.1,mo,rc)=0) (o:List KT) (R:List Int) (ho:OnceOk (l.2.2.2.1++mo) o) (hR:RecOk (l.2.2.2.2++rc) R) (hb:o.length≤20∧R.length≤20) (hn:ncB (l.2.2.2.1++mo)=true):MergeR l mo rc (0,l.1,l.2.1,l.2.2.1,o,R)
theorem MergeR.uniq {l:LT}{mo:List KT}{rc:List Int}{x y:Int×LT}(h:MergeR l mo rc x)(h':MergeR l mo rc y):x=y:=by
 have len:∀ {o o':List KT} {R R':List Int},OnceOk (l.2.2.2.1++mo) o→OnceOk (l.2.2.2.1++mo) o'→RecOk (l.2.2.2.2++rc) R→RecOk (l.2.2.2.2++rc) R'→(20 < o.length∨20 < R.length)→o'.length≤20∧R'.length≤20→False:=fun a b c d e f=>by
  have:=a.same_len b
  have:=c.eq d
  subst this; omega
 cases h with
 | bad h=>cases h' <;> first | rfl | contradiction
 | own h h2=>cases h' <;> first | rfl | contradiction
 | big h h2 o R ho hR hb=>
  cases h' with
  | bad=>contradiction
  | own=>contradiction
  | big=>rfl
  | clash _ _ o' R' ho' hR' hb'=>exact(len ho ho' hR hR' hb hb').elim
  | ok _ _ o' R' ho' hR' hb'=>exact(len ho ho' hR hR' hb hb').elim
 | clash h h2 o R ho hR hb hn=>
  cases h' with
  | bad=>contradiction
  | own=>contradiction
  | big _ _ o' R' ho' hR' hb'=>exact(len ho' ho hR' hR hb' hb).elim
  | clash=>rfl
  | ok _ _ o' R' ho' hR' hb' hn'=>rw[hn]at hn'; cases hn'
 | ok h h2 o R ho hR hb hn=>
  cases h' with
  | bad=>contradiction
  | own=>contradiction
  | big _ _ o' R' ho' hR' hb'=>exact(len ho' ho hR' hR hb' hb).elim
  | clash _ _ o' R' ho' hR' hb' hn'=>rw[hn]at hn'; cases hn'
  | ok _ _ o' R' ho' hR' hb' hn'=>rw[ho.eq ho' hn,hR.eq hR']
theorem mo_ok {l:LT}{mo:List KT}{rc:List Int}(hz:szL l)(hz2:szL (l.1,l.2.1,l.2.2.1,mo,rc))(h:chkV l=0)(h2:chkV (l.1,l.2.1,l.2.2.1,mo,rc)=0):
  (∀ x∈l.2.2.2.1++mo,x.2.2.1.length≤1000)∧idsK (l.2.2.2.1++mo)∧∀ x∈l.2.2.2.2++rc,0≤x∧x≤99:=by
 have b1:=(chkV_iff.1 h).1
 have b2:=(chkV_iff.1 h2).1
 refine⟨fun x hx=>?_,fun x hx=>?_,fun x hx=>?_⟩
 ·rcases List.mem_append.1 hx with q | q
  ·exact Nat.le_trans (hz.kd x q) (by omega)
  ·exact Nat.le_trans (hz2.kd x q) (by omega)
 ·rcases List.mem_append.1 hx with q | q
  ·exact lib_ids b1 x q
  ·exact lib_ids b2 x q
 ·rcases List.mem_append.1 hx with q | q
  ·exact(lib_ok b1).rcl x q
  ·exact(lib_ok b2).rcl x q
theorem P40_eq {l:LT}{mo:List KT}{rc:List Int}(hz:szL l)(hz2:szL (l.1,l.2.1,l.2.2.1,mo,rc)):∃ r,P40 (l,mo,rc)=some (r.2.1,r.1,r.2.2.1,r.2.2.2.1,r.2.2.2.2.1,r.2.2.2.2.2)∧MergeR l mo rc r:=by
 have zk:=hz.k
 have zr:=hz.r
 have zk2:mo.length≤100:=hz2.k
 have zr2:rc.length≤100:=hz2.r
 by_cases h:chkV l=0
 ·by_cases h2:chkV (l.1,l.2.1,l.2.2.1,mo,rc)=0
  ·obtain⟨hd,hi,hr⟩:=mo_ok hz hz2 h h2
   obtain⟨o,o1,o2⟩:=P52_eq (l:=l.2.2.2.1++mo) (by rw[List.length_append]; omega) hd hi
   have o3:=o2.len
   rw[List.length_append]at o3
   obtain⟨m,R,m1,m2,m3⟩:=sort_rec (l:=l.2.2.2.2++rc) (by rw[List.length_append]; omega)
   have k1:=P69_eq l.2.2.2.1 mo (by omega) (by omega)
   have k2:=P70_eq l.2.2.2.2 rc (by omega) (by omega)
   have n1:=P51_eq o2 (by omega)
   by_cases g1:(20:Int) < (o.length:Int)
   ·exact⟨_,by simp only[P40,p40,q40,P28_eq l hz,P28_eq _ hz2,bind_some',h,h2,decide_true,Bool.not_true,cond_false,P68_eq hz,k1,o1,k2,m1,m2,dT g1,cond_true],.big h h2 o R o2 m3 (.inl (by omega))⟩
   by_cases g2:(20:Int) < (R.length:Int)
   ·exact⟨_,by simp only[P40,p40,q40,P28_eq l hz,P28_eq _ hz2,bind_some',h,h2,decide_true,Bool.not_true,cond_false,P68_eq hz,k1,o1,k2,m1,m2,dF g1,dT g2,cond_true],.big h h2 o R o2 m3 (.inr (by omega))⟩
   cases hn:ncB (l.2.2.2.1++mo)
   ·exact⟨_,by simp only[P40,p40,q40,P28_eq l hz,P28_eq _ hz2,bind_some',h,h2,decide_true,Bool.not_true,cond_false,P68_eq hz,k1,o1,k2,m1,m2,dF g1,dF g2,n1,hn,Bool.not_false,cond_true],.clash h h2 o R o2 m3 ⟨by omega,by omega⟩ hn⟩
   ·exact⟨_,by simp only[P40,p40,q40,P28_eq l hz,P28_eq _ hz2,bind_some',h,h2,decide_true,Bool.not_true,cond_false,P68_eq hz,k1,o1,k2,m1,m2,dF g1,dF g2,n1,hn],.ok h h2 o R o2 m3 ⟨by omega,by omega⟩ hn⟩
  ·exact⟨_,by simp only[P40,p40,q40,P28_eq l hz,P28_eq _ hz2,bind_some',h,decide_true,Bool.not_true,cond_false,decide_eq_false h2,Bool.not_false,cond_true],.own h h2⟩
 ·exact⟨_,by simp only[P40,p40,q40,P28_eq l hz,bind_some',decide_eq_false h,Bool.not_false,cond_true],.bad h⟩
theorem L41_eq {l:LT}(hz:szL l){rc:List Int}(hr:rc.length≤100)(A:List AT)(B:List CT)(V:List VT)(K:List KT):L41_0 (rc,0,l,A,B,V,K,[])=some (l,A,B,V,K,((List.range 100).filter fun i:Nat=>inB l.2.2.2.2 (i:Int)||inB rc (i:Int)).map fun i:Nat=>(i:Int)):=by
 have zr:=hz.r
 refine while_flt (step:=fun x=>p41_0 x.1 x.2.1 x.2.2.1 x.2.2.2.1 x.2.2.2.2.1 x.2.2.2.2.2.1 x.2.2.2.2.2.2.1 x.2.2.2.2.2.2.2) (List.range 100) (fun i:Nat=>inB l.2.2.2.2 (i:Int)||inB rc (i:Int)) (fun i:Nat=>(i:Int)) (fun k out=>(rc,(k:Int),l,A,B,V,K,out)) (fun out=>(l,A,B,V,K,out)) (fun k out hk ho=>?_) (fun out ho=>?_) (by simp)
 ·rw[List.length_range]at hk
  rw[gt_range hk]
  have c3:capOk 8 (out.length+([(k:Int)]:List Int).length)=true:=capOk_sm (by omega) (by simp only[List.length_cons,List.length_nil]; omega)
  have g1:(k:Int)≤99:=by omega
  simp(disch:=omega) only[p41_0,q41_0,dT g1,cond_true,P24_eq,bind_some',c3,fitK,chk_t,a1]
  cases inB l.2.2.2.2 (k:Int)
  ·cases inB rc (k:Int) <;> rfl
  ·rfl
 ·rw[List.length_range]
  have g1:¬ ((100:Nat):Int)≤99:=by omega
  simp only[p41_0,q41_0,dF g1,cond_false]
theorem P41_eq {l:LT}{mo:List KT}{rc:List Int}(hz:szL l)(hz2:szL (l.1,l.2.1,l.2.2.1,mo,rc)):∃ r,P41 (l,mo,rc)=some r∧MergeR l mo rc r:=by
 have zk:=hz.k
 have zr:=hz.r
 have zk2:mo.length≤100:=hz2.k
 have zr2:rc.length≤100:=hz2.r
 by_cases h:chkV l=0
 ·by_cases h2:chkV (l.1,l.2.1,l.2.2.1,mo,rc)=0
  ·obtain⟨hd,hi,hr⟩:=mo_ok hz hz2 h h2
   obtain⟨o,o1,o2⟩:=P72_once (l:=l.2.2.2.1++mo) (by rw[List.length_append]; omega) hd hi
   have o3:=o2.len
   rw[List.length_append]at o3
   have c1:capOk 56 (([]:List KT).length+l.2.2.2.1.length)=true:=capOk_sm (by omega) (by simp only[List.length_nil]; omega)
   have c2:capOk 56 (l.2.2.2.1.length+mo.length)=true:=capOk_sm (by omega) (by omega)
   have eR:=L41_eq hz (rc:=rc) zr2 l.1 l.2.1 l.2.2.1 o
   have m3:RecOk (l.2.2.2.2++rc) (((List.range 100).filter fun i:Nat=>inB l.2.2.2.2 (i:Int)||inB rc (i:Int)).map fun i:Nat=>(i:Int)):=by
    refine⟨?_,fun x=>?_⟩
    ·rw[List.pairwise_map]
     exact(List.pairwise_lt_range.filter _).imp fun h=>by omega
    ·rw[List.mem_map]
     constructor
     ·rintro⟨i,hi,rfl⟩
      have:=(List.mem_filter.1 hi).2
      rw[Bool.or_eq_true,inB_iff,inB_iff]at this
      exact List.mem_append.2 this
     ·intro hx
      have hb:=hr x hx
      refine⟨x.toNat,List.mem_filter.2 ⟨List.mem_range.2 (by omega),?_⟩,by omega⟩
      rw[show((x.toNat:Nat):Int)=x by omega,Bool.or_eq_true,inB_iff,inB_iff]
      exact List.mem_append.1 hx
   revert eR m3
   generalize (((List.range 100).filter fun i:Nat=>inB l.2.2.2.2 (i:Int)||inB rc (i:Int)).map fun i:Nat=>(i:Int))=R
   intro eR m3
   have n1:=P49_eq (l:=o) (by omega) fun x hx=>hd x ((o2.mem x).1 hx)
   rw[o2.nc]at n1
   by_cases g1:(20:Int) < (o.length:Int)
   ·exact⟨_,by simp only[P41,p41,q41,P26_eq l hz,P26_eq _ hz2,P25_eq hz,bind_some',h,h2,decide_true,Bool.not_true,cond_false,append_self,c1,c2,chk_t,o1,eR,dT g1,cond_true],.big h h2 o R o2 m3 (.inl (by omega))⟩
   by_cases g2:(20:Int) < (R.length:Int)
   ·exact⟨_,by simp only[P41,p41,q41,P26_eq l hz,P26_eq _ hz2,P25_eq hz,bind_some',h,h2,decide_true,Bool.not_true,cond_false,append_self,c1,c2,chk_t,o1,eR,dF g1,dT g2,cond_true],.big h h2 o R o2 m3 (.inr (by omega))⟩
   cases hn:ncB (l.2.2.2.1++mo)
   ·exact⟨_,by simp only[P41,p41,q41,P26_eq l hz,P26_eq _ hz2,P25_eq hz,bind_some',h,h2,decide_true,Bool.not_true,cond_false,append_self,c1,c2,chk_t,o1,eR,dF g1,dF g2,n1,hn,Bool.not_false,cond_true],.clash h h2 o R o2 m3 ⟨by omega,by omega⟩ hn⟩
   ·exact⟨_,by simp only[P41,p41,q41,P26_eq l hz,P26_eq _ hz2,P25_eq hz,bind_some',h,h2,decide_true,Bool.not_true,cond_false,append_self,c1,c2,chk_t,o1,eR,dF g1,dF g2,n1,hn],.ok h h2 o R o2 m3 ⟨by omega,by omega⟩ hn⟩
  ·exact⟨_,by simp only[P41,p41,q41,P26_eq l hz,P26_eq _ hz2,P25_eq hz,bind_some',h,decide_true,Bool.not_true,cond_false,decide_eq_false h2,Bool.not_false,cond_true],.own h h2⟩
 ·exact⟨_,by simp only[P41,p41,q41,P26_eq l hz,bind_some',decide_eq_false h,Bool.not_false,cond_true],.bad h⟩
theorem emL_sz:szL emL:=⟨by simp,by simp,by simp,by simp,by simp,by simp,by simp,by simp,by simp⟩
theorem MergeR.sz {l:LT}{mo:List KT}{rc:List Int}(hz:szL l)(hz2:szL (l.1,l.2.1,l.2.2.1,mo,rc)){x:Int×LT}(h:MergeR l mo rc x):szL x.2:=by
 cases h with
 | bad=>exact emL_sz
 | own=>exact emL_sz
 | big=>exact emL_sz
 | clash=>exact emL_sz
 | ok _ _ o R ho hR hb=>
  refine⟨hz.a,hz.c,hz.s,Nat.le_trans hb.1 (by omega),Nat.le_trans hb.2 (by omega),hz.ca,hz.sd,hz.sf,fun k hk=>?_⟩
  rcases List.mem_append.1 ((ho.mem k).1 hk)with q | q
  ·exact hz.kd k q
  ·exact hz2.kd k q
theorem Pure.KeysMerge' (l:LT)(mo:List KT)(rc:List Int):P13 (l,mo,rc)=some true:=by
 simp only[P13,p13,q13,P27_eq,bind_some',works]
 cases hf:farV l
 ·cases hf2:farV ([],[],[],mo,rc)
  ·have hz:=far_sz hf
   have hz3:=far_sz hf2
   have hz2:szL (l.1,l.2.1,l.2.2.1,mo,rc):=⟨hz.a,hz.c,hz.s,hz3.k,hz3.r,hz.ca,hz.sd,hz.sf,hz3.kd⟩
   obtain⟨r,r1,r2⟩:=P40_eq hz hz2
   obtain⟨q,q1,q2⟩:=P41_eq hz hz2
   have e:=r2.uniq q2
   subst e
   have e32:=P32_refl (r2.sz hz hz2)
   simp only[cond_false,P25v1_eq hz3,P25v1_eq hz,bind_some',r1,q1,eta2,e32,cond_true,decide_true]
  ·rfl
 ·rfl
theorem Pure.KeysMerge (l:LT)(_:Wf TyL l)(mo:List KT)(_:Wf (.sl (.pair (.int .i64) (.pair (.int .i64) (.pair (.sl (.int .i64)) (.pair (.int .i64) (.int .i64)))))) mo)(rc:List Int)(_:Wf (.sl (.int .i64)) rc):P13 (l,mo,rc)=some true:=Pure.KeysMerge' l mo rc
end Go.Proofs.YtdacabdocbhkdaaGreat.D
