/- Cut down from a longer text. -/
import Derived.Test.YtdacabdocbhkdaaGreatS8r
set_option linter.unusedVariables false
set_option linter.unusedSimpArgs false
set_option linter.unusedSectionVars false
namespace Go.Proofs.YtdacabdocbhkdaaGreat.D
open Go Go.Proofs Go.Proofs.YtdacabdocbhkdaaGreat.L
theorem apB_iff {n:Nat}{f:Nat→Int}{rt:Nat→Bool}:apB n f rt=true↔(∀ i,i < n→rt i=true∧0≤f i∧f i≤99)∧∀ i k,i < n→k < i→f k≠f i:=by
 unfold apB
 rw[allB_true]
 constructor
 ·intro h
  refine⟨fun i hi=>?_,fun i k hi hk=>?_⟩
  ·have:=h i hi
   simp only[Bool.and_eq_true,wi_iff]at this; exact this.2
  ·have:=h i hi
   simp only[Bool.and_eq_true]at this
   simpa using allB_true.1 this.1 k hk
 ·rintro⟨h1,h2⟩ i hi
  simp only[Bool.and_eq_true,wi_iff]
  exact⟨allB_true.2 fun k hk=>by simpa using h2 i k hi hk,h1 i hi⟩
def Uq {α:Type}(l:List (Int×α)):Prop:=(l.map (·.1)).Nodup
theorem uq_of {α:Type}[Inhabited α]{l:List (Int×α)}{rt:Nat→Bool}(h:apB l.length (fun i=>(gt l i).1) rt=true):Uq l:=by
 unfold Uq
 rw[List.Nodup,List.pairwise_map,List.pairwise_iff_getElem]
 intro i j hi hj hij
 have:=(apB_iff.1 h).2 j i hj hij
 rwa [gt_lt hi,gt_lt hj]at this
theorem Uq.eq {α:Type}[Inhabited α]{l:List (Int×α)}(h:Uq l){x y:Int×α}(hx:x∈l)(hy:y∈l)(e:x.1=y.1):x=y:=by
 unfold Uq at h
 rw[List.Nodup,List.pairwise_map]at h
 have hp:=List.pairwise_iff_getElem.1 h
 obtain⟨i,hi,rfl⟩:=mem_gt hx
 obtain⟨j,hj,rfl⟩:=mem_gt hy
 rw[gt_lt hi,gt_lt hj]at e
 rcases Nat.lt_trichotomy i j with q | q | q
 ·exact absurd e (hp i j hi hj q)
 ·rw[q]
 ·exact absurd e.symm (hp j i hj hi q)
structure LibOk (l:LT):Prop where
 a12:l.1.length≤12
 c8:l.2.1.length≤8
 s6:l.2.2.1.length≤6
 k20:l.2.2.2.1.length≤20
 r20:l.2.2.2.2.length≤20
 key:∀ k∈l.2.2.2.1,keyB k=true
 rcl:∀ r∈l.2.2.2.2,0≤r∧r≤99
 au:Uq l.1
 cu:Uq l.2.1
 su:Uq l.2.2.1
 ai:∀ a∈l.1,0≤a.1∧a.1≤99
 comp:∀ c∈l.2.1,compR l.1 c=true∧0≤c.1∧c.1≤99
 serv:∀ s∈l.2.2.1,servR s=true∧0≤s.1∧s.1≤99
theorem lib_ok {l:LT}(h:libB l=true):LibOk l:=by
 unfold libB sizB at h
 simp only[Bool.and_eq_true,List.all_eq_true,lenB,decide_eq_true_eq,wi_iff]at h
 obtain⟨⟨h1,h2,h3,h4,h5⟩,⟨h6,h7⟩,h8,h9,h10⟩:=h
 refine⟨h1,h2,h3,h4,h5,h6,h7,uq_of h8,uq_of h9,uq_of h10,fun a ha=>?_,fun c hc=>?_,fun s hs=>?_⟩
 ·obtain⟨i,hi,rfl⟩:=mem_gt ha; exact((apB_iff.1 h8).1 i hi).2
 ·obtain⟨i,hi,rfl⟩:=mem_gt hc; exact(apB_iff.1 h9).1 i hi
 ·obtain⟨i,hi,rfl⟩:=mem_gt hs; exact(apB_iff.1 h10).1 i hi
theorem key_tm {k:KT}(h:keyB k=true):(0≤k.2.2.2.1∧k.2.2.2.1≤k.2.2.2.2∧k.2.2.2.2≤9999)∧k.2.2.1.length≤12:=by
 unfold keyB at h
 simp only[Bool.and_eq_true,wi_iff,lenB,decide_eq_true_eq]at h
 exact⟨⟨h.2.2.2.1.1,h.2.2.2.1.2,h.2.2.2.2⟩,h.2.2.1.2⟩
theorem comp_ok {A:List AT}{c:CT}(h:compR A c=true):(1≤c.2.2.2.2.1∧c.2.2.2.2.1≤400)∧c.2.2.2.2.2.2.Pairwise (· < ·)∧(∀ a∈c.2.2.2.2.2.2,hasA A a=true)∧c.2.2.2.2.2.2≠[]:=by
 unfold compR at h
 simp only[Bool.and_eq_true,wi_iff,lenB,decide_eq_true_eq,any_not,Bool.not_not,List.all_eq_true]at h
 exact⟨h.2.2.2.1,ascB_pw h.2.2.2.2.2.1,h.2.2.2.2.2.2,fun e=>by rw[e]at h; simp at h⟩
theorem serv_ok {s:VT}(h:servR s=true):1≤s.2.1.length∧s.2.1.length≤6∧s.2.2.length≤20∧s.2.1.Pairwise (· < ·)∧Uq s.2.2:=by
 unfold servR at h
 simp only[Bool.and_eq_true,lenB,decide_eq_true_eq]at h
 exact⟨h.1,h.2.1.2,h.2.2.1,ascB_pw h.2.1.1,uq_of h.2.2.2⟩
def openT (lk:Bool)(ds:List Int)(ks:List KT)(n:Int):Prop:=0≤n∧n≤9999∧(lk=false∨∃ k∈ks,opB ds k=true∧k.2.2.2.1≤n∧n≤k.2.2.2.2)
theorem times_in {ds:List Int}{ks:List KT}{ts:List Sp}(h:TmOk ds ks ts)(hk:KsOk ks)(n:Int):InS ts n↔openT true ds ks n:=by
 constructor
 ·rintro⟨t,ht,q1,q2⟩
  obtain⟨k,k1,k2,rfl⟩:=(h.mem t).1 ht
  have:=hk.tm k k1
  exact⟨by omega,by omega,.inr ⟨k,k1,k2,q1,q2⟩⟩
 ·rintro⟨_,_,q | ⟨k,k1,k2,q1,q2⟩⟩
  ·cases q
  ·exact⟨k.2.2.2,(h.mem _).2 ⟨k,k1,k2,rfl⟩,q1,q2⟩
theorem P110_eq (c:CT)(s:VT)(sums:List AT){ks:List KT}(hd:s.2.1.length≤1000)(hk:KsOk ks):∃ sp,P110 (mkP c s sums ks [])=some (c.1,c.2.1,c.2.2.1,c.2.2.2.1,c.2.2.2.2.1,c.2.2.2.2.2.1,c.2.2.2.2.2.2,s.1,s.2.1,s.2.2,sums,ks,[],sp)∧SpOk sp (openT c.2.2.2.2.2.1 s.2.1 ks)∧sp.length≤20:=by
 cases hlk:c.2.2.2.2.2.1
 ·refine⟨[(0,9999)],by simp only[P110,p110,q110,mkP,hlk,Bool.not_false,cond_true],⟨by simp,by simp,fun n=>?_⟩,by simp⟩
  constructor
  ·rintro⟨h1,h2,_⟩; exact⟨(0,9999),by simp,h1,h2⟩
  ·rintro⟨x,hx,h1,h2⟩
   rw[List.mem_singleton]at hx
   subst hx
   exact⟨h1,h2,.inl rfl⟩
 ·obtain⟨ts,t1,t2⟩:=P45_eq (mkP c s sums ks []) hd hk
  have t1':P45 (c.1,c.2.1,c.2.2.1,c.2.2.2.1,c.2.2.2.2.1,true,c.2.2.2.2.2.2,s.1,s.2.1,s.2.2,sums,ks,[])=some ts:=by rw[← hlk]; exact t1
  have hkl:=hk.len
  have htl:=t2.len
  have htl':ts.length≤ks.length:=htl
  obtain⟨sp,s1,s2,s3⟩:=L110_eq (ts:=ts) (by omega) t2.sd fun t ht=>by
   obtain⟨k,k1,k2,rfl⟩:=(t2.mem t).1 ht
   exact hk.tm k k1
  exact⟨sp,by simp only[P110,p110,q110,mkP,hlk,Bool.not_true,cond_false,t1',bind_some',s1],s2.congr (times_in t2 hk),by omega⟩
def ownB (l:LT)(c:CT)(k:KT):Bool:=decide (k.2.1=c.1)&&!inB l.2.2.2.2 k.1
structure PutOk (l:LT) (c:CT) (s:VT) (sums:List AT) (ks:List KT) (sp:List Sp):Prop where
 ids:sums.map (·.1)=c.2.2.2.2.2.2
 own:∀ a∈sums,a∈l.1
 mem:∀ k,k∈ks↔k∈l.2.2.2.1∧ownB l c k=true
 sd:ks.Pairwise fun x y=>x.1≤y.1
 ksok:KsOk ks
 spl:sp.length≤20
 sp:SpOk sp (openT c.2.2.2.2.2.1 s.2.1 ks)
theorem sd_pw {α:Type}[Inhabited α]{f:α→Int}{l:List α}(h:Sd f l 0 l.length):l.Pairwise fun x y=>f x≤f y:=by
 rw[List.pairwise_iff_getElem]
 intro i j hi hj hij
 have:=h i j (Nat.zero_le _) hij hj
 rwa [gt_lt hi,gt_lt hj]at this
theorem P65_eq {l:LT}(hz:szL l)(hv:libB l=true){c:CT}(hc:c∈l.2.1){s:VT}(hs:s∈l.2.2.1):∃ sums ks sp,P65 (l,c,s)=some (mkP c s sums ks sp)∧PutOk l c s sums ks sp:=by
 have hok:=lib_ok hv
 have zca:=hz.ca c hc
 have zr:=hz.r
 have za:=hok.a12
 have zsd:=hz.sd s hs
 obtain⟨o,o1,o2⟩:=once_lib hz hv
 have zk:=hok.k20
 have zo:=o2.len
 have e0:L65_0 (l.1,(l.1.length:Int),0,l,c,c.1,c.2.1,c.2.2.1,c.2.2.2.1,c.2.2.2.2.1,c.2.2.2.2.2.1,c.2.2.2.2.2.2,s.1,s.2.1,s.2.2,[])=some (l,c,c.1,c.2.1,c.2.2.1,c.2.2.2.1,c.2.2.2.2.1,c.2.2.2.2.2.1,c.2.2.2.2.2.2,s.1,s.2.1,s.2.2,(l.1.filter fun a=>inB c.2.2.2.2.2.2 a.1).map id):=by
  unfold L65_0
  exact while_flt l.1 (fun a=>inB c.2.2.2.2.2.2 a.1) id (fun k out=>(l.1,(l.1.length:Int),(k:Int),l,c,c.1,c.2.1,c.2.2.1,c.2.2.2.1,c.2.2.2.2.1,c.2.2.2.2.2.1,c.2.2.2.2.2.2,s.1,s.2.1,s.2.2,out)) (fun out=>(l,c,c.1,c.2.1,c.2.2.1,c.2.2.2.1,c.2.2.2.2.1,c.2.2.2.2.2.1,c.2.2.2.2.2.2,s.1,s.2.1,s.2.2,out))
   (fun k out hk ho=>by
    simp(disch:=omega) only[p65_0,q65_0,ltN,dT,cond_true,inR_nat,chk_t,ix_gt,P79_eq,bind_some',List.length_singleton,capOk_sm,fitK,a1]
    cases inB c.2.2.2.2.2.2 (gt l.1 k).1 <;> rfl) (fun out ho=>by simp(disch:=omega) only[p65_0,q65_0,ltN,dF,cond_false]) (by omega)
 rw[List.map_id]at e0
 have hFl:=List.length_filter_le (fun a:AT=>inB c.2.2.2.2.2.2 a.1) l.1
 have hFs:(l.1.filter fun a=>inB c.2.2.2.2.2.2 a.1).Sublist l.1:=List.filter_sublist
 have hFm:∀ a,a∈(l.1.filter fun a:AT=>inB c.2.2.2.2.2.2 a.1)↔a∈l.1∧a.1∈c.2.2.2.2.2.2:=fun a=>by rw[List.mem_filter,inB_iff]
 generalize (l.1.filter fun a=>inB c.2.2.2.2.2.2 a.1)=F at *
 obtain⟨sums,u1,u2,u3⟩:=Pdq108.srt (fun x:AT=>x.1) (fun x=>0≤x.1∧x.1≤99) (0,0) (by simp) (fun x y hx hy=>by
  have f:fits .i64 (x.1-y.1)=true:=fits_of (by omega) (by omega)
  exact⟨x.1-y.1,by simp only[P109,p109,q109,f,chk_t],by simp only[decide_eq_true_eq]; omega⟩)
  (l:=F) (fun a ha=>hok.ai a ((hFm a).1 ha).1) (by omega)
 have e1:L65_1 ((o.length:Int),0,l,c,c.1,c.2.1,c.2.2.1,c.2.2.2.1,c.2.2.2.2.1,c.2.2.2.2.2.1,c.2.2.2.2.2.2,s.1,s.2.1,s.2.2,o,sums,[])=some (l,c,c.1,c.2.1,c.2.2.1,c.2.2.2.1,c.2.2.2.2.1,c.2.2.2.2.2.1,c.2.2.2.2.2.2,s.1,s.2.1,s.2.2,o,sums,(o.filter (ownB l c)).map id):=by
  unfold L65_1
  exact while_flt o (ownB l c) id (fun k out=>((o.length:Int),(k:Int),l,c,c.1,c.2.1,c.2.2.1,c.2.2.2.1,c.2.2.2.2.1,c.2.2.2.2.2.1,c.2.2.2.2.2.2,s.1,s.2.1,s.2.2,o,sums,out)) (fun out=>(l,c,c.1,c.2.1,c.2.2.1,c.2.2.2.1,c.2.2.2.2.1,c.2.2.2.2.2.1,c.2.2.2.2.2.2,s.1,s.2.1,s.2.2,o,sums,out))
   (fun k out hk ho=>by
    simp(disch:=omega) only[p65_1,q65_1,ltN,dT,cond_true,inR_nat,chk_t,ix_gt,P79_eq,bind_some',List.length_singleton,capOk_sm,fitK,a1,ownB]
    cases decide ((gt o k).2.1=c.1)
    ·rfl
    cases inB l.2.2.2.2 (gt o k).1 <;> rfl) (fun out ho=>by simp(disch:=omega) only[p65_1,q65_1,ltN,dF,cond_false]) (by omega)
 rw[List.map_id]at e1
 have hkm:∀ k,k∈o.filter (ownB l c)↔k∈l.2.2.2.1∧ownB l c k=true:=fun k=>by rw[List.mem_filter,o2.mem]
 have hks:KsOk (o.filter (ownB l c)):=by
  have:=List.length_filter_le (ownB l c) o
  refine⟨by omega,fun k hk=>hz.kd k ((hkm k).1 hk).1,fun k hk=>(key_tm (hok.key k ((hkm k).1 hk).1)).1⟩
 have hsd:(o.filter (ownB l c)).Pairwise fun x y=>x.1≤y.1:=(sd_pw o2.sd).sublist List.filter_sublist
 obtain⟨sp,p1,p2,p3⟩:=P110_eq c s sums (show s.2.1.length≤1000 by omega) hks
 refine⟨sums,o.filter (ownB l c),sp,?_,?_,fun a ha=>((hFm a).1 (u2.mem_iff.1 ha)).1,hkm,hsd,hks,p3,p2⟩
 ·have p1':P110 (c.1,c.2.1,c.2.2.1,c.2.2.2.1,c.2.2.2.2.1,c.2.2.2.2.2.1,c.2.2.2.2.2.2,s.1,s.2.1,s.2.2,sums,o.filter (ownB l c),[])=_:=p1
  simp only[P65,p65,q65,e0,bind_some',u1,o1,e1,p1',mkP]
 ·obtain⟨_,hpw,hall,_⟩:=comp_ok (hok.comp c hc).1
  refine asc_ext ?_ hpw fun x=>?_
  ·have hnd:(sums.map (·.1)).Nodup:=(u2.map _).nodup_iff.2 (hok.au.sublist (hFs.map _))
   rw[List.pairwise_map]
   rw[List.Nodup,List.pairwise_map]at hnd
   exact(List.Pairwise.and hnd (sd_pw u3)).imp fun⟨h1,h2⟩=>by omega
  ·rw[List.mem_map]
   constructor
   ·rintro⟨a,ha,rfl⟩; exact((hFm a).1 (u2.mem_iff.1 ha)).2
   ·intro hx
    obtain⟨a,ha,e⟩:=List.any_eq_true.1 (hall x hx)
    simp only[decide_eq_true_eq]at e
    exact⟨a,u2.mem_iff.2 ((hFm a).2 ⟨ha,by rw[e]; exact hx⟩),e⟩
end Go.Proofs.YtdacabdocbhkdaaGreat.D
