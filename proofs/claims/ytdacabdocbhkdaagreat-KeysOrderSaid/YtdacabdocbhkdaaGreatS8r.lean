/- Cut down from a longer text. -/
import Derived.Test.YtdacabdocbhkdaaGreatS7r
set_option linter.unusedVariables false
set_option linter.unusedSimpArgs false
set_option linter.unusedSectionVars false
namespace Go.Proofs.YtdacabdocbhkdaaGreat.D
open Go Go.Proofs Go.Proofs.YtdacabdocbhkdaaGreat.L
abbrev PT:=Int×Int×Int×Int×Int×Bool×List Int×Int×List Int×List (Int×Int)×List (Int×Int)×List (Int×Int×List Int×Int×Int)×List (Int×Int)
def mkP (c:CT)(s:VT)(sums:List AT)(ks:List KT)(sp:List Sp):PT:=(c.1,c.2.1,c.2.2.1,c.2.2.2.1,c.2.2.2.2.1,c.2.2.2.2.2.1,c.2.2.2.2.2.2,s.1,s.2.1,s.2.2,sums,ks,sp)
def inB (l:List Int)(n:Int):Bool:=l.any fun x=>decide (n=x)
theorem inB_iff {l:List Int}{n:Int}:inB l n=true↔n∈l:=by
 unfold inB
 rw[List.any_eq_true]
 exact⟨fun⟨x,hx,e⟩=>by simp only[decide_eq_true_eq]at e; rw[e]; exact hx,fun h=>⟨n,h,by simp⟩⟩
theorem P79_eq {l:List Int}(n:Int)(hl:l.length≤1000):P79 (l,n)=some (inB l n):=by
 have key:P120 (l,n)=some (fix l fun x=>decide (n=x)):=by
  obtain⟨r,r1,r2⟩:=while_fix (step:=fun x=>p120_0 x.1 x.2.1 x.2.2.1 x.2.2.2) l (fun i=>(l,n,(l.length:Int),(i:Int))) (fun x=>decide (n=x)) (fun k=>.inl (k:Int)) (.inr ())
   (fun i hi _=>by
    simp(disch:=omega) only[p120_0,q120_0,ltN,dT,cond_true,inR_nat,chk_t,ix_gt,fitK,a1]
    cases decide (n=gt l i) <;> rfl) (by simp(disch:=omega) only[p120_0,q120_0,ltN,dF,cond_false]) (by omega) (fun y=>Sum.elim (fun y=>some y) (fun _=>some (-1)) y) (fun z=>some z) (fun _ _ _=>rfl) rfl
  have e:L120_0 (l,n,(l.length:Int),0)=some r:=r1
  simp only[P120,p120,q120,e,bind_some']
  exact r2
 simp only[P79,p79,q79,key,bind_some',fix_any,inB]
def opB (ds:List Int)(k:KT):Bool:=ds.all fun d=>inB k.2.2.1 d
theorem P91v1_eq {ds:List Int}(k:KT)(hd:ds.length≤1000)(hk:k.2.2.1.length≤1000):P91v1 (ds,k)=some (!opB ds k):=by
 have key:P80v1 (ds,k)=some (fix ds fun d=>!inB k.2.2.1 d):=by
  obtain⟨r,r1,r2⟩:=while_fix (step:=fun x=>p80v1_0 x.1 x.2.1 x.2.2.1 x.2.2.2) ds (fun i=>(ds,k,(ds.length:Int),(i:Int))) (fun d=>!inB k.2.2.1 d) (fun k=>.inl (k:Int)) (.inr ())
   (fun i hi _=>by
    simp(disch:=omega) only[p80v1_0,q80v1_0,ltN,dT,cond_true,inR_nat,chk_t,ix_gt,P118,p118,q118,P79_eq,bind_some',fitK,a1]
    cases inB k.2.2.1 (gt ds i) <;> rfl) (by simp(disch:=omega) only[p80v1_0,q80v1_0,ltN,dF,cond_false]) (by omega) (fun y=>Sum.elim (fun y=>some y) (fun _=>some (-1)) y) (fun z=>some z) (fun _ _ _=>rfl) rfl
  have e:L80v1_0 (ds,k,(ds.length:Int),0)=some r:=r1
  simp only[P80v1,p80v1,q80v1,e,bind_some']
  exact r2
 simp only[P91v1,p91v1,q91v1,key,bind_some',fix_any,opB,any_not]
structure TmOk (ds:List Int) (ks:List KT) (ts:List Sp):Prop where
 mem:∀ t,t∈ts↔∃ k∈ks,opB ds k=true∧t=k.2.2.2
 sd:Sd (fun x:Sp=>x.1) ts 0 ts.length
 len:ts.length≤ks.length
structure KsOk (ks:List KT):Prop where
 len:ks.length≤20
 dl:∀ k∈ks,k.2.2.1.length≤100
 tm:∀ k∈ks,0≤k.2.2.2.1∧k.2.2.2.1≤k.2.2.2.2∧k.2.2.2.2≤9999
theorem sort_times {ks:List KT}(ds:List Int)(hk:KsOk ks):∃ ts,P76 ((ks.filter (opB ds)).map fun k=>k.2.2.2)=some ts∧TmOk ds ks ts:=by
 have hlen:((ks.filter (opB ds)).map fun k=>k.2.2.2).length≤ks.length:=by
  have:=List.length_filter_le (opB ds) ks
  simp only[List.length_map]; omega
 have hmem:∀ t,t∈((ks.filter (opB ds)).map fun k:KT=>k.2.2.2)↔∃ k∈ks,opB ds k=true∧t=k.2.2.2:=fun t=>by
  simp only[List.mem_map,List.mem_filter]
  exact⟨fun⟨k,⟨h1,h2⟩,h3⟩=>⟨k,h1,h2,h3.symm⟩,fun⟨k,h1,h2,h3⟩=>⟨k,⟨h1,h2⟩,h3.symm⟩⟩
 have hkl:=hk.len
 obtain⟨ts,t1,t2,t3⟩:=Pdq76.srt (fun x:Sp=>x.1) (fun x=>0≤x.1∧x.1≤9999) (0,0) (by simp) (fun x y hx hy=>by
  have f:fits .i64 (x.1-y.1)=true:=fits_of (by omega) (by omega)
  exact⟨x.1-y.1,by simp only[P77,p77,q77,f,chk_t],by simp only[decide_eq_true_eq]; omega⟩)
  (l:=(ks.filter (opB ds)).map fun k=>k.2.2.2) (fun t ht=>by
   obtain⟨k,h1,h2,rfl⟩:=(hmem t).1 ht
   have:=hk.tm k h1
   omega) (by omega)
 exact⟨ts,t1,fun t=>by rw[t2.mem_iff,hmem],t3,by rw[t2.length_eq]; exact hlen⟩
theorem P75_eq (p:PT)(k:KT)(hd:p.2.2.2.2.2.2.2.2.1.length≤1000)(hk:k.2.2.1.length≤1000):P75 (p,k)=some (opB p.2.2.2.2.2.2.2.2.1 k):=by
 simp only[P75,p75,q75,P91v1_eq k hd hk,bind_some',Bool.not_not]
theorem P45_eq (p:PT)(hd:p.2.2.2.2.2.2.2.2.1.length≤1000)(hk:KsOk p.2.2.2.2.2.2.2.2.2.2.2.1):∃ ts,P45 p=some ts∧TmOk p.2.2.2.2.2.2.2.2.1 p.2.2.2.2.2.2.2.2.2.2.2.1 ts:=by
 obtain⟨ts,h1,h2⟩:=sort_times p.2.2.2.2.2.2.2.2.1 hk
 have hkl:=hk.len
 have e:L45_0 (p,p.2.2.2.2.2.2.2.2.2.2.2.1,(p.2.2.2.2.2.2.2.2.2.2.2.1.length:Int),0,[])=some ((p.2.2.2.2.2.2.2.2.2.2.2.1.filter (opB p.2.2.2.2.2.2.2.2.1)).map fun k=>k.2.2.2):=
  while_flt (step:=fun x=>p45_0 x.1 x.2.1 x.2.2.1 x.2.2.2.1 x.2.2.2.2) p.2.2.2.2.2.2.2.2.2.2.2.1 (opB p.2.2.2.2.2.2.2.2.1) (fun k=>k.2.2.2) (fun k out=>(p,p.2.2.2.2.2.2.2.2.2.2.2.1,(p.2.2.2.2.2.2.2.2.2.2.2.1.length:Int),(k:Int),out)) id
   (fun k out hk' ho=>by
    have:=hk.dl _ (gt_mem hk')
    simp(disch:=omega) only[p45_0,q45_0,ltN,dT,cond_true,inR_nat,chk_t,ix_gt,P75_eq,bind_some',List.length_singleton,capOk_sm,fitK,a1]
    cases opB p.2.2.2.2.2.2.2.2.1 (gt p.2.2.2.2.2.2.2.2.2.2.2.1 k) <;> rfl) (fun out ho=>by simp(disch:=omega) only[p45_0,q45_0,ltN,dF,cond_false]; rfl) (by omega)
 exact⟨ts,by simp only[P45,p45,q45,e,bind_some',h1],h2⟩
theorem P45v1_eq (p:PT)(hd:p.2.2.2.2.2.2.2.2.1.length≤1000)(hk:KsOk p.2.2.2.2.2.2.2.2.2.2.2.1):∃ ts,P45v1 (some p)=some ts∧TmOk p.2.2.2.2.2.2.2.2.1 p.2.2.2.2.2.2.2.2.2.2.2.1 ts:=by
 obtain⟨ts,h1,h2⟩:=sort_times p.2.2.2.2.2.2.2.2.1 hk
 have hkl:=hk.len
 have h75:∀ k:KT,k.2.2.1.length≤1000→P75v1 (some p,k)=some (opB p.2.2.2.2.2.2.2.2.1 k):=fun k hk=>by
  simp only[P75v1,p75v1,q75v1,Option.isSome_some,chk_t,dof,Option.getD_some,P91v1_eq k hd hk,bind_some',Bool.not_not]
 have e:L45v1_0 (some p,p.2.2.2.2.2.2.2.2.2.2.2.1,(p.2.2.2.2.2.2.2.2.2.2.2.1.length:Int),0,[])=some ((p.2.2.2.2.2.2.2.2.2.2.2.1.filter (opB p.2.2.2.2.2.2.2.2.1)).map fun k=>k.2.2.2):=
  while_flt (step:=fun x=>p45v1_0 x.1 x.2.1 x.2.2.1 x.2.2.2.1 x.2.2.2.2) p.2.2.2.2.2.2.2.2.2.2.2.1 (opB p.2.2.2.2.2.2.2.2.1) (fun k=>k.2.2.2) (fun k out=>(some p,p.2.2.2.2.2.2.2.2.2.2.2.1,(p.2.2.2.2.2.2.2.2.2.2.2.1.length:Int),(k:Int),out)) id
   (fun k out hk' ho=>by
    have:=hk.dl _ (gt_mem hk')
    simp(disch:=omega) only[p45v1_0,q45v1_0,ltN,dT,cond_true,inR_nat,chk_t,ix_gt,h75,bind_some',List.length_singleton,capOk_sm,fitK,a1]
    cases opB p.2.2.2.2.2.2.2.2.1 (gt p.2.2.2.2.2.2.2.2.2.2.2.1 k) <;> rfl) (fun out ho=>by simp(disch:=omega) only[p45v1_0,q45v1_0,ltN,dF,cond_false]; rfl) (by omega)
 exact⟨ts,by simp only[P45v1,p45v1,q45v1,Option.isSome_some,chk_t,dof,Option.getD_some,e,bind_some',h1],h2⟩
theorem L110_eq {ts:List Sp}(hl:ts.length≤1000)(hs:Sd (fun x:Sp=>x.1) ts 0 ts.length)(hb:∀ t∈ts,0≤t.1∧t.1≤t.2∧t.2≤9999):
  ∃ r,L110_0 ((ts.length:Int),0,[],ts)=some (ts,r)∧SpOk r (InS ts)∧r.length≤ts.length:=by
 have key:∃ y,L110_0 ((ts.length:Int),0,[],ts)=some y∧∃ r,y=(ts,r)∧SpOk r (InS ts)∧r.length≤ts.length:=by
  refine while_inv ts.length (fun k s=>∃ out,s=((ts.length:Int),(k:Int),out,ts)∧out.length≤k∧SpOk out (InS (ts.take k))∧∀ x∈out,∀ j,k≤j→j < ts.length→x.1≤(gt ts j).1) _
   ⟨[],rfl,by simp,SpOk.nil fun n ⟨x,hx,_⟩=>by simp at hx,by simp⟩ (by omega) ?_ ?_
  ·rintro k s hk ⟨out,rfl,ho,hsp,hle⟩
   have ht:=hb _ (gt_mem hk)
   have hin:∀ n,(InS (ts.take k) n∨(gt ts k).1≤n∧n≤(gt ts k).2)↔InS (ts.take (k+1)) n:=fun n=>by
    rw[take_gt1 ts hk]
    constructor
    ·rintro(⟨x,hx,q⟩ | q)
     ·exact⟨x,by simp[hx],q⟩
     ·exact⟨gt ts k,by simp,q⟩
    ·rintro⟨x,hx,q⟩
     rw[List.mem_append,List.mem_singleton]at hx
     rcases hx with hx | rfl
     ·exact .inl ⟨x,hx,q⟩
     ·exact .inr q
   have hnext:∀ j,k+1≤j→j < ts.length→(gt ts k).1≤(gt ts j).1:=fun j h1 h2=>hs.le (Nat.zero_le k) (by omega) h2
   rcases List.eq_nil_or_concat out with rfl | ⟨init,last,rfl⟩
   ·have g:decide ((0:Int) < (([]:List Sp).length:Int))=false:=rfl
    have hp:=(hsp.push ht (by simp)).congr hin
    simp(disch:=omega) only[p110_0,q110_0,ltN,dT,cond_true,inR_nat,chk_t,g,cond_false,ix_gt,List.length_nil,List.length_singleton,capOk_sm,fitK,a1]
    exact⟨_,rfl,_,rfl,by simp,hp,fun x hx j h1 h2=>by simp at hx; subst hx; exact hnext j h1 h2⟩
   ·rw[List.concat_eq_append]at *
    have hlen:(init++[last]).length=init.length+1:=by simp
    have g:decide ((0:Int) < ((init++[last]).length:Int))=true:=by rw[hlen]; exact decide_eq_true (by omega)
    have gl:gt (init++[last]) init.length=last:=by rw[gt_append]; simp[gt]
    have hlb:=hsp.bd last (by simp)
    have f1:fits .i64 (last.2+1)=true:=fits_of (by omega) (by omega)
    have hl1:((init++[last]).length:Int)-1=((init.length:Nat):Int):=by rw[hlen]; omega
    rw[hlen]at ho
    simp(disch:=omega) only[p110_0,q110_0,ltN,dT,cond_true,inR_nat,chk_t,g,ix_gt,hlen,p1,Nat.add_sub_cancel,fitK,gl,f1,Int.toNat_natCast]
    have hset:List.set (init++[last]) init.length (last.1,max last.2 (gt ts k).2)=init++[(last.1,max last.2 (gt ts k).2)]:=by simp
    by_cases hc:(gt ts k).1≤last.2+1
    ·have hp:=(hsp.wide ht.2 (hle last (by simp) k (Nat.le_refl _) hk) hc).congr hin
     simp(disch:=omega) only[dT hc,cond_true,fitK,a1,chk_t,hset]
     refine⟨_,rfl,_,rfl,by simp; omega,hp,fun x hx j h1 h2=>?_⟩
     rw[List.mem_append,List.mem_singleton]at hx
     rcases hx with hx | rfl
     ·exact hle x (by simp[hx]) j (by omega) h2
     ·exact hle last (by simp) j (by omega) h2
    ·have hp:=(hsp.push ht fun x hx=>by
      have hp':=hsp.pw
      rw[List.pairwise_append]at hp'
      rw[List.mem_append,List.mem_singleton]at hx
      rcases hx with hx | rfl
      ·have:=hp'.2.2 x hx last (by simp); omega
      ·omega).congr hin
     simp(disch:=omega) only[dF hc,cond_false,List.length_singleton,capOk_sm,chk_t,fitK,a1]
     refine⟨_,rfl,_,rfl,by simp; omega,hp,fun x hx j h1 h2=>?_⟩
     rw[List.mem_append,List.mem_singleton]at hx
     rcases hx with hx | rfl
     ·exact hle x hx j (by omega) h2
     ·exact hnext j h1 h2
  ·rintro s ⟨out,rfl,ho,hsp,hle⟩
   simp(disch:=omega) only[p110_0,q110_0,ltN,dF,cond_false]
   exact⟨_,rfl,out,rfl,by rw[List.take_length]at hsp; exact hsp,ho⟩
 obtain⟨y,h1,r,rfl,h2⟩:=key
 exact⟨r,h1,h2⟩
end Go.Proofs.YtdacabdocbhkdaaGreat.D
