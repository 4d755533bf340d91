/- Cut down from a longer text. -/
import Derived.Test.YtdacabdocbhkdaaGreatS14f
set_option linter.unusedVariables false
set_option linter.unusedSimpArgs false
set_option linter.unusedSectionVars false
namespace Go.Proofs.YtdacabdocbhkdaaGreat.D
open Go Go.Proofs Go.Proofs.YtdacabdocbhkdaaGreat.L
def FirstK (l:LT)(c:CT)(k:Nat)(f:Int):Prop:=(f = -1∧∀ j,j < k→ownB l c (gt l.2.2.2.1 j)=false) ∨
 ∃ i:Nat,i < k∧f=(i:Int)∧ownB l c (gt l.2.2.2.1 i)=true∧∀ j,j < k→ownB l c (gt l.2.2.2.1 j)=true→(gt l.2.2.2.1 i).1≤(gt l.2.2.2.1 j).1
theorem FirstK.skip {l:LT}{c:CT}{k:Nat}{f:Int}(h:FirstK l c k f)(ho:ownB l c (gt l.2.2.2.1 k)=false):FirstK l c (k+1) f:=by
 rcases h with⟨rfl,h⟩ | ⟨i,hi,rfl,h1,h2⟩
 ·refine .inl ⟨rfl,fun j hj=>?_⟩
  by_cases e:j=k
  ·rw[e]; exact ho
  ·exact h j (by omega)
 ·refine .inr ⟨i,by omega,rfl,h1,fun j hj q=>?_⟩
  by_cases e:j=k
  ·rw[e,ho]at q; cases q
  ·exact h2 j (by omega) q
theorem FirstK.take {l:LT}{c:CT}{k:Nat}{f:Int}(h:FirstK l c k f)(ho:ownB l c (gt l.2.2.2.1 k)=true)(hf:f < 0∨∃ i:Nat,f=(i:Int)∧(gt l.2.2.2.1 k).1 < (gt l.2.2.2.1 i).1):FirstK l c (k+1) (k:Int):=by
 refine .inr ⟨k,by omega,rfl,ho,fun j hj q=>?_⟩
 by_cases e:j=k
 ·rw[e]; omega
 ·rcases h with⟨rfl,h⟩ | ⟨i,hi,rfl,h1,h2⟩
  ·rw[h j (by omega)]at q; cases q
  ·have:=h2 j (by omega) q
   rcases hf with hf | ⟨i',e',hf⟩
   ·omega
   ·obtain rfl:i=i':=by omega
    omega
theorem FirstK.stay {l:LT}{c:CT}{k i:Nat}(h:FirstK l c k (i:Int))(hf:¬ (gt l.2.2.2.1 k).1 < (gt l.2.2.2.1 i).1):FirstK l c (k+1) (i:Int):=by
 rcases h with⟨e,_⟩ | ⟨i',hi,e,h1,h2⟩
 ·omega
 ·obtain rfl:i=i':=by omega
  refine .inr ⟨i,by omega,rfl,h1,fun j hj q=>?_⟩
  by_cases e:j=k
  ·rw[e]; omega
  ·exact h2 j (by omega) q
def OpenK (l:LT)(c:CT)(s:VT)(k:Nat)(o:Bool):Prop:=o=true↔∃ j,j < k∧ownB l c (gt l.2.2.2.1 j)=true∧opB s.2.1 (gt l.2.2.2.1 j)=true
theorem OpenK.skip {l:LT}{c:CT}{s:VT}{k:Nat}{o:Bool}(h:OpenK l c s k o)(ho:ownB l c (gt l.2.2.2.1 k)=false):OpenK l c s (k+1) o:=by
 unfold OpenK at *
 rw[h]
 constructor
 ·rintro⟨j,h1,h2⟩; exact⟨j,by omega,h2⟩
 ·rintro⟨j,h1,h2,h3⟩
  by_cases e:j=k
  ·rw[e,ho]at h2; cases h2
  ·exact⟨j,by omega,h2,h3⟩
theorem OpenK.more {l:LT}{c:CT}{s:VT}{k:Nat}{o:Bool}(h:OpenK l c s k o)(ho:ownB l c (gt l.2.2.2.1 k)=true):OpenK l c s (k+1) (o||opB s.2.1 (gt l.2.2.2.1 k)):=by
 unfold OpenK at *
 rw[Bool.or_eq_true,h]
 constructor
 ·rintro(⟨j,h1,h2⟩ | h')
  ·exact⟨j,by omega,h2⟩
  ·exact⟨k,by omega,ho,h'⟩
 ·rintro⟨j,h1,h2,h3⟩
  by_cases e:j=k
  ·rw[e]at h3; exact .inr h3
  ·exact .inl ⟨j,by omega,h2,h3⟩
theorem L58_0_eq {l:LT}(hz:szL l)(n:Int)(c:CT)(s:VT)(hd:s.2.1.length≤1000):∃ f o,L58_0 (n,-1,false,0,l,c,s)=some (n,f,o,l,c,s)∧FirstK l c l.2.2.2.1.length f∧OpenK l c s l.2.2.2.1.length o:=by
 have zk:=hz.k
 have zr:=hz.r
 have key:∃ y,L58_0 (n,-1,false,0,l,c,s)=some y∧∃ f o,y=(n,f,o,l,c,s)∧FirstK l c l.2.2.2.1.length f∧OpenK l c s l.2.2.2.1.length o:=by
  refine while_inv l.2.2.2.1.length (fun k st=>∃ f o,st=(n,f,o,(k:Int),l,c,s)∧FirstK l c k f∧OpenK l c s k o) _ ⟨-1,false,rfl,.inl ⟨rfl,fun j hj=>by omega⟩,by unfold OpenK; simp⟩ (by omega) ?_ ?_
  ·rintro k st hk ⟨f,o,rfl,hf,ho⟩
   have hkd:=hz.kd _ (gt_mem hk)
   have hown:ownB l c (gt l.2.2.2.1 k)=(decide ((gt l.2.2.2.1 k).2.1=c.1)&&!inB l.2.2.2.2 (gt l.2.2.2.1 k).1):=rfl
   have h59:=P59_eq (l:=l) (k:=gt l.2.2.2.1 k) (c:=c) (s:=s) (by omega) hd (by omega)
   cases hc:decide ((gt l.2.2.2.1 k).2.1=c.1)
   ·rw[hc]at hown
    simp(disch:=omega) only[p58_0,q58_0,ltN,dT,cond_true,inR_nat,chk_t,ix_gt,hc,cond_false,fitK,a1]
    exact⟨_,rfl,f,o,rfl,hf.skip hown,ho.skip hown⟩
   ·cases hr:inB l.2.2.2.2 (gt l.2.2.2.1 k).1
    ·rw[hc,hr]at hown
     have hown':ownB l c (gt l.2.2.2.1 k)=true:=hown
     rw[hown',Bool.and_true]at h59
     have hom:=ho.more hown'
     rcases hf with⟨rfl,hn⟩ | ⟨i,hi,rfl,h1,h2⟩
     ·have hf':FirstK l c k (-1):=.inl ⟨rfl,hn⟩
      have dn:decide ((-1:Int) < 0)=true:=rfl
      cases o
      ·simp(disch:=omega) only[p58_0,q58_0,ltN,dT,cond_true,inR_nat,chk_t,ix_gt,hc,P24_eq,hr,Bool.not_false,bind_some',cond_false,h59,dn,fitK,a1]
       exact⟨_,rfl,_,_,rfl,hf'.take hown' (.inl (by omega)),by simpa using hom⟩
      ·simp(disch:=omega) only[p58_0,q58_0,ltN,dT,cond_true,inR_nat,chk_t,ix_gt,hc,P24_eq,hr,Bool.not_false,bind_some',dn,fitK,a1]
       exact⟨_,rfl,_,_,rfl,hf'.take hown' (.inl (by omega)),by simpa using hom⟩
     ·have hf':FirstK l c k (i:Int):=.inr ⟨i,hi,rfl,h1,h2⟩
      have dn:decide ((i:Int) < 0)=false:=decide_eq_false (by omega)
      by_cases hlt:(gt l.2.2.2.1 k).1 < (gt l.2.2.2.1 i).1
      ·cases o
       ·simp(disch:=omega) only[p58_0,q58_0,ltN,dT,cond_true,inR_nat,chk_t,ix_gt,hc,P24_eq,hr,Bool.not_false,bind_some',cond_false,h59,dn,dT hlt,fitK,a1]
        exact⟨_,rfl,_,_,rfl,hf'.take hown' (.inr ⟨i,rfl,hlt⟩),by simpa using hom⟩
       ·simp(disch:=omega) only[p58_0,q58_0,ltN,dT,cond_true,inR_nat,chk_t,ix_gt,hc,P24_eq,hr,Bool.not_false,bind_some',cond_false,dn,dT hlt,fitK,a1]
        exact⟨_,rfl,_,_,rfl,hf'.take hown' (.inr ⟨i,rfl,hlt⟩),by simpa using hom⟩
      ·cases o
       ·simp(disch:=omega) only[p58_0,q58_0,ltN,dT,cond_true,inR_nat,chk_t,ix_gt,hc,P24_eq,hr,Bool.not_false,bind_some',cond_false,h59,dn,dF hlt,fitK,a1]
        exact⟨_,rfl,_,_,rfl,hf'.stay hlt,by simpa using hom⟩
       ·simp(disch:=omega) only[p58_0,q58_0,ltN,dT,cond_true,inR_nat,chk_t,ix_gt,hc,P24_eq,hr,Bool.not_false,bind_some',cond_false,dn,dF hlt,fitK,a1]
        exact⟨_,rfl,_,_,rfl,hf'.stay hlt,by simpa using hom⟩
    ·rw[hc,hr]at hown
     simp(disch:=omega) only[p58_0,q58_0,ltN,dT,cond_true,inR_nat,chk_t,ix_gt,hc,P24_eq,hr,Bool.not_true,bind_some',cond_false,fitK,a1]
     exact⟨_,rfl,f,o,rfl,hf.skip hown,ho.skip hown⟩
  ·rintro st ⟨f,o,rfl,hf,ho⟩
   simp(disch:=omega) only[p58_0,q58_0,ltN,dF,cond_false]
   exact⟨_,rfl,f,o,rfl,hf,ho⟩
 obtain⟨y,y1,f,o,rfl,y2,y3⟩:=key
 exact⟨f,o,y1,y2,y3⟩
theorem P58_eq {l:LT}(hz:szL l){x y n:Int}{c:CT}{s:VT}(h:AskOk l x y n c s):∃ r,P58 (l,c,s,n)=some r∧WhyR l c s n r:=by
 obtain⟨z1,z2,z3,z4⟩:=ask_sz hz h
 have hok:=lib_ok h.lib
 have zk:=hz.k
 have zd:s.2.1.length≤1000:=by have:=(serv_ok (hok.serv s h.sm).1).2.1; omega
 have hmn:=(comp_ok (hok.comp c h.cm).1).1
 have hm1:=hmn.1
 have hm2:=hmn.2
 have hn1:=h.n.1
 have hn2:=h.n.2
 have f1:fits .i64 (n+c.2.2.2.2.1)=true:=fits_of (by omega) (by omega)
 have f2:fits .i64 (n+c.2.2.2.2.1-1)=true:=fits_of (by omega) (by omega)
 have e54:=P54_eq z1 z2 z3 z4
 by_cases hmiss:missV l c s=[]
 ·have d0:decide ((0:Int) < ((missV l c s).length:Int))=false:=by rw[hmiss]; rfl
  obtain⟨f,o,e0,hf,ho⟩:=L58_0_eq hz n c s zd
  obtain⟨b,b1,b2,b3⟩:=P55_eq hz h.lib (c:=c) h.sm
  have hsh:opens l c s→∃ r,((L58_2 (n,n,c,b)).bind fun y10=>Sum.elim (fun y11=>some (y11.1,y11.2.1)) (fun y12=>chk (fits .i64 (y12.1+y12.2.1.2.2.2.2.1)) (chk (fits .i64 (y12.1+y12.2.1.2.2.2.2.1-1)) (some ((0:Int),y12.1+y12.2.1.2.2.2.2.1-1)))) y10)=some r∧WhyR l c s n r:=fun hop=>by
   generalize hN:n.toNat=N
   have hN':n=(N:Int):=by omega
   generalize hM:c.2.2.2.2.1.toNat=M
   have hM':c.2.2.2.2.1=(M:Int):=by omega
   have hpm:∀ k:Nat,(!(decide (N+k≤9999)&&gt b (N+k)))=false↔openM l c s (n+(k:Int)):=fun k=>by
    rw[show n+(k:Int)=((N+k:Nat):Int)by omega,Bool.not_eq_false',Bool.and_eq_true,decide_eq_true_eq]
    constructor
    ·rintro⟨q1,q2⟩; exact(b3 _ (by omega)).1 q2
    ·intro q
     have:=q.2.1
     exact⟨by omega,(b3 _ (by omega)).2 q⟩
   rcases while_find (step:=fun x=>p58_2 x.1 x.2.1 x.2.2.1 x.2.2.2) M (fun k=>(n,((N+k:Nat):Int),c,b)) (fun k=>!(decide (N+k≤9999)&&gt b (N+k))) (fun k=>.inl (4,((N+k:Nat):Int),c,b)) (.inr (n,c,b)) (fun k hk _=>by
     have d1:decide (((N+k:Nat):Int) < n+c.2.2.2.2.1)=true:=decide_eq_true (by omega)
     have d2:decide ((9999:Int) < ((N+k:Nat):Int))=!decide (N+k≤9999):=by rw[Bool.eq_iff_iff]; simp; omega
     simp only[p58_2,q58_2,f1,chk_t,d1,cond_true,d2]
     by_cases hle:N+k≤9999
     ·simp(disch:=omega) only[dT hle,Bool.not_true,cond_false,inR_nat,chk_t,ix_gt,Bool.true_and,fitK,a1]
      cases gt b (N+k)
      ·rfl
      ·simp(disch:=omega) only[Bool.not_true,cond_false,fitK,chk_t]; rfl
     ·simp only[dF hle,Bool.not_false,cond_true,Bool.false_and]) (fun _=>by
     have d1:decide (((N+M:Nat):Int) < n+c.2.2.2.2.1)=false:=decide_eq_false (by omega)
     simp only[p58_2,q58_2,f1,chk_t,d1,cond_false]) (by omega)with⟨k,hk,h1,h2,h3⟩ | ⟨h1,h2⟩
   ·have e:L58_2 (n,n,c,b)=some (.inl (4,((N+k:Nat):Int),c,b)):=by
     have:(n,n,c,b)=(n,((N+0:Nat):Int),c,b):=by rw[hN']; rfl
     rw[this]; exact h3
    refine⟨(4,((N+k:Nat):Int)),by simp only[e,bind_some',elim_inl],.shut hmiss hop _ (by omega) (by omega) (fun q=>?_) fun i q1 q2=>?_⟩
    ·have:=(hpm k).2 (by rwa [show n+(k:Int)=((N+k:Nat):Int)by omega])
     rw[h1]at this; cases this
    ·have:=(hpm (i-n).toNat).1 (h2 _ (by omega))
     rwa [show n+((i-n).toNat:Int)=i by omega]at this
   ·have e:L58_2 (n,n,c,b)=some (.inr (n,c,b)):=by
     have:(n,n,c,b)=(n,((N+0:Nat):Int),c,b):=by rw[hN']; rfl
     rw[this]; exact h2
    refine⟨_,by simp only[e,bind_some',elim_inr,f1,f2,chk_t],.none hmiss hop fun i q1 q2=>?_⟩
    have:=(hpm (i-n).toNat).1 (h1 _ (by omega))
    rwa [show n+((i-n).toNat:Int)=i by omega]at this
  have hskip:(c.2.2.2.2.2.1=false∨o=true)→L58_1 (n,f,o,0,l,c,s)=some (.inr (n,l,c,s)):=fun hq=>by
   refine while_run 0 (fun _=>(n,f,o,0,l,c,s)) _ (fun i hi=>by omega) ?_ (by omega)
   by_cases hs0:s.2.1.length=0
   ·have d:decide ((0:Int) < (s.2.1.length:Int))=false:=decide_eq_false (by omega)
    simp only[p58_1,q58_1,d,cond_false]
   ·have d:decide ((0:Int) < (s.2.1.length:Int))=true:=decide_eq_true (by omega)
    simp only[p58_1,q58_1,d,cond_true]
    rcases hq with hq | hq
    ·rw[hq]; rfl
    ·rw[hq]; cases c.2.2.2.2.2.1 <;> rfl
  cases hlk:c.2.2.2.2.2.1
  ·obtain⟨r,r1,r2⟩:=hsh (.inl hlk)
   refine⟨r,?_,r2⟩
   simp only[P58,p58,q58,e54,bind_some',d0,cond_false,e0,hlk,hskip (.inl hlk),elim_inr,b1]
   exact r1
  ·rcases hf with⟨rfl,hn⟩ | ⟨i,hi,rfl,h1,h2⟩
   ·refine⟨(2,-1),?_,.key hmiss hlk fun k hk=>by obtain⟨j,hj,rfl⟩:=mem_gt hk; exact hn j hj⟩
    simp only[P58,p58,q58,e54,bind_some',d0,cond_false,e0,hlk,cond_true]
    rfl
   ·have dn:decide ((i:Int) < 0)=false:=decide_eq_false (by omega)
    cases o
    ·have hnone:∀ k'∈l.2.2.2.1,ownB l c k'=true→opB s.2.1 k'=false:=fun k' q1 q2=>by
      obtain⟨j,hj,rfl⟩:=mem_gt q1
      cases hop:opB s.2.1 (gt l.2.2.2.1 j)
      ·rfl
      ·have:=ho.2 ⟨j,hj,q2,hop⟩; cases this
     have hkd:=hz.kd _ (gt_mem hi)
     rcases while_find (step:=fun x=>p58_1 x.1 x.2.1 x.2.2.1 x.2.2.2.1 x.2.2.2.2.1 x.2.2.2.2.2.1 x.2.2.2.2.2.2) s.2.1.length (fun k=>(n,(i:Int),false,(k:Int),l,c,s)) (fun k=>!inB (gt l.2.2.2.1 i).2.2.1 (gt s.2.1 k)) (fun k=>.inl (3,gt s.2.1 k,l,c,s)) (.inr (n,l,c,s)) (fun k hk _=>by
       simp(disch:=omega) only[p58_1,q58_1,ltN,dT,cond_true,hlk,Bool.not_false,inR_nat,chk_t,ix_gt,P24_eq,bind_some',fitK,a1]
       cases inB (gt l.2.2.2.1 i).2.2.1 (gt s.2.1 k) <;> rfl) (fun _=>by simp(disch:=omega) only[p58_1,q58_1,ltN,dF,cond_false]) (by omega)with⟨k,hk,g1,g2,g3⟩ | ⟨g1,g2⟩
     ·have e:L58_1 (n,(i:Int),false,0,l,c,s)=some (.inl (3,gt s.2.1 k,l,c,s)):=g3
      refine⟨(3,gt s.2.1 k),?_,.foreign hmiss hlk (gt l.2.2.2.1 i) (gt_mem hi) h1 (fun k' q1 q2=>by obtain⟨j,hj,rfl⟩:=mem_gt q1; exact h2 j hj q2) hnone k hk (by simpa using g1) fun j hj=>by simpa using g2 j hj⟩
      simp only[P58,p58,q58,e54,bind_some',d0,cond_false,e0,hlk,cond_true,dn,e,elim_inl]
     ·have:opB s.2.1 (gt l.2.2.2.1 i)=true:=by
       unfold opB
       rw[← all_eq,allB_true]
       exact fun j hj=>by simpa using g1 j hj
      rw[hnone _ (gt_mem hi) h1]at this; cases this
    ·obtain⟨j,hj,q1,q2⟩:=ho.1 rfl
     obtain⟨r,r1,r2⟩:=hsh (.inr ⟨_,gt_mem hj,q1,q2⟩)
     refine⟨r,?_,r2⟩
     simp only[P58,p58,q58,e54,bind_some',d0,cond_false,e0,hlk,cond_true,dn,hskip (.inr rfl),elim_inr,b1]
     exact r1
 ·have hpos:0 < (missV l c s).length:=List.length_pos_iff.2 hmiss
  have d0:decide ((0:Int) < ((missV l c s).length:Int))=true:=decide_eq_true (by omega)
  have i0:inR 0 (missV l c s).length=true:=inR_nat hpos
  have g0:ix (missV l c s) 0=gt (missV l c s) 0:=ix_gt _ 0
  exact⟨_,by simp only[P58,p58,q58,e54,bind_some',d0,cond_true,i0,chk_t,g0],.file hmiss⟩
end Go.Proofs.YtdacabdocbhkdaaGreat.D
