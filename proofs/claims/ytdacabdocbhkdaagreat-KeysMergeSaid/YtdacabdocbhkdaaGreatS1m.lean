/- Cut down from a longer text. -/
import Derived.Test.YtdacabdocbhkdaaGreatG16m
import Derived.Test.YtdacabdocbhkdaaGreatB3
set_option linter.unusedVariables false
set_option linter.unusedSimpArgs false
namespace Go.Proofs.YtdacabdocbhkdaaGreat.D
open Go Go.Proofs L
abbrev AT:=Int×Int
abbrev CT:=Int×Int×Int×Int×Int×Bool×List Int
abbrev VT:=Int×List Int×List (Int×Int)
abbrev KT:=Int×Int×List Int×Int×Int
abbrev LT:=List (Int×Int) ×List (Int×Int×Int×Int×Int×Bool×List Int)×List (Int×List Int×List (Int×Int))×List (Int×Int×List Int×Int×Int)×List Int
structure szL (l:LT):Prop where
 a:l.1.length≤100
 c:l.2.1.length≤100
 s:l.2.2.1.length≤100
 k:l.2.2.2.1.length≤100
 r:l.2.2.2.2.length≤100
 ca:∀ c∈l.2.1,c.2.2.2.2.2.2.length≤100
 sd:∀ s∈l.2.2.1,s.2.1.length≤100
 sf:∀ s∈l.2.2.1,s.2.2.length≤100
 kd:∀ k∈l.2.2.2.1,k.2.2.1.length≤100
def ascB (l:List Int):Bool:=allB l.length fun i=>wi (gt l i) 0 99&&(decide (i=0)||decide (gt l (i-1) < gt l i))
def hasA (l:List AT)(a:Int):Bool:=l.any fun x=>decide (x.1=a)
def lenB (n:Nat)(m:Nat):Bool:=decide (n≤m)
def filesB (l:List AT):Bool:=apB l.length (fun i=>(gt l i).1) (fun i=>wi (gt l i).2 0 999)
def compR (A:List AT)(c:CT):Bool:=wi c.2.1 0 99&&(wi c.2.2.1 0 9&&(wi c.2.2.2.1 0 9&&(wi c.2.2.2.2.1 1 400&&(lenB 1 c.2.2.2.2.2.2.length&&(ascB c.2.2.2.2.2.2&&!(c.2.2.2.2.2.2.any fun a=>!hasA A a))))))
def servR (s:VT):Bool:=lenB 1 s.2.1.length&&((ascB s.2.1&&lenB s.2.1.length 6)&&(lenB s.2.2.length 20&&filesB s.2.2))
def keyB (k:KT):Bool:=wi k.1 0 99&&(wi k.2.1 0 99&&((ascB k.2.2.1&&lenB k.2.2.1.length 12)&&(wi k.2.2.2.1 0 k.2.2.2.2&&decide (k.2.2.2.2≤9999))))
def sizB (l:LT):Bool:=lenB l.1.length 12&&(lenB l.2.1.length 8&&(lenB l.2.2.1.length 6&&(lenB l.2.2.2.1.length 20&&lenB l.2.2.2.2.length 20)))
def libB (l:LT):Bool:=sizB l&&((l.2.2.2.1.all keyB&&l.2.2.2.2.all fun r=>wi r 0 99)&&(filesB l.1&&(apB l.2.1.length (fun i=>(gt l.2.1 i).1) (fun i=>compR l.1 (gt l.2.1 i))&&apB l.2.2.1.length (fun i=>(gt l.2.2.1 i).1) (fun i=>servR (gt l.2.2.1 i)))))
theorem lenN (n m:Nat):decide ((n:Int)≤(m:Int))=lenB n m:=leN n m
theorem gtN (n m:Nat):decide ((m:Int) < (n:Int))=!lenB n m:=by rw[ltN]; unfold lenB; rw[Bool.eq_iff_iff]; simp
theorem gt12 (n:Nat):decide ((12:Int) < (n:Int))=!lenB n 12:=gtN n 12
theorem gt8 (n:Nat):decide ((8:Int) < (n:Int))=!lenB n 8:=gtN n 8
theorem gt6 (n:Nat):decide ((6:Int) < (n:Int))=!lenB n 6:=gtN n 6
theorem gt20 (n:Nat):decide ((20:Int) < (n:Int))=!lenB n 20:=gtN n 20
theorem le12 (n:Nat):decide ((n:Int)≤(12:Int))=lenB n 12:=lenN n 12
theorem le6 (n:Nat):decide ((n:Int)≤(6:Int))=lenB n 6:=lenN n 6
theorem le20 (n:Nat):decide ((n:Int)≤(20:Int))=lenB n 20:=lenN n 20
theorem lt0 (n:Nat):decide ((0:Int) < (n:Int))=lenB 1 n:=by unfold lenB; rw[Bool.eq_iff_iff]; simp only[decide_eq_true_eq]; omega
theorem ascB_pw {l:List Int}(h:ascB l=true):l.Pairwise (· < ·):=by
 have key:∀ d i,i+d+1 < l.length→gt l i < gt l (i+d+1):=by
  intro d
  induction d with
  | zero=>
   intro i hi
   have:=allB_true.1 h (i+1) (by omega)
   simp at this; simpa using this.2
  | succ d ih=>
   intro i hi
   have a:=ih i (by omega)
   have:=allB_true.1 h (i+(d+1)+1) (by omega)
   simp at this
   have b:=this.2
   rw[show i+(d+1)=i+d+1 by omega]at b ⊢
   omega
 rw[List.pairwise_iff_getElem]
 intro i j hi hj hij
 have:=key (j-i-1) i (by omega)
 rw[show i+(j-i-1)+1=j by omega,gt_lt hi,gt_lt hj]at this
 exact this
theorem P63_eq (n a b:Int):P63 (n,a,b)=some (wi n a b):=wi_cond n a b
theorem P62_eq (n:Int):P62 n=some (wi n 0 99):=by simp only[P62,p62,q62,P63_eq,bind_some']
theorem P93_eq {l:List Int}(m:Int)(hl:l.length≤1000):P93 (l,m)=some (ascB l&&decide ((l.length:Int)≤m)):=by
 have e:L93_0 (l,m,l,(l.length:Int),0)=some (cond (ascB l) (.inr (l,m)) (.inl false)):=
  while_all l.length (fun k=>(l,m,l,(l.length:Int),(k:Int))) (fun i=>wi (gt l i) 0 99&&(decide (i=0)||decide (gt l (i-1) < gt l i))) _ _ (fun k hk=>by
   simp(disch:=omega) only[p93_0,q93_0,ltN,dT,cond_true,inR_nat,chk_t,ix_gt,P62_eq,bind_some',fitK,a1]
   cases wi (gt l k) 0 99
   ·rfl
   ·cases k with
    | zero=>rfl
    | succ k=>
     have g:decide ((0:Int) < ((k+1:Nat):Int))=true:=decide_eq_true (by omega)
     have g2:decide (gt l (k+1)≤gt l k)=!decide (gt l k < gt l (k+1)):=by rw[Bool.eq_iff_iff]; simp
     simp(disch:=omega) only[g,Bool.not_true,cond_false,cond_true,p1,fitK,chk_t,Nat.add_sub_cancel,inR_nat,ix_gt,g2]
     cases decide (gt l k < gt l (k+1)) <;> rfl) (by simp(disch:=omega) only[p93_0,q93_0,ltN,dF,cond_false]) (by omega)
 simp only[P93,p93,q93,e,bind_some']
 cases ascB l <;> rfl
theorem P96_eq (a:AT):P96 a=some (a.1,wi a.2 0 999):=by simp only[P96,p96,q96,P63_eq,bind_some']
theorem P95_eq {l:List AT}(hl:l.length≤1000):P95 l=some (apB l.length (fun i=>(gt l i).1) (fun i=>wi (gt l i).2 0 999)):=by
 obtain⟨r,r1,r2⟩:=while_allv (step:=fun x=>p95_0 x.1 x.2.1 x.2.2.1 x.2.2.2) l.length (fun k=>(l,(l.length:Int),(k:Int),seenN (fun i=>(gt l i).1) k)) (fun i=>(allB i fun k=>!decide ((fun i=>(gt l i).1) k=(fun i=>(gt l i).1) i))&&(wi (gt l i).2 0 999&&wi ((gt l i).1) 0 99)) (fun k=>.inl (false,seenN (fun i=>(gt l i).1) (k+1))) (.inr (seenN (fun i=>(gt l i).1) l.length))
  (fun k hk hp=>by
   have sg:=seen_get (fun i=>(gt l i).1) k (fun i hi=>(Bool.and_eq_true_iff.1 (hp i hi)).1) ((gt l k).1)
   have hs:seenN (fun i=>(gt l i).1) (k+1)=kput (seenN (fun i=>(gt l i).1) k) [(gt l k).1] (dof (kget (seenN (fun i=>(gt l i).1) k) [(gt l k).1]) 0+1):=rfl
   rw[hs]
   simp(disch:=omega) only[p95_0,q95_0,ltN,dT,cond_true,inR_nat,chk_t,ix_gt,P96_eq,bind_some',dof_kput,if_true,P62_eq,fitK,a1,sg]
   cases allB k fun j=>!decide ((gt l j).1=(gt l k).1)
   ·rfl
   ·cases hr:wi (gt l k).2 0 999
    ·rfl
    ·cases wi ((gt l k).1) 0 99 <;> rfl)
  (fun _=>by simp(disch:=omega) only[p95_0,q95_0,ltN,dF,cond_false]) (by omega) (fun y=>Sum.elim (fun y=>some y.1) (fun _=>some true) y) (fun b=>some b) (fun _=>rfl) rfl
 have e:L95_0 (l,(l.length:Int),0,[])=some r:=r1
 simp only[P95,p95,q95,e,bind_some']
 exact r2
theorem P123_eq {l:List AT}(a:Int)(hl:l.length≤1000):P123 (l,a)=some (fix l fun x=>decide (x.1=a)):=by
 obtain⟨r,r1,r2⟩:=while_fix (step:=fun x=>p123_0 x.1 x.2.1 x.2.2.1 x.2.2.2) l (fun k=>(l,a,(l.length:Int),(k:Int))) (fun x=>decide (x.1=a)) (fun k=>.inl (k:Int)) (.inr ())
  (fun k hk _=>by
   simp(disch:=omega) only[p123_0,q123_0,ltN,dT,cond_true,inR_nat,chk_t,ix_gt,P90,p90,q90,bind_some',fitK,a1]
   cases decide ((gt l k).1=a) <;> rfl) (by simp(disch:=omega) only[p123_0,q123_0,ltN,dF,cond_false]) (by omega) (fun y=>Sum.elim (fun y=>some y) (fun _=>some (-1)) y) (fun z=>some z) (fun _ _ _=>rfl) rfl
 have e:L123_0 (l,a,(l.length:Int),0)=some r:=r1
 simp only[P123,p123,q123,e,bind_some']
 exact r2
theorem P88_eq (a:Int){l:LT}(hl:l.1.length≤1000):P88 (a,l)=some (hasA l.1 a):=by
 simp only[P88,p88,q88,P89,p89,q89,P123_eq a hl,bind_some',fix_any,hasA]
theorem P91_eq {xs:List Int}{l:LT}(hl:l.1.length≤1000)(ha:xs.length≤1000):P91 (xs,l)=some (xs.any (fun a=>!hasA l.1 a),l):=by
 have key:P80 (xs,l)=some (fix xs (fun a=>!hasA l.1 a),l):=by
  obtain⟨r,r1,r2⟩:=while_fix (step:=fun x=>p80_0 x.1 x.2.1 x.2.2.1 x.2.2.2) xs (fun k=>(xs,(xs.length:Int),(k:Int),l)) (fun a=>!hasA l.1 a) (fun k=>.inl ((k:Int),l)) (.inr l)
   (fun k hk _=>by
    simp(disch:=omega) only[p80_0,q80_0,ltN,dT,cond_true,inR_nat,chk_t,ix_gt,P92,p92,q92,P88_eq,hl,bind_some',fitK,a1]
    cases hasA l.1 (gt xs k) <;> rfl) (by simp(disch:=omega) only[p80_0,q80_0,ltN,dF,cond_false]) (by omega) (fun y=>Sum.elim (fun y=>some (y.1,y.2)) (fun y=>some (-1,y)) y) (fun z=>some (z,l)) (fun _ _ _=>rfl) rfl
  have e:L80_0 (xs,(xs.length:Int),0,l)=some r:=r1
  simp only[P80,p80,q80,e,bind_some']
  exact r2
 simp only[P91,p91,q91,key,bind_some',fix_any]
theorem asc_len:∀ (n:Nat)(A:List AT)(l:List Int) ,A.length=n→l.Pairwise (· < ·)→(∀ a∈l,hasA A a=true)→l.length≤n
 | _,A,[],_,_,_=>by simp
 | 0,[],a::l,_,_,h=>by have:=h a (by simp); simp[hasA]at this
 | n+1,A,a::l,hA,hp,h=>by
  rw[List.pairwise_cons]at hp
  have ha:=h a (by simp)
  obtain⟨x,hx,e⟩:=List.any_eq_true.1 ha
  obtain⟨A1,A2,rfl⟩:=List.append_of_mem hx
  simp only[decide_eq_true_eq]at e
  have:=asc_len n (A1++A2) l (by simp at hA ⊢; omega) hp.2 fun b hb=>by
   obtain⟨y,hy,e'⟩:=List.any_eq_true.1 (h b (by simp[hb]))
   refine List.any_eq_true.2 ⟨y,?_,e'⟩
   simp only[decide_eq_true_eq]at e'
   have:=hp.1 b hb
   rw[List.mem_append,List.mem_cons]at hy
   rcases hy with hy | rfl | hy
   ·simp[hy]
   ·omega
   ·simp[hy]
  simp only[List.length_cons]; omega
theorem comp12 {A:List AT}{c:List Int}(hA:A.length≤12):(lenB 1 c.length&&((ascB c&&lenB c.length 12)&&!(c.any fun a=>!hasA A a)))=(lenB 1 c.length&&(ascB c&&!(c.any fun a=>!hasA A a))):=by
 cases h1:ascB c
 ·rfl
 ·cases h2:c.any fun a=>!hasA A a
  ·have hh:∀ a∈c,hasA A a=true:=fun a ha=>by
    have:=List.any_eq_false.1 h2 a ha
    simpa using this
   have:=asc_len A.length A c rfl (ascB_pw h1) hh
   rw[show lenB c.length 12=true from decide_eq_true (by omega)]
   cases lenB 1 c.length <;> rfl
  ·simp
theorem P87_eq (c:CT){l:LT}(hl:l.1.length≤12)(hc:c.2.2.2.2.2.2.length≤1000):P87 (c,l)=some (c.1,compR l.1 c):=by
 have h12:=comp12 (c:=c.2.2.2.2.2.2) hl
 unfold compR
 rw[← h12]
 simp only[P87,p87,q87,P62_eq,P63_eq,bind_some',P91_eq (show l.1.length≤1000 by omega) hc,P93_eq 12 hc,le12,lt0]
 cases wi c.2.1 0 99
 ·rfl
 cases wi c.2.2.1 0 9
 ·rfl
 cases wi c.2.2.2.1 0 9
 ·rfl
 cases wi c.2.2.2.2.1 1 400
 ·rfl
 cases lenB 1 c.2.2.2.2.2.2.length
 ·rfl
 cases(ascB c.2.2.2.2.2.2&&lenB c.2.2.2.2.2.2.length 12)
 ·rfl
 cases c.2.2.2.2.2.2.any fun a=>!hasA l.1 a <;> rfl
theorem P97_eq {l:List CT}{L:LT}(hL:L.1.length≤12)(hc:∀ c∈l,c.2.2.2.2.2.2.length≤100)(hl:l.length≤1000):P97 (l,L)=some (apB l.length (fun i=>(gt l i).1) (fun i=>compR L.1 (gt l i))):=by
 obtain⟨r,r1,r2⟩:=while_allv (step:=fun x=>p97_0 x.1 x.2.1 x.2.2.1 x.2.2.2.1 x.2.2.2.2) l.length (fun k=>(L,l,(l.length:Int),(k:Int),seenN (fun i=>(gt l i).1) k)) (fun i=>(allB i fun k=>!decide ((fun i=>(gt l i).1) k=(fun i=>(gt l i).1) i))&&(compR L.1 (gt l i)&&wi ((gt l i).1) 0 99)) (fun k=>.inl (false,seenN (fun i=>(gt l i).1) (k+1))) (.inr (seenN (fun i=>(gt l i).1) l.length))
  (fun k hk hp=>by
   have sg:=seen_get (fun i=>(gt l i).1) k (fun i hi=>(Bool.and_eq_true_iff.1 (hp i hi)).1) ((gt l k).1)
   have hs:seenN (fun i=>(gt l i).1) (k+1)=kput (seenN (fun i=>(gt l i).1) k) [(gt l k).1] (dof (kget (seenN (fun i=>(gt l i).1) k) [(gt l k).1]) 0+1):=rfl
   rw[hs]
   simp(disch:=omega) only[p97_0,q97_0,ltN,dT,cond_true,inR_nat,chk_t,ix_gt,P87_eq (gt l k) hL (show(gt l k).2.2.2.2.2.2.length≤1000 from Nat.le_trans (hc _ (gt_mem hk)) (by omega)),bind_some',dof_kput,if_true,P62_eq,fitK,a1,sg]
   cases allB k fun j=>!decide ((gt l j).1=(gt l k).1)
   ·rfl
   ·cases hr:compR L.1 (gt l k)
    ·rfl
    ·cases wi ((gt l k).1) 0 99 <;> rfl)
  (fun _=>by simp(disch:=omega) only[p97_0,q97_0,ltN,dF,cond_false]) (by omega) (fun y=>Sum.elim (fun y=>some y.1) (fun _=>some true) y) (fun b=>some b) (fun _=>rfl) rfl
 have e:L97_0 (L,l,(l.length:Int),0,[])=some r:=r1
 simp only[P97,p97,q97,e,bind_some']
 exact r2
theorem P94_eq (s:VT)(h1:s.2.1.length≤100)(h2:s.2.2.length≤100):P94 s=some (s.1,servR s):=by
 simp(disch:=omega) only[P94,p94,q94,P93_eq,P95_eq,bind_some',lt0,le6,le20,servR,filesB]
 cases lenB 1 s.2.1.length
 ·rfl
 cases(ascB s.2.1&&lenB s.2.1.length 6)
 ·rfl
 cases lenB s.2.2.length 20 <;> rfl
theorem P98_eq {l:List VT}(h1:∀ s∈l,s.2.1.length≤100)(h2:∀ s∈l,s.2.2.length≤100)(hl:l.length≤1000):P98 l=some (apB l.length (fun i=>(gt l i).1) (fun i=>servR (gt l i))):=by
 obtain⟨r,r1,r2⟩:=while_allv (step:=fun x=>p98_0 x.1 x.2.1 x.2.2.1 x.2.2.2) l.length (fun k=>(l,(l.length:Int),(k:Int),seenN (fun i=>(gt l i).1) k)) (fun i=>(allB i fun k=>!decide ((fun i=>(gt l i).1) k=(fun i=>(gt l i).1) i))&&(servR (gt l i)&&wi ((gt l i).1) 0 99)) (fun k=>.inl (false,seenN (fun i=>(gt l i).1) (k+1))) (.inr (seenN (fun i=>(gt l i).1) l.length))
  (fun k hk hp=>by
   have sg:=seen_get (fun i=>(gt l i).1) k (fun i hi=>(Bool.and_eq_true_iff.1 (hp i hi)).1) ((gt l k).1)
   have hs:seenN (fun i=>(gt l i).1) (k+1)=kput (seenN (fun i=>(gt l i).1) k) [(gt l k).1] (dof (kget (seenN (fun i=>(gt l i).1) k) [(gt l k).1]) 0+1):=rfl
   rw[hs]
   simp(disch:=omega) only[p98_0,q98_0,ltN,dT,cond_true,inR_nat,chk_t,ix_gt,P94_eq (gt l k) (h1 _ (gt_mem hk)) (h2 _ (gt_mem hk)),bind_some',dof_kput,if_true,P62_eq,fitK,a1,sg]
   cases allB k fun j=>!decide ((gt l j).1=(gt l k).1)
   ·rfl
   ·cases hr:servR (gt l k)
    ·rfl
    ·cases wi ((gt l k).1) 0 99 <;> rfl)
  (fun _=>by simp(disch:=omega) only[p98_0,q98_0,ltN,dF,cond_false]) (by omega) (fun y=>Sum.elim (fun y=>some y.1) (fun _=>some true) y) (fun b=>some b) (fun _=>rfl) rfl
 have e:L98_0 (l,(l.length:Int),0,[])=some r:=r1
 simp only[P98,p98,q98,e,bind_some']
 exact r2
theorem P50_eq (l:LT)(hz:szL l):P50 l=some (libB l):=by
 have e0:L50_0 (l.2.2.2.1,(l.2.2.2.1.length:Int),0,l)=some (cond (l.2.2.2.1.all keyB) (.inr l) (.inl (false,l))):=by
  have:=hz.k
  rw[← all_eq]
  refine while_all l.2.2.2.1.length (fun k=>(l.2.2.2.1,(l.2.2.2.1.length:Int),(k:Int),l)) (fun i=>keyB (gt l.2.2.2.1 i)) _ _ (fun k hk=>?_) (by simp(disch:=omega) only[p50_0,q50_0,ltN,dF,cond_false]) (by omega)
  have hd:=hz.kd _ (gt_mem hk)
  have g:decide (9999 < (gt l.2.2.2.1 k).2.2.2.2)=!decide ((gt l.2.2.2.1 k).2.2.2.2≤9999):=by rw[Bool.eq_iff_iff]; simp
  simp(disch:=omega) only[p50_0,q50_0,ltN,dT,cond_true,inR_nat,chk_t,ix_gt,P62_eq,P93_eq,P63_eq,bind_some',le12,fitK,a1,g,keyB]
  cases wi (gt l.2.2.2.1 k).1 0 99
  ·rfl
  cases wi (gt l.2.2.2.1 k).2.1 0 99
  ·rfl
  cases(ascB (gt l.2.2.2.1 k).2.2.1&&lenB (gt l.2.2.2.1 k).2.2.1.length 12)
  ·rfl
  cases wi (gt l.2.2.2.1 k).2.2.2.1 0 (gt l.2.2.2.1 k).2.2.2.2
  ·rfl
  cases decide ((gt l.2.2.2.1 k).2.2.2.2≤9999) <;> rfl
 have e1:L50_1 (l.2.2.2.2,(l.2.2.2.2.length:Int),0,l)=some (cond (l.2.2.2.2.all fun r=>wi r 0 99) (.inr l) (.inl (false,l))):=by
  have:=hz.r
  rw[← all_eq]
  refine while_all l.2.2.2.2.length (fun k=>(l.2.2.2.2,(l.2.2.2.2.length:Int),(k:Int),l)) (fun i=>wi (gt l.2.2.2.2 i) 0 99) _ _ (fun k hk=>?_) (by simp(disch:=omega) only[p50_1,q50_1,ltN,dF,cond_false]) (by omega)
  simp(disch:=omega) only[p50_1,q50_1,ltN,dT,cond_true,inR_nat,chk_t,ix_gt,P62_eq,bind_some',fitK,a1]
  cases wi (gt l.2.2.2.2 k) 0 99 <;> rfl
 unfold libB sizB
 simp only[P50,p50,q50,e0,bind_some',gt12,gt8,gt6,gt20]
 cases h12:lenB l.1.length 12
 ·rfl
 have h12':l.1.length≤12:=of_decide_eq_true h12
 cases lenB l.2.1.length 8
 ·rfl
 cases lenB l.2.2.1.length 6
 ·rfl
 cases lenB l.2.2.2.1.length 20
 ·rfl
 cases lenB l.2.2.2.2.length 20
 ·rfl
 cases l.2.2.2.1.all keyB
 ·rfl
 simp only[Bool.not_true,cond_false,cond_true,elim_inr,e1,bind_some']
 cases l.2.2.2.2.all fun r=>wi r 0 99
 ·rfl
 have za:=hz.a
 have zc:=hz.c
 have zs:=hz.s
 simp only[cond_true,elim_inr,P95_eq (show l.1.length≤1000 by omega),P97_eq h12' hz.ca (show l.2.1.length≤1000 by omega),P98_eq hz.sd hz.sf (show l.2.2.1.length≤1000 by omega),bind_some',filesB]
 cases apB l.1.length (fun i=>(gt l.1 i).1) fun i=>wi (gt l.1 i).2 0 999
 ·rfl
 cases apB l.2.1.length (fun i=>(gt l.2.1 i).1) fun i=>compR l.1 (gt l.2.1 i) <;> rfl
end Go.Proofs.YtdacabdocbhkdaaGreat.D
