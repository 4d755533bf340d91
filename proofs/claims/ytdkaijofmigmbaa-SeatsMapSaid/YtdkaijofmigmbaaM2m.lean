/- Cut down from longer texts. -/
import Derived.Test.YtdkaijofmigmbaaM1m
import Derived.Test.YtdkaijofmigmbaaB3m
set_option linter.unusedVariables false
set_option linter.unusedSimpArgs false
set_option linter.unusedSectionVars false
namespace Go.Proofs.Ytdkaijofmigmbaa.D
open Go Go.Proofs Go.Proofs.Ytdkaijofmigmbaa.L
theorem tN (a b:List Int)(ha:a.length≤1000000):P20 (a,b)=some (decide (a=b)):=by
 show q20 Ag a b=_
 unfold q20
 by_cases hn:a.length=b.length
 ·rw[show decide ((↑(List.length a):Int)=(↑(List.length b):Int))=true from decide_eq_true (by omega),Bool.not_true,cond_false]
  have e:Ag (a,b,0)=some (cond (eA a.length (fun k=>decide (gt a k=gt b k))) (Sum.inr ()) (Sum.inl false)):=by
   refine fB (step:=fun x=>MW x.1 x.2.1 x.2.2) a.length (fun k=>(a,b,(k:Int))) (fun k=>decide (gt a k=gt b k)) _ _ (fun k hk=>?_) ?_ (by omega)
   ·show rK a b (k:Int)=_
    unfold rK
    rw[show decide ((k:Int) < (↑(List.length a):Int))=true from aR hk,cond_true,am (aE hk),am (aE (by omega)),bJ,bJ]
    cases decide (gt a k=gt b k)with
    | false=>rfl
    | true=>rw[Bool.not_true,cond_false,am (aM (by omega))]; rfl
   ·show rK a b (a.length:Int)=_
    unfold rK
    rw[show decide ((a.length:Int) < (↑(List.length a):Int))=false from aZ _,cond_false]
  rw[e]
  have q:eA a.length (fun k=>decide (gt a k=gt b k))=decide (a=b):=by
   rw[Bool.eq_iff_iff,cN,decide_eq_true_eq]
   constructor
   ·intro h; exact gr hn fun i hi=>of_decide_eq_true (h i hi)
   ·rintro rfl k hk; exact decide_eq_true rfl
  rw[q]
  cases decide (a=b) <;> rfl
 ·rw[show decide ((↑(List.length a):Int)=(↑(List.length b):Int))=false from decide_eq_false (by omega),Bool.not_false,cond_true,decide_eq_false fun e=>hn (by rw[e])]
theorem SI (a b:List aD)(ha:a.length≤1000000):Oa (a,b)=some (decide (a=b)):=by
 show q31 AJ a b=_
 unfold q31
 by_cases hn:a.length=b.length
 ·rw[show decide ((↑(List.length a):Int)=(↑(List.length b):Int))=true from decide_eq_true (by omega),Bool.not_true,cond_false]
  have e:AJ (a,b,0)=some (cond (eA a.length (fun k=>decide (gt a k=gt b k))) (Sum.inr ()) (Sum.inl false)):=by
   refine fB (step:=fun x=>N9 x.1 x.2.1 x.2.2) a.length (fun k=>(a,b,(k:Int))) (fun k=>decide (gt a k=gt b k)) _ _ (fun k hk=>?_) ?_ (by omega)
   ·show rZ a b (k:Int)=_
    unfold rZ
    rw[show decide ((k:Int) < (↑(List.length a):Int))=true from aR hk,cond_true,am (aE hk),am (aE (by omega)),bJ,bJ,Ol]
    cases decide (gt a k=gt b k)with
    | false=>rfl
    | true=>rw[Bool.not_true,cond_false,am (aM (by omega))]; rfl
   ·show rZ a b (a.length:Int)=_
    unfold rZ
    rw[show decide ((a.length:Int) < (↑(List.length a):Int))=false from aZ _,cond_false]
  rw[e]
  have q:eA a.length (fun k=>decide (gt a k=gt b k))=decide (a=b):=by
   rw[Bool.eq_iff_iff,cN,decide_eq_true_eq]
   constructor
   ·intro h; exact gr hn fun i hi=>of_decide_eq_true (h i hi)
   ·rintro rfl k hk; exact decide_eq_true rfl
  rw[q]
  cases decide (a=b) <;> rfl
 ·rw[show decide ((↑(List.length a):Int)=(↑(List.length b):Int))=false from decide_eq_false (by omega),Bool.not_false,cond_true,decide_eq_false fun e=>hn (by rw[e])]
theorem SJ (a b:List (List Int))(ha:a.length≤1000)(hr:∀ k,k < a.length→(gt a k).length≤1000):xU (a,b)=some (decide (a=b),a,b):=by
 show q19 P20 AG a b=_
 unfold q19
 by_cases hn:a.length=b.length
 ·rw[show decide ((↑(List.length a):Int)=(↑(List.length b):Int))=true from decide_eq_true (by omega),Bool.not_true,cond_false]
  have e:AG (0,a,b)=some (cond (eA a.length (fun k=>decide (gt a k=gt b k))) (Sum.inr (a,b)) (Sum.inl (false,a,b))):=by
   refine fB (step:=fun x=>NY x.1 x.2.1 x.2.2) a.length (fun k=>((k:Int),a,b)) (fun k=>decide (gt a k=gt b k)) _ _ (fun k hk=>?_) ?_ (by omega)
   ·show rX P20 (k:Int) a b=_
    unfold rX
    rw[show decide ((k:Int) < (↑(List.length a):Int))=true from aR hk,cond_true,am (aE hk),am (aE (by omega)),bJ,bJ,tN _ _ (by have:=hr k hk; omega),aa]
    cases decide (gt a k=gt b k)with
    | false=>rfl
    | true=>rw[Bool.not_true,cond_false,am (aM (by omega))]; rfl
   ·show rX P20 (a.length:Int) a b=_
    unfold rX
    rw[show decide ((a.length:Int) < (↑(List.length a):Int))=false from aZ _,cond_false]
  rw[e]
  have q:eA a.length (fun k=>decide (gt a k=gt b k))=decide (a=b):=by
   rw[Bool.eq_iff_iff,cN,decide_eq_true_eq]
   constructor
   ·intro h; exact gr hn fun i hi=>of_decide_eq_true (h i hi)
   ·rintro rfl k hk; exact decide_eq_true rfl
  rw[q]
  cases decide (a=b) <;> rfl
 ·rw[show decide ((↑(List.length a):Int)=(↑(List.length b):Int))=false from decide_eq_false (by omega),Bool.not_false,cond_true,decide_eq_false fun e=>hn (by rw[e])]
def On (v:List Int):List Int:=((List.range 100).map fun n:Nat=>(n:Int)).filter fun n=>decide (n∈v)
theorem Kf {v:List Int}{n:Int}(hv:∀ x∈v,0≤x∧x≤99):n∈On v↔n∈v:=by
 unfold On
 rw[List.mem_filter,decide_eq_true_eq,List.mem_map]
 constructor
 ·exact fun h=>h.2
 ·intro h
  have:=hv n h
  exact⟨⟨n.toNat,List.mem_range.2 (by omega),by omega⟩,h⟩
theorem asc_vnO (v:List Int):(On v).Pairwise (fun a b=>(fun n:Int=>n) a < (fun n:Int=>n) b):=by
 unfold On
 refine List.Pairwise.filter _ ?_
 rw[List.pairwise_map]
 exact List.pairwise_lt_range.imp fun h=>Int.ofNat_lt.2 h
theorem SK (x y:Int):P91 (x,y)=some (decide (x < y)):=by
 show q91 vo x y=_
 unfold q91
 rw[show vo x=some (!decide (x=x))from rfl,aa,qn]
 rfl
theorem sortV {v:List Int}(hv:∀ x∈v,0≤x∧x≤99)(hl:v.length≤250):∃ s,Gk v=some s∧Cp s=some (On v):=by
 obtain⟨s,e1,e2,e3⟩:=Pdq44.srt (fun n=>n) (fun _=>True) 0 trivial (fun x y _ _=>⟨decide (x < y),SK x y,by rw[decide_eq_true_eq]⟩) (l:=v) (fun _ _=>trivial) hl
 refine⟨s,e1,?_⟩
 rw[Sw s (by rw[e2.length_eq]; omega)]
 congr 1
 refine pU (fun n=>n) (ddN_asc (fun n=>n) s e3 (fun a _ b _ h=>h) s.length (Nat.le_refl _)).1 (asc_vnO v) fun x=>?_
 rw[ny,e2.mem_iff,Kf hv]
theorem Cf (x:HM)(c:aD):∀ n∈(fj x c).2.2,n∈x.2.2∨n=c.2.2.2.1:=by
 intro n hn
 unfold fj yb yc mZ at hn
 split at hn
 ·split at hn
  ·split at hn <;> exact .inl hn
  ·exact .inl hn
 ·split at hn
  ·split at hn
   ·exact .inl hn
   ·simpa using hn
  ·split at hn <;> exact .inl hn
theorem AS (hold minute:Int):∀ (l:List aD) (x:HM),(nz hold minute l x).2.2.length≤x.2.2.length+l.length∧((∀ c∈l,bu c)→(∀ n∈x.2.2,0≤n∧n≤99)→∀ n∈(nz hold minute l x).2.2,0≤n∧n≤99)
 | [],x=>⟨Nat.le_refl _,fun _ h=>h⟩
 | c::l,x=>by
  unfold nz
  split
  ·exact⟨by simp,fun _ h=>h⟩
  ·obtain⟨h1,h2⟩:=AS hold minute l (fj (lapM hold c.2.1 x) c)
   have h3:=m4 (lapM hold c.2.1 x) c
   have h4:(lapM hold c.2.1 x).2.2=x.2.2:=rfl
   rw[h4]at h3
   refine⟨by simp only[List.length_cons]; omega,fun hc hx=>h2 (fun d hd=>hc d (by simp[hd])) fun n hn=>?_⟩
   rcases Cf _ _ n hn with q | q
   ·exact hx n q
   ·have:=(hc c (by simp)).2.2.2
    rw[q]; exact this
theorem pV {h:List Int×Int}{l:List aD}(minute:Int)(hl:dK l):(cD h l minute).2.2.length≤40∧∀ n∈(cD h l minute).2.2,0≤n∧n≤99:=by
 obtain⟨e1,e2,e3,e4⟩:=lR (l:=l) (by have:=hl.1; omega) hl.2.1 hl.2.2
 obtain⟨h1,h2⟩:=AS h.2 minute (hrd l) (Hs h.1)
 have h3:=hl.1
 have h4:(Hs h.1).2.2.length=0:=rfl
 have h5:(cD h l minute).2.2=(nz h.2 minute (hrd l) (Hs h.1)).2.2:=rfl
 rw[h5]
 exact⟨by omega,h2 (tI hl).1 (by simp[Hs])⟩
noncomputable def Cg (h:List Int×Int)(l:List aD)(minute order:Int):nZ×Int:=if fe h l minute order 1=0 then(prO ((cD h l minute).2.1 order),0)else((0,0,0,0),fe h l minute order 1)
noncomputable def vV (h:List Int×Int)(l:List aD)(minute:Int):Int×List (List Int):=if fe h l minute 0 1=0 then(0,(cD h l minute).1)else(fe h l minute 0 1,[])
noncomputable def nA (h:List Int×Int)(l:List aD)(minute:Int):Int×List Int:=if fe h l minute 0 1=0 then(0,On (cD h l minute).2.2)else(fe h l minute 0 1,[])
noncomputable def AT (h:List Int×Int)(l:List aD)(minute size:Int):Int×Int×Int:=if fe h l minute 0 size=0 then(match bO (cD h l minute).1 size.toNat with
  | some c=>((c.1:Int),(c.2:Int),0)
  | none=>(0,0,3))else(0,0,fe h l minute 0 size)
theorem lV {α β:Type}(k:β→Option α)(n:Option α):Kv none k n=n:=rfl
theorem lW {α β:Type}(x:β)(k:β→Option α)(n:Option α):Kv (some x) k n=k x:=rfl
section
variable {h:List Int×Int} {l:List aD} (minute:Int) (hh:h.1.length≤1000) (hl:l.length≤1000)
include hh hl
theorem G6 (order:Int):P15 (h,l,minute,order)=some (Cg h l minute order):=by
 show q15 pJ P42v1 nN h l minute order=_
 unfold q15 Cg
 try unfold GB
 try unfold GA
 try unfold Cv
 try unfold Cu
 try unfold x7
 try unfold pd
 rw[tM h l minute order 1 hh hl]
 by_cases h0:fe h l minute order 1=0
 ·obtain⟨pool,e1,e2⟩:=lU h0
  rw[if_pos h0,lV,e1,aa,if_pos h0]
  simp only[decide_true,Bool.not_true,cond_false,pR,aa,tG e2]
  rfl
 ·rw[if_neg h0,lW,if_neg h0,decide_eq_false h0]
  rfl
theorem SL:lb (h,l,minute)=some (vV h l minute):=by
 show q17 pJ P42v1 h l minute=_
 unfold q17 vV
 rw[tM h l minute 0 1 hh hl]
 by_cases h0:fe h l minute 0 1=0
 ·obtain⟨pool,e1,e2⟩:=lU h0
  rw[if_pos h0,lV,e1,aa,if_pos h0]
  rfl
 ·rw[if_neg h0,lW,if_neg h0,decide_eq_false h0]
  rfl
theorem G7:P16 (h,l,minute)=some (nA h l minute):=by
 show q16 pJ P42v1 Gk Cp h l minute=_
 unfold q16 nA
 rw[tM h l minute 0 1 hh hl]
 by_cases h0:fe h l minute 0 1=0
 ·obtain⟨pool,e1,e2⟩:=lU h0
  obtain⟨v1,v2⟩:=pV (h:=h) minute (gi.1 h0).1.2
  obtain⟨s,s1,s2⟩:=sortV v2 (by omega)
  rw[if_pos h0,lV,e1,aa,if_pos h0]
  simp only[decide_true,Bool.not_true,cond_false,s1,s2,aa]
 ·rw[if_neg h0,lW,if_neg h0,decide_eq_false h0]
  rfl
theorem SM (size:Int):P21 (h,l,minute,size)=some (AT h l minute size):=by
 show q21 pJ P42v1 qy h l minute size=_
 unfold q21 AT
 rw[tM h l minute 0 size hh hl]
 by_cases h0:fe h l minute 0 size=0
 ·obtain⟨⟨c1,c2⟩,c3,c4,c5⟩:=gi.1 h0
  obtain⟨pool,e1,e2⟩:=lU h0
  have hI:=IM.after (h:=h) c2 minute
  have hlen:=hI.len
  have hsl:=lS c1
  obtain⟨sz,rfl⟩:∃ sz:Nat,size=(sz:Int):=⟨size.toNat,by omega⟩
  rw[if_pos h0,lV,e1,aa,if_pos h0]
  simp only[decide_true,Bool.not_true,cond_false,Int.toNat_natCast]
  rw[yl (fun r hr=>by have:=hI.row (jV c1) hr; omega) (by omega) (by omega),aa,vO]
  cases bO (cD h l minute).1 sz with
  | none=>rfl
  | some c=>rfl
 ·rw[if_neg h0,lW,if_neg h0,decide_eq_false h0]
  rfl
theorem SN (order:Int):NT (h,l,minute,order)=some (Cg h l minute order):=by
 show q28 qe P52 h l minute order=_
 unfold q28 Cg
 rw[yg h l minute order 1 hh hl,aa]
 by_cases h0:fe h l minute order 1=0
 ·obtain⟨⟨c1,c2⟩,c3,c4,c5⟩:=gi.1 h0
  obtain⟨pl,sn,e1,k⟩:=G0 minute c1 c2
  have hpl:=k.pln
  obtain⟨n,rfl⟩:∃ n:Nat,order=(n:Int):=⟨order.toNat,by omega⟩
  rw[decide_eq_true h0,Bool.not_true,cond_false,e1,aa,if_pos h0]
  simp only
  rw[am (aE (by omega)),bJ,k.eq n (by omega)]
 ·rw[decide_eq_false h0,Bool.not_false,cond_true,if_neg h0]
theorem SO:NU (h,l,minute)=some (vV h l minute):=by
 show q29 qe P52 h l minute=_
 unfold q29 vV
 rw[yg h l minute 0 1 hh hl,aa]
 by_cases h0:fe h l minute 0 1=0
 ·obtain⟨⟨c1,c2⟩,c3,c4,c5⟩:=gi.1 h0
  obtain⟨pl,sn,e1,k⟩:=G0 minute c1 c2
  rw[decide_eq_true h0,Bool.not_true,cond_false,e1,aa,if_pos h0]
 ·rw[decide_eq_false h0,Bool.not_false,cond_true,if_neg h0]
omit hh hl in
theorem SP (v:List Int)(n:Int)(hv:v.length≤1000):Cs (v,n)=some (decide (n∈v)):=by
 show q53 vB v n=_
 unfold q53
 rcases eK (step:=fun x=>N1 x.1 x.2.1 x.2.2) v.length (fun k=>(v,n,(k:Int))) (fun k=>decide (gt v k=n)) (fun _=>Sum.inl true) (Sum.inr ())
  (fun k hk _=>by
   show rY v n (k:Int)=_
   unfold rY
   rw[show decide ((k:Int) < (↑(List.length v):Int))=true from aR hk,cond_true,am (aE hk),bJ]
   cases decide (gt v k=n)with
   | true=>rfl
   | false=>rw[cond_false,am (aM (by omega))]; rfl)
  (fun _=>by
   show rY v n (v.length:Int)=_
   unfold rY
   rw[show decide ((v.length:Int) < (↑(List.length v):Int))=false from aZ _,cond_false]) (by omega)with⟨k,h1,h2,h3,h4⟩ | ⟨h3,h4⟩
 ·rw[show vB (v,n,0)=_ from h4,decide_eq_true (show n∈v by rw[← of_decide_eq_true h2]; exact cW h1)]
  rfl
 ·rw[show vB (v,n,0)=_ from h4,decide_eq_false (show ¬ n∈v from fun hm=>by
   obtain⟨j,hj,e⟩:=js hm
   have:=h3 j hj
   rw[e]at this
   simp at this)]
  rfl
omit hh hl in
theorem G8 (v:List Int)(s:List (List Int))(pl:List nZ)(sn:List Int)(hv:v.length≤1000):AI (0,[],s,pl,sn,v)=some (s,pl,sn,v,On v):=by
 have key:=aW (step:=fun x=>N5 x.1 x.2.1 x.2.2.1 x.2.2.2.1 x.2.2.2.2.1 x.2.2.2.2.2) 100 (fun k=>((k:Int),((List.range k).map fun n:Nat=>(n:Int)).filter (fun n=>decide (n∈v)),s,pl,sn,v)) (s,pl,sn,v,On v)
  (fun k hk=>by
   show AH qe P52 Cs (k:Int) (((List.range k).map fun n:Nat=>(n:Int)).filter (fun n=>decide (n∈v))) s pl sn v=_
   unfold AH
   have hlen:(((List.range k).map fun n:Nat=>(n:Int)).filter (fun n=>decide (n∈v))).length≤k:=Nat.le_trans (List.length_filter_le _ _) (by simp)
   rw[decide_eq_true (show(k:Int)≤99 by omega),cond_true,SP v _ hv,aa,List.range_succ,List.map_append,List.filter_append]
   have f:ai .i64 ((k:Int)+1)=true:=aM (by omega)
   cases hd:decide ((k:Int)∈v)with
   | true=>
    rw[cond_true,am (cO (by simp; omega)),am f]
    simp[hd]
   | false=>
    rw[cond_false,am f]
    simp[hd])
  rfl (by omega)
 exact key
theorem SQ:N6 (h,l,minute)=some (nA h l minute):=by
 show q30 qe P52 Cs AI h l minute=_
 unfold q30 nA
 rw[yg h l minute 0 1 hh hl,aa]
 by_cases h0:fe h l minute 0 1=0
 ·obtain⟨⟨c1,c2⟩,c3,c4,c5⟩:=gi.1 h0
  obtain⟨pl,sn,e1,k⟩:=G0 minute c1 c2
  obtain⟨v1,v2⟩:=pV (h:=h) minute c2
  rw[decide_eq_true h0,Bool.not_true,cond_false,e1,aa,if_pos h0]
  simp only
  rw[G8 _ _ _ _ (by omega)]
  rfl
 ·rw[decide_eq_false h0,Bool.not_false,cond_true,if_neg h0]
end
def Ue:List Int×Int:=([5,3],10)
def Oo:List aD:=[(1,0,1,1,2),(2,1,1,2,2),(3,5,2,1,0),(4,12,1,3,3),(5,11,2,2,0)]
def exS:List aD:=[(1,0,1,1,2),(2,1,1,2,2),(3,5,2,1,0),(5,11,2,2,0),(4,12,1,3,3)]
theorem SR:cY Ue:=by decide +kernel
theorem yi:dK Oo:=by decide +kernel
theorem yj:hrd Oo=exS:=(vQ (by decide) yi.2.1 yi.2.2 (by decide +kernel) (fun x=>(by decide +kernel:exS.Perm Oo).mem_iff)).symm
theorem yk {m o z:Int}(h1:0≤m∧m≤9999)(h2:0≤o∧o≤99)(h3:1≤z∧z≤12):fe Ue Oo m o z=0:=gi.2 ⟨⟨SR,yi⟩,h1,h2,h3⟩
theorem G9:ge ()=some true:=by
 show q14 P41 P15 P21 P16 P20=_
 unfold q14
 rw[show P41 ()=some (10,[5,3],Oo)from rfl,aa]
 simp only
 rw[show(([5,3],10):List Int×Int)=Ue from rfl,G6 12 (by decide) (by decide),aa,SM 1 (by decide) (by decide),aa,G7 12 (by decide) (by decide),aa]
 have e1:Cg Ue Oo 12 2=((4,-1,-1,2),0):=by
  unfold Cg cD
  rw[if_pos (yk (by decide) (by decide) (by decide)),yj]
  decide +kernel
 have e2:AT Ue Oo 1 1=(0,4,0):=by
  unfold AT cD
  rw[if_pos (yk (by decide) (by decide) (by decide)),yj]
  decide +kernel
 have e3:nA Ue Oo 12=(0,[2]):=by
  unfold nA cD
  rw[if_pos (yk (by decide) (by decide) (by decide)),yj]
  decide +kernel
 rw[e1,e2,e3]
 simp only[tN [2] [2] (by decide)]
 rfl
theorem SS (h:List Int×Int)(l:List aD):Cn (h,l)=some (decide (30 < h.1.length∨60 < l.length)):=by
 show cond (decide (30 < (↑(List.length h.1):Int))) (some true) (some (decide (60 < (↑(List.length l):Int))))=_
 by_cases h1:30 < h.1.length
 ·rw[decide_eq_true (show 30 < (↑(List.length h.1):Int)by omega),decide_eq_true (show 30 < h.1.length∨60 < l.length from .inl h1)]
  rfl
 ·rw[decide_eq_false (show ¬ 30 < (↑(List.length h.1):Int)by omega),cond_false]
  congr 1
  rw[Bool.eq_iff_iff,decide_eq_true_eq,decide_eq_true_eq]
  omega
theorem ST (h:List Int×Int)(l:List aD)(hh:h.1.length≤1000)(hl:l.length≤1000):MX (h,l)=some (h.2,h.1,l):=by
 show aj (bM 8 (List.length ([]:List Int)+List.length h.1)) (aj (bM 40 (List.length l)) (some (h.2,([]++h.1),l)))=_
 rw[am (cO (by simp; omega)),am (cO (by omega))]
 rfl
theorem eq4 (a b:nZ):((((decide (a.1=b.1)&&decide (a.2.1=b.2.1))&&decide (a.2.2.1=b.2.2.1))&&decide (a.2.2.2=b.2.2.2)))=decide (a=b):=by
 obtain⟨a1,a2,a3,a4⟩:=a
 obtain⟨b1,b2,b3,b4⟩:=b
 simp only[Prod.mk.injEq]
 by_cases h1:a1=b1 <;> by_cases h2:a2=b2 <;> by_cases h3:a3=b3 <;> by_cases h4:a4=b4 <;> simp[h1,h2,h3,h4]
theorem AU (h:List Int×Int)(l:List aD)(minute:Int):(vV h l minute).2.length≤30∧∀ k,k < (vV h l minute).2.length→(gt (vV h l minute).2 k).length≤12:=by
 unfold vV
 by_cases h0:fe h l minute 0 1=0
 ·obtain⟨⟨c1,c2⟩,_⟩:=gi.1 h0
  have hI:=IM.after (h:=h) c2 minute
  have hlen:=hI.len
  have hsl:=lS c1
  rw[if_pos h0]
  exact⟨by simp only; omega,fun k hk=>hI.row (jV c1) hk⟩
 ·rw[if_neg h0]; exact⟨by simp,fun k hk=>by simp at hk⟩
theorem Ha (h:List Int×Int)(l:List aD)(minute:Int):(nA h l minute).2.length≤100:=by
 unfold nA
 split
 ·exact Nat.le_trans (List.length_filter_le _ _) (by simp)
 ·simp
theorem Pure.SeatsMap' (h:List Int×Int)(l:List aD)(x:Int×Int×Int):P8 (h,l,x)=some true:=by
 show q8 Cn ge MX tQ vw P15 NT lb NU xU P16 N6 P20 Oa h l x=_
 unfold q8
 rw[SS,aa]
 by_cases hf:30 < h.1.length∨60 < l.length
 ·rw[decide_eq_true hf,cond_true,G9]
  rfl
 have hh:h.1.length≤1000:=by omega
 have hl:l.length≤1000:=by omega
 rw[decide_eq_false hf,cond_false,ST h l hh hl,aa]
 simp only
 rw[show((h.1,h.2):List Int×Int)=h from rfl,yf h l hh hl,aa,G3 h l hh hl,aa,decide_eq_true rfl,Bool.not_true,cond_false,
  G6 x.1 hh hl x.2.1,aa,SN x.1 hh hl x.2.1,aa,SL x.1 hh hl,aa,SO x.1 hh hl,aa,eq4,decide_eq_true rfl,Bool.not_true,cond_false,decide_eq_true rfl,Bool.not_true,cond_false,
  SJ _ _ (by have:=(AU h l x.1).1; omega) (fun k hk=>by have:=(AU h l x.1).2 k hk; omega),aa,G7 x.1 hh hl,aa,SQ x.1 hh hl,aa,tN _ _ (by have:=Ha h l x.1; omega),aa,tN h.1 h.1 (by omega),SI l l (by omega),G9]
 simp only[decide_true,Bool.not_true,cond_false,cond_true,aa]
abbrev TyH:Ty:=.pair (.sl (.int .i64)) (.int .i64)
abbrev TyC:Ty:=.sl (.pair (.int .i64) (.pair (.int .i64) (.pair (.int .i64) (.pair (.int .i64) (.int .i64)))))
abbrev TyX:Ty:=.pair (.int .i64) (.pair (.int .i64) (.int .i64))
theorem Pure.SeatsMap (h:List Int×Int)(_:Wf TyH h)(l:List aD)(_:Wf TyC l)(x:Int×Int×Int)(_:Wf TyX x):P8 (h,l,x)=some true:=Pure.SeatsMap' h l x
end Go.Proofs.Ytdkaijofmigmbaa.D
