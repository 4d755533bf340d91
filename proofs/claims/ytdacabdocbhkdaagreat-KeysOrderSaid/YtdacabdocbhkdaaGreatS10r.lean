/- Cut down from a longer text. -/
import Derived.Test.YtdacabdocbhkdaaGreatS9r
set_option linter.unusedVariables false
set_option linter.unusedSimpArgs false
set_option linter.unusedSectionVars false
namespace Go.Proofs.YtdacabdocbhkdaaGreat.D
open Go Go.Proofs Go.Proofs.YtdacabdocbhkdaaGreat.L
def fcV (l:LT)(x:Int):Option CT:=l.2.1.find? fun c=>decide (c.1=x)
def fsV (l:LT)(y:Int):Option VT:=l.2.2.1.find? fun s=>decide (s.1=y)
def errV (l:LT)(x y n:Int):Int:=cond (decide (chkV l=0)) (cond ((fcV l x).isSome&&((fsV l y).isSome&&wi n 0 9999)) 0 1) (chkV l)
structure AskOk (l:LT) (x y n:Int) (c:CT) (s:VT):Prop where
 v:chkV l=0
 c:fcV l x=some c
 s:fsV l y=some s
 n:0≤n∧n≤9999
theorem chkV_iff {l:LT}:chkV l=0↔libB l=true∧ncB l.2.2.2.1=true:=by
 unfold chkV
 cases libB l <;> cases ncB l.2.2.2.1 <;> simp
theorem errV_iff {l:LT}{x y n:Int}:errV l x y n=0↔∃ c s,AskOk l x y n c s:=by
 unfold errV
 constructor
 ·intro h
  by_cases hv:chkV l=0
  ·rw[decide_eq_true hv,cond_true]at h
   cases hc:fcV l x with
   | none=>rw[hc]at h; simp at h
   | some c=>
    cases hs:fsV l y with
    | none=>rw[hc,hs]at h; simp at h
    | some s=>
     rw[hc,hs]at h
     cases hn:wi n 0 9999
     ·rw[hn]at h; simp at h
     ·exact⟨c,s,hv,hc,hs,wi_iff.1 hn⟩
  ·rw[decide_eq_false hv,cond_false]at h; exact absurd h hv
 ·rintro⟨c,s,h⟩
  rw[decide_eq_true h.v,cond_true,h.c,h.s,wi_iff.2 h.n]; rfl
theorem AskOk.lib {l:LT}{x y n:Int}{c:CT}{s:VT}(h:AskOk l x y n c s):libB l=true:=(chkV_iff.1 h.v).1
theorem AskOk.nc {l:LT}{x y n:Int}{c:CT}{s:VT}(h:AskOk l x y n c s):ncB l.2.2.2.1=true:=(chkV_iff.1 h.v).2
theorem AskOk.cm {l:LT}{x y n:Int}{c:CT}{s:VT}(h:AskOk l x y n c s):c∈l.2.1:=List.mem_of_find?_eq_some h.c
theorem AskOk.sm {l:LT}{x y n:Int}{c:CT}{s:VT}(h:AskOk l x y n c s):s∈l.2.2.1:=List.mem_of_find?_eq_some h.s
theorem P73_eq {l:List CT}(x:Int)(hl:l.length≤1000):P73 (l,x)=some (fix l fun c=>decide (c.1=x)):=by
 obtain⟨r,r1,r2⟩:=while_fix (step:=fun x=>p73_0 x.1 x.2.1 x.2.2.1 x.2.2.2) l (fun k=>(l,x,(l.length:Int),(k:Int))) (fun c=>decide (c.1=x)) (fun k=>.inl (k:Int)) (.inr ())
  (fun k hk _=>by
   simp(disch:=omega) only[p73_0,q73_0,ltN,dT,cond_true,inR_nat,chk_t,ix_gt,P74,p74,q74,bind_some',fitK,a1]
   cases decide ((gt l k).1=x) <;> rfl) (by simp(disch:=omega) only[p73_0,q73_0,ltN,dF,cond_false]) (by omega) (fun y=>Sum.elim (fun y=>some y) (fun _=>some (-1)) y) (fun z=>some z) (fun _ _ _=>rfl) rfl
 have e:L73_0 (l,x,(l.length:Int),0)=some r:=r1
 simp only[P73,p73,q73,e,bind_some']
 exact r2
theorem P106_eq {l:List VT}(x:Int)(hl:l.length≤1000):P106 (l,x)=some (fix l fun c=>decide (c.1=x)):=by
 obtain⟨r,r1,r2⟩:=while_fix (step:=fun x=>p106_0 x.1 x.2.1 x.2.2.1 x.2.2.2) l (fun k=>(l,x,(l.length:Int),(k:Int))) (fun c=>decide (c.1=x)) (fun k=>.inl (k:Int)) (.inr ())
  (fun k hk _=>by
   simp(disch:=omega) only[p106_0,q106_0,ltN,dT,cond_true,inR_nat,chk_t,ix_gt,P107,p107,q107,bind_some',fitK,a1]
   cases decide ((gt l k).1=x) <;> rfl) (by simp(disch:=omega) only[p106_0,q106_0,ltN,dF,cond_false]) (by omega) (fun y=>Sum.elim (fun y=>some y) (fun _=>some (-1)) y) (fun z=>some z) (fun _ _ _=>rfl) rfl
 have e:L106_0 (l,x,(l.length:Int),0)=some r:=r1
 simp only[P106,p106,q106,e,bind_some']
 exact r2
def servV (o:Option VT):VT×Bool:=match o with
 | some s=>(s,true)
 | none=>((0,[],[]),false)
theorem P60_eq (l:LT)(y:Int)(hl:l.2.2.1.length≤1000):P60 (l,y)=some (servV (fsV l y)):=by
 simp only[P60,p60,q60,P106_eq y hl,bind_some']
 rcases fix_cases l.2.2.1 fun s=>decide (s.1=y)with⟨k,hk,h1,h2,h3,h4,h5⟩ | ⟨h1,h2,h3,h4⟩
 ·rw[h3,fsV,h4]
  have d:decide ((k:Int) < 0)=false:=decide_eq_false (by omega)
  simp(disch:=omega) only[d,cond_false,inR_nat,chk_t,ix_gt,servV]
 ·rw[h2,fsV,h3]; rfl
theorem P61_eq (n:Int):P61 n=some (wi n 0 9999):=by simp only[P61,p61,q61,P63_eq,bind_some']
theorem ask_no {l:LT}(hz:szL l){x y n:Int}(h:errV l x y n≠0):P43 (l,x,y,n)=some (none,errV l x y n):=by
 have zc:=hz.c
 have zs:=hz.s
 unfold errV at h ⊢
 simp only[P43,p43,q43,P28_eq l hz,bind_some']
 by_cases hv:chkV l=0
 ·simp(disch:=omega) only[hv,decide_true,Bool.not_true,cond_false,cond_true,P73_eq,P60_eq,bind_some',fix_lt]at h ⊢
  rcases fix_cases l.2.1 fun c=>decide (c.1=x)with⟨k,hk,h1,h2,h3,h4,h5⟩ | ⟨h1,h2,h3,h4⟩
  ·rw[h5]
   have hc:fcV l x=some (gt l.2.1 k):=h4
   rw[hc]at h ⊢
   cases hs:fsV l y with
   | none=>rfl
   | some s=>
    rw[hs]at h
    cases hn:wi n 0 9999
    ·simp only[Bool.not_true,cond_false,servV,P61_eq,hn,bind_some',Bool.not_false,cond_true,Bool.and_false]
    ·rw[hn]at h; simp at h
  ·rw[h4]
   have hc:fcV l x=none:=h3
   rw[hc]; rfl
 ·simp only[decide_eq_false hv,Bool.not_false,cond_true,cond_false]
theorem ask_ok {l:LT}(hz:szL l){x y n:Int}{c:CT}{s:VT}(h:AskOk l x y n c s):∃ sums ks sp,P43 (l,x,y,n)=some (some (mkP c s sums ks sp),0)∧PutOk l c s sums ks sp:=by
 have zc:=hz.c
 have zs:=hz.s
 obtain⟨sums,ks,sp,p1,p2⟩:=P65_eq hz h.lib h.cm h.sm
 refine⟨sums,ks,sp,?_,p2⟩
 rcases fix_cases l.2.1 fun c=>decide (c.1=x)with⟨k,hk,h1,h2,h3,h4,h5⟩ | ⟨h1,h2,h3,h4⟩
 ·have hc:some c=some (gt l.2.1 k):=by rw[← h.c]; exact h4
  cases hc
  have d:decide ((k:Int) < 0)=false:=decide_eq_false (by omega)
  simp(disch:=omega) only[P43,p43,q43,P28_eq l hz,bind_some',h.v,decide_true,Bool.not_true,cond_false,P73_eq,P60_eq,d,h.s,servV,P61_eq,wi_iff.2 h.n,h3,inR_nat,chk_t,ix_gt,p1]
 ·have hc:some c=none:=by rw[← h.c]; exact h3
  cases hc
def missV (l:LT)(c:CT)(s:VT):List Int:=c.2.2.2.2.2.2.filter fun a=>!decide (smV l.1 a=smV s.2.2 a)
def hasF (fs:List AT)(a:AT):Bool:=fs.any fun x=>decide (a=x)
theorem at_ext (a b:AT):(decide (a.1=b.1)&&decide (a.2=b.2))=decide (a=b):=by
 rw[Bool.eq_iff_iff]; simp[Prod.ext_iff]
theorem P82_eq {fs:List AT}(a:AT)(hl:fs.length≤1000):P82 (fs,a)=some (hasF fs a):=by
 have key:P121 (fs,a)=some (fix fs fun x=>decide (a=x)):=by
  obtain⟨r,r1,r2⟩:=while_fix (step:=fun x=>p121_0 x.1 x.2.1 x.2.2.1 x.2.2.2) fs (fun i=>(fs,(fs.length:Int),(i:Int),a)) (fun x=>decide (a=x)) (fun k=>.inl ((k:Int),a)) (.inr a)
   (fun i hi _=>by
    simp(disch:=omega) only[p121_0,q121_0,ltN,dT,cond_true,inR_nat,chk_t,ix_gt,at_ext,fitK,a1]
    cases decide (a=gt fs i) <;> rfl) (by simp(disch:=omega) only[p121_0,q121_0,ltN,dF,cond_false]) (by omega) (fun y=>Sum.elim (fun y=>some y.1) (fun _=>some (-1)) y) (fun z=>some z) (fun _ _ _=>rfl) rfl
  have e:L121_0 (fs,(fs.length:Int),0,a)=some r:=r1
  simp only[P121,p121,q121,e,bind_some']
  exact r2
 simp only[P82,p82,q82,key,bind_some',fix_any,hasF]
theorem smV_mem {l:List AT}(hu:Uq l){a:AT}(ha:a∈l):smV l a.1=(a.2,true):=by
 unfold smV
 rcases fix_cases l fun x=>decide (x.1=a.1)with⟨k,hk,h1,h2,h3,h4,h5⟩ | ⟨h1,h2,h3,h4⟩
 ·rw[h4]
  simp only[decide_eq_true_eq]at h1
  rw[hu.eq (gt_mem hk) ha h1]
 ·obtain⟨i,hi,rfl⟩:=mem_gt ha
  have:=h1 i hi
  simp at this
theorem hasF_sm {fs:List AT}(hu:Uq fs)(a:AT):hasF fs a=decide ((a.2,true)=smV fs a.1):=by
 rw[Bool.eq_iff_iff,decide_eq_true_eq]
 unfold hasF
 rw[List.any_eq_true]
 constructor
 ·rintro⟨x,hx,e⟩
  simp only[decide_eq_true_eq]at e
  subst e
  exact(smV_mem hu hx).symm
 ·intro h
  unfold smV at h
  rcases fix_cases fs fun x=>decide (x.1=a.1)with⟨k,hk,h1,h2,h3,h4,h5⟩ | ⟨h1,h2,h3,h4⟩
  ·rw[h4]at h
   simp only[decide_eq_true_eq]at h1
   simp only[Prod.mk.injEq,and_true]at h
   exact⟨gt fs k,gt_mem hk,by simp only[decide_eq_true_eq]; exact Prod.ext h1.symm h⟩
  ·rw[h3]at h; simp at h
theorem P47_eq {l:LT}{c:CT}{s:VT}{sums:List AT}{ks:List KT}{sp:List Sp}(hu:Uq l.1)(hf:Uq s.2.2)(hfl:s.2.2.length≤1000)(hc:c.2.2.2.2.2.2.length≤1000)(h:PutOk l c s sums ks sp):P47 (some (mkP c s sums ks sp))=some (missV l c s):=by
 have hl:sums.length≤1000:=by rw[← h.ids]at hc; simpa using hc
 have e:L47_0 (some (mkP c s sums ks sp),sums,(sums.length:Int),0,[])=some ((sums.filter fun a=>!hasF s.2.2 a).map (·.1)):=
  while_flt (step:=fun x=>p47_0 x.1 x.2.1 x.2.2.1 x.2.2.2.1 x.2.2.2.2) sums (fun a=>!hasF s.2.2 a) (fun a=>a.1) (fun k out=>(some (mkP c s sums ks sp),sums,(sums.length:Int),(k:Int),out)) id
   (fun k out hk ho=>by
    have e82:P82 (s.2.2,gt sums k)=some (hasF s.2.2 (gt sums k)):=P82_eq _ hfl
    simp(disch:=omega) only[p47_0,q47_0,ltN,dT,cond_true,inR_nat,chk_t,ix_gt,Option.isSome_some,dof,Option.getD_some,mkP,e82,bind_some',List.length_singleton,capOk_sm,fitK,a1]
    cases hasF s.2.2 (gt sums k) <;> rfl) (fun out ho=>by simp(disch:=omega) only[p47_0,q47_0,ltN,dF,cond_false]; rfl) (by omega)
 have hm:(sums.filter fun a=>!hasF s.2.2 a).map (·.1)=missV l c s:=by
  unfold missV
  rw[← h.ids,List.filter_map]
  congr 1
  refine List.filter_congr fun a ha=>?_
  show(!hasF s.2.2 a)=!decide (smV l.1 a.1=smV s.2.2 a.1)
  rw[hasF_sm hf,smV_mem hu (h.own a ha)]
 rw[hm]at e
 simp only[P47,p47,q47,Option.isSome_some,chk_t,dof,Option.getD_some]
 have e':L47_0 (some (mkP c s sums ks sp),(mkP c s sums ks sp).2.2.2.2.2.2.2.2.2.2.1,((mkP c s sums ks sp).2.2.2.2.2.2.2.2.2.2.1.length:Int),0,[])=some (missV l c s):=e
 rw[e']; rfl
end Go.Proofs.YtdacabdocbhkdaaGreat.D
