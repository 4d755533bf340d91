/- Cut down from a longer text. -/
import Derived.Test.YtdacabdocbhkdaaGreatS10r
set_option linter.unusedVariables false
set_option linter.unusedSimpArgs false
set_option linter.unusedSectionVars false
namespace Go.Proofs.YtdacabdocbhkdaaGreat.D
open Go Go.Proofs Go.Proofs.YtdacabdocbhkdaaGreat.L
def compV (o:Option CT):CT×Bool:=match o with
 | some c=>(c,true)
 | none=>((0,0,0,0,0,false,[]),false)
theorem P19_eq (l:LT)(x:Int)(hl:l.2.1.length≤1000):P19 (l,x)=some (compV (fcV l x)):=by
 rcases while_find (step:=fun y=>p19_0 y.1 y.2.1 y.2.2.1 y.2.2.2.1 y.2.2.2.2.1 y.2.2.2.2.2.1 y.2.2.2.2.2.2.1 y.2.2.2.2.2.2.2.1 y.2.2.2.2.2.2.2.2) l.2.1.length (fun k=>(x,(k:Int),l,0,0,0,0,0,false)) (fun k=>decide ((gt l.2.1 k).1=x)) (fun k=>.inl (true,l,gt l.2.1 k)) (.inr (l,0,0,0,0,0,false)) (fun k hk _=>by
   simp(disch:=omega) only[p19_0,q19_0,ltN,dT,cond_true,inR_nat,chk_t,ix_gt,fitK,a1]
   cases decide ((gt l.2.1 k).1=x) <;> rfl) (fun _=>by simp(disch:=omega) only[p19_0,q19_0,ltN,dF,cond_false]) (by omega)with⟨k,hk,h1,h2,h3⟩ | ⟨h1,h2⟩
 ·have e:L19_0 (x,0,l,0,0,0,0,0,false)=some (.inl (true,l,gt l.2.1 k)):=h3
  rw[fcV,find_at hk h1 h2]
  simp only[P19,p19,q19,e,bind_some',elim_inl,compV]
 ·have e:L19_0 (x,0,l,0,0,0,0,0,false)=some (.inr (l,0,0,0,0,0,false)):=h2
  rw[fcV,find_no h1]
  simp only[P19,p19,q19,e,bind_some',elim_inr,compV]
theorem P20_eq (l:LT)(x:Int)(hl:l.2.2.1.length≤1000):P20 (l,x)=some (servV (fsV l x)):=by
 rcases while_find (step:=fun y=>p20_0 y.1 y.2.1 y.2.2.1 y.2.2.2) l.2.2.1.length (fun k=>(x,(k:Int),l,0)) (fun k=>decide ((gt l.2.2.1 k).1=x)) (fun k=>.inl (true,l,gt l.2.2.1 k)) (.inr (l,0)) (fun k hk _=>by
   simp(disch:=omega) only[p20_0,q20_0,ltN,dT,cond_true,inR_nat,chk_t,ix_gt,fitK,a1]
   cases decide ((gt l.2.2.1 k).1=x) <;> rfl) (fun _=>by simp(disch:=omega) only[p20_0,q20_0,ltN,dF,cond_false]) (by omega)with⟨k,hk,h1,h2,h3⟩ | ⟨h1,h2⟩
 ·have e:L20_0 (x,0,l,0)=some (.inl (true,l,gt l.2.2.1 k)):=h3
  rw[fsV,find_at hk h1 h2]
  simp only[P20,p20,q20,e,bind_some',elim_inl,servV]
 ·have e:L20_0 (x,0,l,0)=some (.inr (l,0)):=h2
  rw[fsV,find_no h1]
  simp only[P20,p20,q20,e,bind_some',elim_inr,servV]
theorem AskOk.t {l:LT}{x y n:Int}{c:CT}{s:VT}(h:AskOk l x y n c s):errV l x y n=0:=errV_iff.2 ⟨c,s,h⟩
def openM (l:LT)(c:CT)(s:VT)(n:Int):Prop:=0≤n∧n≤9999∧(c.2.2.2.2.2.1=false∨∃ k∈l.2.2.2.1,(opB s.2.1 k&&ownB l c k)=true∧k.2.2.2.1≤n∧n≤k.2.2.2.2)
theorem openT_iff {l:LT}{c:CT}{s:VT}{sums:List AT}{ks:List KT}{sp:List Sp}(h:PutOk l c s sums ks sp)(n:Int):openT c.2.2.2.2.2.1 s.2.1 ks n↔openM l c s n:=by
 unfold openT openM
 have:(∃ k∈ks,opB s.2.1 k=true∧k.2.2.2.1≤n∧n≤k.2.2.2.2)↔∃ k∈l.2.2.2.1,(opB s.2.1 k&&ownB l c k)=true∧k.2.2.2.1≤n∧n≤k.2.2.2.2:=by
  constructor
  ·rintro⟨k,h1,h2,h3⟩
   obtain⟨q1,q2⟩:=(h.mem k).1 h1
   exact⟨k,q1,by rw[h2,q2]; rfl,h3⟩
  ·rintro⟨k,h1,h2,h3⟩
   rw[Bool.and_eq_true]at h2
   exact⟨k,(h.mem k).2 ⟨h1,h2.2⟩,h2.1,h3⟩
 rw[this]
theorem PutOk.spM {l:LT}{c:CT}{s:VT}{sums:List AT}{ks:List KT}{sp:List Sp}(h:PutOk l c s sums ks sp):SpOk sp (openM l c s):=h.sp.congr (openT_iff h)
end Go.Proofs.YtdacabdocbhkdaaGreat.D
