/- Cut down from a longer text. -/
import Derived.Test.YtdacabdocbhkdaaGreatS9m
set_option linter.unusedVariables false
set_option linter.unusedSimpArgs false
namespace Go.Proofs.YtdacabdocbhkdaaGreat.D
open Go Go.Proofs L
def fcV (l:LT)(x:Int):Option CT:=l.2.1.find? fun c=>decide (c.1=x)
def fsV (l:LT)(y:Int):Option VT:=l.2.2.1.find? fun s=>decide (s.1=y)
def errV (l:LT)(x y n:Int):Int:=cond (decide (chkV l=0)) (cond ((fcV l x).isSome&&((fsV l y).isSome&&wi n 0 9999)) 0 1) (chkV l)
structure AskOk (l:LT) (x y n:Int) (c:CT) (s:VT):Prop where
 v:chkV l=0
 c:fcV l x=some c
 s:fsV l y=some s
 n:0≤n∧n≤9999
theorem chkV_iff {l:LT}:chkV l=0↔libB l=true∧ncB l.2.2.2.1=true:=by
 unfold chkV
 cases libB l <;> cases ncB l.2.2.2.1 <;> simp
theorem errV_iff {l:LT}{x y n:Int}:errV l x y n=0↔∃ c s,AskOk l x y n c s:=by
 unfold errV
 constructor
 ·intro h
  by_cases hv:chkV l=0
  ·rw[decide_eq_true hv,cond_true]at h
   cases hc:fcV l x with
   | none=>rw[hc]at h; simp at h
   | some c=>
    cases hs:fsV l y with
    | none=>rw[hc,hs]at h; simp at h
    | some s=>
     rw[hc,hs]at h
     cases hn:wi n 0 9999
     ·rw[hn]at h; simp at h
     ·exact⟨c,s,hv,hc,hs,wi_iff.1 hn⟩
  ·rw[decide_eq_false hv,cond_false]at h; exact absurd h hv
 ·rintro⟨c,s,h⟩
  rw[decide_eq_true h.v,cond_true,h.c,h.s,wi_iff.2 h.n]; rfl
theorem AskOk.nc {l:LT}{x y n:Int}{c:CT}{s:VT}(h:AskOk l x y n c s):ncB l.2.2.2.1=true:=(chkV_iff.1 h.v).2
def missV (l:LT)(c:CT)(s:VT):List Int:=c.2.2.2.2.2.2.filter fun a=>!decide (smV l.1 a=smV s.2.2 a)
end Go.Proofs.YtdacabdocbhkdaaGreat.D
