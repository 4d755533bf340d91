/- Cut down from a longer text. -/
import Derived.Test.YtdacabdocbhkdaaGreatS17n
set_option linter.unusedVariables false
set_option linter.unusedSimpArgs false
set_option linter.unusedSectionVars false
namespace Go.Proofs.YtdacabdocbhkdaaGreat.D
open Go Go.Proofs Go.Proofs.YtdacabdocbhkdaaGreat.L
theorem AskOk.at {l:LT}{x y n m:Int}{c:CT}{s:VT}(h:AskOk l x y n c s)(hm:0≤m∧m≤9999):AskOk l x y m c s:=⟨h.v,h.c,h.s,hm⟩
theorem P14_eq (l:LT)(a b n:Int):∃ v,P14 (l,a,b,n)=some v∧(v=true→szL l∧∃ c s,AskOk l a b n c s):=by
  simp only[P14,p14,q14,P27_eq,bind_some']
  cases hf:farV l
  · have hz:=far_sz hf
    have zc:=hz.c
    have zs:=hz.s
    simp only[cond_false,P26_eq l hz,bind_some']
    by_cases h1:chkV l=0
    · by_cases h2:n < 0
      · exact⟨false,by simp only[decide_eq_true h1,Bool.not_true,cond_false,dT h2,cond_true],fun q=>nomatch q⟩
      · by_cases h3:9999 < n
        · exact⟨false,by simp only[decide_eq_true h1,Bool.not_true,cond_false,dF h2,dT h3,cond_true],fun q=>nomatch q⟩
        · refine⟨(fcV l a).isSome&&(fsV l b).isSome,?_,fun q=>⟨hz,?_⟩⟩
          · simp only[decide_eq_true h1,Bool.not_true,cond_false,dF h2,dF h3]
            rw[P19_eq _ _ (by omega),P20_eq _ _ (by omega)]
            cases fcV l a <;> cases fsV l b <;> rfl
          · cases hc:fcV l a with
            | none=>rw[hc]at q; simp at q
            | some c=>
              cases hs:fsV l b with
              | none=>rw[hc,hs]at q; simp at q
              | some s=>exact⟨c,s,h1,hc,hs,by omega,by omega⟩
    · exact⟨false,by simp only[decide_eq_false h1,Bool.not_false,cond_true],fun q=>nomatch q⟩
  · exact⟨false,rfl,fun q=>nomatch q⟩
theorem AskOk.mn {l:LT}{x y n:Int}{c:CT}{s:VT}(h:AskOk l x y n c s):1≤c.2.2.2.2.1∧c.2.2.2.2.1≤400:=(comp_ok ((lib_ok h.lib).comp c h.cm).1).1
theorem why_can {l:LT}(hz:szL l){x y n:Int}{c:CT}{s:VT}(h:AskOk l x y n c s):∃ r:Int×Int,P17 (l,x,y,n)=some (r.1,r.2,0)∧(r.1=0↔canM l c s n):=by
  obtain⟨r,r1,r2⟩:=(P17_eq hz x y n).2 c s h
  exact⟨r,r1,r2.can h.mn.1⟩
theorem Pure.KeysNext' (l : LT) (x : Int × Int × Int) (m : Int) : P9 (l, x, m) = some true := by
  obtain ⟨a, b, n⟩ := x
  obtain ⟨v, v1, v2⟩ := P14_eq l a b n
  cases v
  · simp only [P9, p9, q9, v1, bind_some', Bool.not_false, cond_true, works]
  · obtain ⟨hz, c, s, h⟩ := v2 rfl
    have hn := h.n
    obtain ⟨r, r1, r2⟩ := (P33_eq hz a b n).2 c s h
    cases r2 with
    | «at» t h1 h2 h3 =>
      have ht : t ≤ 9999 := (can_open h2 h.mn.1).2.1
      obtain ⟨w, w1, w2⟩ := why_can hz (h.at (m := t) ⟨by omega, ht⟩)
      have w0 : w.1 = 0 := w2.2 h2
      have g1 : ¬ t < n := by omega
      have g2 : ¬ 9999 < t := by omega
      by_cases q1 : n ≤ m
      · by_cases q2 : m ≤ 9999
        · by_cases q3 : m < t
          · obtain ⟨u, u1, u2⟩ := why_can hz (h.at (m := m) ⟨by omega, q2⟩)
            have u0 : ¬ u.1 = 0 := fun e => h3 m q1 q3 (u2.1 e)
            simp only [P9, p9, q9, v1, bind_some', Bool.not_true, cond_false, r1, decide_true, w1, w0, dF g1, dF g2, dT q1, dT q2, dT q3, u1, dF u0, Bool.not_false, cond_true, works]
          · simp only [P9, p9, q9, v1, bind_some', Bool.not_true, cond_false, r1, decide_true, w1, w0, dF g1, dF g2, dT q1, dT q2, dF q3, Bool.not_false, cond_true, works]
        · simp only [P9, p9, q9, v1, bind_some', Bool.not_true, cond_false, r1, decide_true, w1, w0, dF g1, dF g2, dT q1, dF q2, Bool.not_false, cond_true, works]
      · simp only [P9, p9, q9, v1, bind_some', Bool.not_true, cond_false, r1, decide_true, w1, w0, dF g1, dF g2, dF q1, Bool.not_false, cond_true, works]
    | no h3 =>
      have g0 : ¬ (3 : Int) = 0 := by omega
      by_cases q1 : n ≤ m
      · by_cases q2 : m ≤ 9999
        · obtain ⟨u, u1, u2⟩ := why_can hz (h.at (m := m) ⟨by omega, q2⟩)
          have u0 : ¬ u.1 = 0 := fun e => h3 m q1 (u2.1 e)
          simp only [P9, p9, q9, v1, bind_some', Bool.not_true, cond_false, r1, decide_true, dF g0, dT q1, dT q2, u1, dF u0, Bool.not_false, cond_true, works]
        · simp only [P9, p9, q9, v1, bind_some', Bool.not_true, cond_false, r1, decide_true, dF g0, dT q1, dF q2, Bool.not_false, cond_true, works]
      · simp only [P9, p9, q9, v1, bind_some', Bool.not_true, cond_false, r1, decide_true, dF g0, dF q1, Bool.not_false, cond_true, works]
theorem Pure.KeysNext (l:LT)(_:Wf TyL l)(x:Int×Int×Int)(_:Wf TyA x)(m:Int)(_:Wf (.int .i64) m):P9 (l,x,m)=some true:=Pure.KeysNext' l x m
end Go.Proofs.YtdacabdocbhkdaaGreat.D
