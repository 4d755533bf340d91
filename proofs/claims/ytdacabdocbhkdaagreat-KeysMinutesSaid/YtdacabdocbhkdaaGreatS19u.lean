/- Cut down from a longer text. -/
import Derived.Test.YtdacabdocbhkdaaGreatS18u
set_option linter.unusedVariables false
set_option linter.unusedSimpArgs false
set_option linter.unusedSectionVars false
namespace Go.Proofs.YtdacabdocbhkdaaGreat.D
open Go Go.Proofs Go.Proofs.YtdacabdocbhkdaaGreat.L
theorem L4_0_eq {sp:List Sp}{P:Int→Prop}(h:SpOk sp P)(hl:sp.length≤1000)(u v:Int)(x:Int×Int×Int)(c:CT)(s:VT)(m:List Int):L4_0 (u,v,sp,0,x,c,s,m)=some (.inr (u,v,sp,x,c,s,m)):=
  while_run sp.length (fun k=>(u,v,sp,(k:Int),x,c,s,m)) _ (fun k hk=>by
    have hb:=h.bd _ (gt_mem hk)
    have g1:¬ (gt sp k).1 < 0:=by omega
    have g2:¬ (gt sp k).2 < (gt sp k).1:=by omega
    have g3:¬ 9999 < (gt sp k).2:=by omega
    simp(disch:=omega) only[p4_0,q4_0,ltN,dT,cond_true,inR_nat,chk_t,ix_gt,dF g1,dF g2,dF g3,cond_false]
    by_cases hk0:0 < k
    · have hp:=List.pairwise_iff_getElem.1 h.pw (k-1) k (by omega) hk (by omega)
      rw[← gt_lt,← gt_lt]at hp
      have hb1:=h.bd _ (gt_mem (l:=sp) (i:=k-1) (by omega))
      have f1:fits .i64 ((k-1:Nat):Int)=true:=fits_of (by omega) (by omega)
      have f2:fits .i64 ((gt sp (k-1)).2+1)=true:=fits_of (by omega) (by omega)
      have g4:¬ (gt sp k).1≤(gt sp (k-1)).2+1:=by omega
      have g5:(0:Int) < (k:Int):=by omega
      simp(disch:=omega) only[dT g5,cond_true,p1,f1,f2,chk_t,inR_nat,ix_gt,dF g4,cond_false,fitK,a1]
    · have g5:¬ (0:Int) < (k:Int):=by omega
      simp(disch:=omega) only[dF g5,cond_false,fitK,a1,chk_t]) (by simp(disch:=omega) only[p4_0,q4_0,ltN,dF,cond_false]) (by omega)
def SeenM (P:Int→Prop)(n i:Int)(al:Bool)(f:Int):Prop:=(al=true∧f = -1∧∀ j,n≤j→j < i→P j)∨(al=false∧n≤f∧f < i∧¬ P f∧∀ j,n≤j→j < f→P j)
theorem L4_1_eq {sp:List Sp}{P:Int→Prop}(h:SpOk sp P)(hl:sp.length≤1000)(u v:Int)(x:Int×Int×Int)(hx:0≤x.2.2∧x.2.2≤9999)(c:CT)(hc:1≤c.2.2.2.2.1∧c.2.2.2.2.1≤400)(s:VT)(m:List Int):∃ al f,L4_1 (u,v,sp,true,-1,x.2.2,x,c,s,m)=some (u,v,sp,al,f,x,c,s,m)∧SeenM P x.2.2 (x.2.2+c.2.2.2.2.1) al f:=by
  have key:∃ r,L4_1 (u,v,sp,true,-1,x.2.2,x,c,s,m)=some r∧∃ al f,r=(u,v,sp,al,f,x,c,s,m)∧SeenM P x.2.2 (x.2.2+c.2.2.2.2.1) al f:=by
    have ff:fits .i64 (x.2.2+c.2.2.2.2.1)=true:=fits_of (by omega) (by omega)
    refine while_inv c.2.2.2.2.1.toNat (fun k st=>∃ al f,st=(u,v,sp,al,f,x.2.2+(k:Int),x,c,s,m)∧SeenM P x.2.2 (x.2.2+(k:Int)) al f) _ ⟨true,-1,by simp,.inl ⟨rfl,rfl,fun j _ _=>by omega⟩⟩ (by omega) ?_ ?_
    · rintro k st hk ⟨al,f,rfl,q⟩
      have g1:x.2.2+(k:Int) < x.2.2+c.2.2.2.2.1:=by omega
      have f1:fits .i64 (x.2.2+(k:Int)+1)=true:=fits_of (by omega) (by omega)
      have e1:x.2.2+(k:Int)+1=x.2.2+((k+1:Nat):Int):=by omega
      rw[e1]at f1
      have h23:=P23_eq (l:=sp) (x.2.2+(k:Int)) (by omega)
      cases hi:inSB sp (x.2.2+(k:Int))
      · have hn:¬ P (x.2.2+(k:Int)):=fun q=>by rw[inSB_iff.2 ((h.mem _).1 q)]at hi; cases hi
        rcases q with⟨rfl,rfl,q3⟩ | ⟨rfl,q2,q3,q4,q5⟩
        · refine⟨_,?_,false,x.2.2+(k:Int),rfl,.inr ⟨rfl,by omega,by omega,hn,q3⟩⟩
          simp only[p4_1,q4_1,ff,dT g1,cond_true,chk_t,h23,hi,bind_some',Bool.not_false,f1,e1]
        · refine⟨_,?_,false,f,rfl,.inr ⟨rfl,by omega,by omega,q4,q5⟩⟩
          simp only[p4_1,q4_1,ff,dT g1,cond_true,chk_t,h23,hi,bind_some',Bool.not_false,cond_false,f1,e1]
      · have hn:P (x.2.2+(k:Int)):=(h.mem _).2 (inSB_iff.1 hi)
        refine⟨_,?_,al,f,rfl,?_⟩
        · simp only[p4_1,q4_1,ff,dT g1,cond_true,chk_t,h23,hi,bind_some',Bool.not_true,cond_false,f1,e1]
        · rcases q with⟨rfl,rfl,q3⟩ | ⟨rfl,q2,q3,q4,q5⟩
          · refine .inl ⟨rfl,rfl,fun j j1 j2=>?_⟩
            by_cases e:j=x.2.2+(k:Int)
            · rw[e]; exact hn
            · exact q3 j j1 (by omega)
          · exact .inr ⟨rfl,by omega,by omega,q4,q5⟩
    · rintro st ⟨al,f,rfl,q⟩
      have e0:x.2.2+((c.2.2.2.2.1.toNat:Nat):Int)=x.2.2+c.2.2.2.2.1:=by omega
      rw[e0]at q
      have g1:¬ x.2.2+((c.2.2.2.2.1.toNat:Nat):Int) < x.2.2+c.2.2.2.2.1:=by omega
      refine⟨_,?_,al,f,rfl,q⟩
      simp only[p4_1,q4_1,ff,dF g1,cond_false,chk_t]
  obtain⟨r,r1,al,f,rfl,r2⟩:=key
  exact⟨al,f,r1,r2⟩
theorem inB_gt {l:List Int}{j:Nat}(h:j < l.length):inB l (gt l j)=true:=inB_iff.2 (gt_mem h)
theorem Pure.KeysMinutes' (l : LT) (x : Int × Int × Int) : P4 (l, x) = some true := by
  obtain ⟨a, b, n⟩ := x
  obtain ⟨v, v1, v2⟩ := P14_eq l a b n
  cases v
  · simp only [P4, p4, q4, v1, bind_some', Bool.not_false, cond_true, works]
  · obtain ⟨hz, c, s, h⟩ := v2 rfl
    have hn := h.n
    have hm := h.mn
    have zc := hz.c
    have zs := hz.s
    have zd := hz.sd s h.sm
    have h0 : AskOk l a b 0 c s := h.at (by omega)
    obtain ⟨r, r1, r2⟩ := (P17_eq hz a b n).2 c s h
    obtain ⟨sums, ks, sp, s1, s2⟩ := (P21_eq hz a b).2 c s h0
    have s3 := s2.spl
    have s4 := s2.spM
    have m1 := (P22_eq hz a b).2 c s h0
    have ml := miss_len (s := s) hz h.cm
    have e0 := L4_0_eq s4 (by omega) r.1 r.2 (a, b, n) c s (missV l c s)
    obtain ⟨al, f, e1, e2⟩ := L4_1_eq s4 (by omega) r.1 r.2 (a, b, n) hn c hm s (missV l c s)
    dsimp only at e1 e2
    have g30 : ¬ (30 : Int) < (sp.length : Int) := by omega
    have f1 : fits .i64 (n + c.2.2.2.2.1) = true := fits_of (by omega) (by omega)
    have f2 : fits .i64 (n + c.2.2.2.2.1 - 1) = true := fits_of (by omega) (by omega)
    have c4 : P19 (l, a) = some (c, true) := by rw [P19_eq _ _ (by omega), h.c]; rfl
    have c5 : P20 (l, b) = some (s, true) := by rw [P20_eq _ _ (by omega), h.s]; rfl
    have none : ¬ opens l c s → al = false ∧ sp = [] := fun q => by
      refine ⟨?_, ?_⟩
      · rcases e2 with ⟨rfl, _, q3⟩ | ⟨rfl, _⟩
        · exact absurd (opens_of (q3 n (by omega) (by omega))) q
        · rfl
      · exact s4.uniq (SpOk.nil (P := fun _ => False) fun _ => id) fun i => ⟨fun p => q (opens_of p), False.elim⟩
    cases r2 with
    | file hf =>
      have hl0 : ¬ ((missV l c s).length : Int) = 0 := fun q => hf (List.eq_nil_of_length_eq_zero (by omega))
      have hlp : 0 < (missV l c s).length := by omega
      have p24 := P24_eq (l := missV l c s) (gt (missV l c s) 0) (by omega)
      rw [inB_gt hlp] at p24
      cases al <;> simp only [P4, p4, q4, v1, bind_some', Bool.not_true, cond_false, r1, s1, m1, c4, c5, decide_true, dF g30, e0, elim_inr, e1, cond_true, dF (show ¬ (1 : Int) = 0 by omega), dF hl0, bne_self_eq_false, p24, works]
    | key hf hl hk =>
      obtain ⟨rfl, rfl⟩ := none (not_opens hl fun k q1 q2 => absurd q2 (by rw [hk k q1]; simp))
      simp only [P4, p4, q4, v1, bind_some', Bool.not_true, cond_false, r1, s1, m1, c4, c5, decide_true, dF g30, e0, elim_inr, e1, cond_true, dF (show ¬ (2 : Int) = 0 by omega), dF (show ¬ (2 : Int) = 1 by omega), bne_self_eq_false, hl, List.length_nil, works]
      rfl
    | foreign hf hl k hk ho hmm hno j hj hd hf' =>
      obtain ⟨rfl, rfl⟩ := none (not_opens hl hno)
      have p24 := P24_eq (l := s.2.1) (gt s.2.1 j) (by omega)
      rw [inB_gt hj] at p24
      simp only [P4, p4, q4, v1, bind_some', Bool.not_true, cond_false, r1, s1, m1, c4, c5, decide_true, dF g30, e0, elim_inr, e1, cond_true, dF (show ¬ (3 : Int) = 0 by omega), dF (show ¬ (3 : Int) = 1 by omega), dF (show ¬ (3 : Int) = 2 by omega), bne_self_eq_false, hl, List.length_nil, p24, works]
      rfl
    | shut hf ho m h1 h2 h3 h4 =>
      rcases e2 with ⟨rfl, _, q3⟩ | ⟨rfl, q2, q3, qq, q5⟩
      · exact absurd (q3 m h1 h2) h3
      · have e : m = f := by
          rcases Int.lt_trichotomy m f with q | q | q
          · exact absurd (q5 m h1 q) h3
          · exact q
          · exact absurd (h4 f q2 q) qq
        subst e
        simp only [P4, p4, q4, v1, bind_some', Bool.not_true, cond_false, r1, s1, m1, c4, c5, decide_true, dF g30, e0, elim_inr, e1, cond_true, dF (show ¬ (4 : Int) = 0 by omega), dF (show ¬ (4 : Int) = 1 by omega), dF (show ¬ (4 : Int) = 2 by omega), dF (show ¬ (4 : Int) = 3 by omega), bne_self_eq_false, works]
    | none hf ho h4 =>
      rcases e2 with ⟨rfl, _, q3⟩ | ⟨rfl, q2, q3, qq, q5⟩
      · have hl0 : ((missV l c s).length : Int) = 0 := by rw [hf]; rfl
        simp only [P4, p4, q4, v1, bind_some', Bool.not_true, cond_false, r1, s1, m1, c4, c5, decide_true, dF g30, e0, elim_inr, e1, cond_true, hl0, bne_self_eq_false, f1, f2, chk_t, works]
      · exact absurd (h4 f q2 q3) qq
theorem Pure.KeysMinutes (l:LT)(_:Wf TyL l)(x:Int×Int×Int)(_:Wf TyA x):P4 (l,x)=some true:=Pure.KeysMinutes' l x
end Go.Proofs.YtdacabdocbhkdaaGreat.D
