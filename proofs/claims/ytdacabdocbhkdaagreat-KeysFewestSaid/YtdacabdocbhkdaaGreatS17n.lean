/- Cut down from a longer text. -/
import Derived.Test.YtdacabdocbhkdaaGreatS16n
set_option linter.unusedVariables false
set_option linter.unusedSimpArgs false
set_option linter.unusedSectionVars false
namespace Go.Proofs.YtdacabdocbhkdaaGreat.D
open Go Go.Proofs Go.Proofs.YtdacabdocbhkdaaGreat.L
structure FarK (l:LT) (c:CT) (s:VT) (x f:Int):Prop where
  le:x≤f
  ex:f=x∨∃ k∈l.2.2.2.1,(opB s.2.1 k&&ownB l c k)=true∧k.2.2.2.1≤x∧k.2.2.2.2+1=f
  all:∀ k∈l.2.2.2.1,(opB s.2.1 k&&ownB l c k)=true→k.2.2.2.1≤x→k.2.2.2.2+1≤f
inductive Steps (l:LT) (c:CT) (s:VT) (e:Int):Int→Nat→Prop where
  | done {x:Int} (h:c.2.2.2.2.2.1=false∨e≤x):Steps l c s e x 0
  | step {x f:Int} {k:Nat} (hl:c.2.2.2.2.2.1=true) (hx:x < e) (hf:FarK l c s x f) (h:Steps l c s e f k):Steps l c s e x (k+1)
theorem far_gt {l:LT}{c:CT}{s:VT}{x f:Int}(hl:c.2.2.2.2.2.1=true)(ho:openM l c s x)(h:FarK l c s x f):x < f:=by
  rcases ho.2.2 with q | ⟨k,k1,k2,k3,k4⟩
  · rw[hl]at q; cases q
  · have:=h.all k k1 k2 k3; omega
theorem P16_eq {l:LT}(hz:szL l)(x y n:Int):(errV l x y n≠0→P16 (l,x,y,n)=some (0,errV l x y n))∧∀ c s,AskOk l x y n c s→(¬ canM l c s n→P16 (l,x,y,n)=some (0,3))∧(canM l c s n→∃ k:Nat,P16 (l,x,y,n)=some ((k:Int),0)∧Steps l c s (n+c.2.2.2.2.1) n k):=by
  constructor
  · intro h
    simp only[P16,p16,q16,ask_no hz h,bind_some',decide_eq_false h,Bool.not_false,cond_true]
  · intro c s h
    obtain⟨sums,ks,sp,p1,p2⟩:=ask_ok hz h
    have hput:=put_of hz h p2
    have hn1:=h.n.1
    have hn2:=h.n.2
    have hm1:=hput.mn.1
    have hm2:=hput.mn.2
    obtain⟨b,b1,b2⟩:=P44_eq hput (n:=n) (by omega)
    have f1:fits .i64 (n+c.2.2.2.2.1)=true:=fits_of (by omega) (by omega)
    constructor
    · intro hc
      have:b=false:=by cases b; rfl; exact absurd (b2.1 rfl) hc
      simp only[P16,p16,q16,p1,bind_some',decide_true,Bool.not_true,cond_false,b1,this,Bool.not_false,cond_true]
    · intro hc
      have hb:b=true:=b2.2 hc
      obtain⟨ts,t1,t2⟩:=P45v1_eq (mkP c s sums ks sp) hput.ds p2.ksok
      have t2':TmOk s.2.1 ks ts:=t2
      have htl:ts.length≤20:=by have:=t2'.len; have:=p2.ksok.len; omega
      have hfar:∀ (w at_:Int),0≤at_→at_≤20000→∃ f,L16_1 (n,some (mkP c s sums ks sp),w,at_,at_,(ts.length:Int),0,ts)=some (n,some (mkP c s sums ks sp),w,f,ts)∧FarK l c s at_ f∧f≤max at_ 10000:=by
        intro w x hx1 hx2
        have key:∃ yy,L16_1 (n,some (mkP c s sums ks sp),w,x,x,(ts.length:Int),0,ts)=some yy∧∃ f,yy=(n,some (mkP c s sums ks sp),w,f,ts)∧FarK l c s x f∧f≤max x 10000:=by
          refine while_inv ts.length (fun k st=>∃ f,st=(n,some (mkP c s sums ks sp),w,x,f,(ts.length:Int),(k:Int),ts)∧x≤f∧f≤max x 10000∧(f=x∨∃ j,j < k∧(gt ts j).1≤x∧(gt ts j).2+1=f)∧∀ j,j < k→(gt ts j).1≤x→(gt ts j).2+1≤f) _ ⟨x,rfl,by omega,by omega,.inl rfl,fun j hj=>by omega⟩ (by omega) ?_ ?_
          · rintro k st hk ⟨f,rfl,q1,q2,q3,q4⟩
            obtain⟨kk,k1,k2,k3⟩:=(t2'.mem _).1 (gt_mem hk)
            have hb:=p2.ksok.tm kk k1
            rw[← k3]at hb
            have ff:fits .i64 ((gt ts k).2+1)=true:=fits_of (by omega) (by omega)
            by_cases hle:(gt ts k).1≤x
            · simp(disch:=omega) only[p16_1,q16_1,ltN,dT,cond_true,inR_nat,chk_t,ix_gt,dT hle,ff,fitK,a1]
              refine⟨_,rfl,max f ((gt ts k).2+1),rfl,by omega,by omega,?_,fun j hj q=>?_⟩
              · by_cases e:f≤(gt ts k).2+1
                · exact .inr ⟨k,by omega,hle,by omega⟩
                · rcases q3 with q3 | ⟨j,j1,j2,j3⟩
                  · exact .inl (by omega)
                  · exact .inr ⟨j,by omega,j2,by omega⟩
              · by_cases e:j=k
                · subst e; omega
                · have:=q4 j (by omega) q; omega
            · simp(disch:=omega) only[p16_1,q16_1,ltN,dT,cond_true,inR_nat,chk_t,ix_gt,dF hle,cond_false,fitK,a1]
              refine⟨_,rfl,f,rfl,q1,q2,?_,fun j hj q=>?_⟩
              · rcases q3 with q3 | ⟨j,j1,j2,j3⟩
                · exact .inl q3
                · exact .inr ⟨j,by omega,j2,j3⟩
              · by_cases e:j=k
                · subst e; exact absurd q hle
                · exact q4 j (by omega) q
          · rintro st ⟨f,rfl,q1,q2,q3,q4⟩
            simp(disch:=omega) only[p16_1,q16_1,ltN,dF,cond_false]
            refine⟨_,rfl,f,rfl,⟨q1,?_,fun k k1 k2 k3=>?_⟩,q2⟩
            · rcases q3 with q3 | ⟨j,j1,j2,j3⟩
              · exact .inl q3
              · obtain⟨kk,k1,k2,k3⟩:=(t2'.mem _).1 (gt_mem j1)
                obtain⟨g1,g2⟩:=(p2.mem kk).1 k1
                exact .inr ⟨kk,g1,by rw[k2,g2]; rfl,by rw[← k3]; exact j2,by rw[← k3]; exact j3⟩
            · rw[Bool.and_eq_true]at k2
              obtain⟨j,hj,e⟩:=mem_gt ((t2'.mem k.2.2.2).2 ⟨k,(p2.mem k).2 ⟨k1,k2.2⟩,k2.1,rfl⟩)
              have:=q4 j hj (by rw[e]; exact k3)
              rw[e]at this; exact this
        obtain⟨yy,y1,f,rfl,y2,y3⟩:=key
        exact⟨f,y1,y2,y3⟩
      have key:∃ r,L16_0 (n,some (mkP c s sums ks sp),0,n)=some r∧∃ k:Nat,r=(k:Int)∧Steps l c s (n+c.2.2.2.2.1) n k:=by
        refine while_relE (fun st t=>∃ (w:Nat) (x:Int),st=(n,some (mkP c s sums ks sp),(w:Int),x)∧t=(n+c.2.2.2.2.1-x).toNat∧n≤x∧x≤10400∧w+t≤1000∧∀ j,Steps l c s (n+c.2.2.2.2.1) x j→Steps l c s (n+c.2.2.2.2.1) n (w+j)) _
          ⟨0,n,rfl,rfl,by omega,by omega,by omega,fun j hj=>by rw[Nat.zero_add]; exact hj⟩ (by omega) ?_
        rintro st t ⟨w,x,rfl,rfl,q1,q2,q3,q4⟩
        simp only[p16_0,q16_0]
        dsimp only[dof,Option.getD_some,Option.isSome_some,mk_lk,mk_mn]
        simp only[chk_t,f1]
        cases hlk:c.2.2.2.2.2.1
        · left
          exact⟨_,rfl,w,rfl,by have:=q4 0 (.done (.inl hlk)); rwa [Nat.add_zero]at this⟩
        · by_cases hlt:x < n+c.2.2.2.2.1
          · right
            obtain⟨f,g1,g2,g3⟩:=hfar (w:Int) x (by omega) (by omega)
            have hgt:=far_gt hlk (hc.2 x q1 hlt) g2
            refine⟨_,(n+c.2.2.2.2.1-f).toNat,(congrArg (fun b=>cond b _ _) (dT hlt)).trans ?_,⟨w+1,f,rfl,rfl,by omega,by omega,by omega,fun j hj=>by rw[show w+1+j=w+(j+1)by omega]; exact q4 _ (.step hlk hlt g2 hj)⟩,by omega⟩
            simp(disch:=omega) only[cond_true,t1,bind_some',g1,fitK,a1,chk_t]
          · left
            exact⟨_,congrArg (fun b=>cond b _ _) (dF hlt),w,rfl,by have:=q4 0 (.done (.inr (by omega))); rwa [Nat.add_zero]at this⟩
      obtain⟨r,r1,k,rfl,r2⟩:=key
      exact⟨k,by simp only[P16,p16,q16,p1,bind_some',decide_true,Bool.not_true,cond_false,b1,hb,r1],r2⟩
end Go.Proofs.YtdacabdocbhkdaaGreat.D
