/- Cut down from longer texts. -/
import Derived.Test.YtdkaijofmigmbaaM1o
set_option linter.unusedVariables false
set_option linter.unusedSimpArgs false
set_option linter.unusedSectionVars false
namespace Go.Proofs.Ytdkaijofmigmbaa.D
open Go Go.Proofs Go.Proofs.Ytdkaijofmigmbaa.L
def x9 (l:List aq)(B k:Nat):aq:=gt l ((k+B) % l.length)
def lL (l:List aq)(B:Nat):Nat→List aq
 | 0=>[]
 | k+1=>lL l B k++[x9 l B k,gt l k]
def gX (l:List aq)(B:Nat)(m:Int):Nat→List aq
 | 0=>[]
 | k+1=>if(x9 l B k).2.1≤m then gX l B m k++[x9 l B k]else gX l B m k
theorem vE {l:List aq}(B k:Nat)(h:0 < l.length):x9 l B k∈l:=cU (Nat.mod_lt _ h)
theorem py (l:List aq)(B:Nat):∀ k,(lL l B k).length=2*k
 | 0=>rfl
 | k+1=>by rw[lL,List.length_append,py l B k]; simp; omega
theorem pA (l:List aq)(B:Nat)(m:Int):∀ k,(gX l B m k).length≤k
 | 0=>Nat.le_refl _
 | k+1=>by have:=pA l B m k; rw[gX]; split <;> simp <;> omega
theorem vF {l:List aq}(B:Nat):∀ k,k≤l.length→(∀ c∈lL l B k,c∈l)∧∀ j,j < k→gt l j∈lL l B k
 | 0,_=>⟨fun c h=>(by cases h),fun j h=>(by omega)⟩
 | k+1,hk=>by
  obtain⟨h1,h2⟩:=vF (l:=l) B k (by omega)
  rw[lL]
  refine⟨fun c hc=>?_,fun j hj=>?_⟩
  ·rcases List.mem_append.1 hc with q | q
   ·exact h1 c q
   ·simp only[List.mem_cons,List.not_mem_nil,or_false]at q
    rcases q with rfl | rfl
    ·exact vE (l:=l) B k (by omega)
    ·exact cU (l:=l) (by omega)
  ·by_cases e:j=k
   ·subst e; simp
   ·exact List.mem_append_left _ (h2 j (by omega))
theorem vG {l:List aq}(B:Nat)(m:Int)(c:aq):∀ k,c∈gX l B m k↔(∃ j,j < k∧x9 l B j=c)∧c.2.1≤m
 | 0=>by
  constructor
  ·intro h; cases h
  ·rintro⟨⟨j,h,_⟩,_⟩; omega
 | k+1=>by
  have ih:=vG (l:=l) B m c k
  rw[gX]
  split
  ·rename_i hm
   rw[List.mem_append,List.mem_singleton,ih]
   constructor
   ·rintro(⟨⟨j,h1,h2⟩,h3⟩ | rfl)
    ·exact⟨⟨j,by omega,h2⟩,h3⟩
    ·exact⟨⟨k,by omega,rfl⟩,hm⟩
   ·rintro⟨⟨j,h1,h2⟩,h3⟩
    by_cases e:j=k
    ·subst e; exact .inr h2.symm
    ·exact .inl ⟨⟨j,by omega,h2⟩,h3⟩
  ·rename_i hm
   rw[ih]
   constructor
   ·rintro⟨⟨j,h1,h2⟩,h3⟩; exact⟨⟨j,by omega,h2⟩,h3⟩
   ·rintro⟨⟨j,h1,h2⟩,h3⟩
    by_cases e:j=k
    ·subst e; rw[h2]at hm; exact absurd h3 hm
    ·exact⟨⟨j,by omega,h2⟩,h3⟩
theorem GU {l:List aq}(B:Nat){c:aq}(h:c∈l):∃ j,j < l.length∧x9 l B j=c:=by
 obtain⟨i,hi,rfl⟩:=eU h
 have hB:=Nat.mod_lt B (show 0 < l.length by omega)
 refine⟨(i+(l.length-B % l.length)) % l.length,Nat.mod_lt _ (by omega),?_⟩
 unfold x9
 congr 1
 rw[Nat.mod_add_mod,Nat.add_assoc,Nat.add_mod i]
 have e:(l.length-B % l.length+B) % l.length=0:=by
  have h1:l.length-B % l.length+B=l.length*(1+B / l.length):=by
   have:=Nat.div_add_mod B l.length
   rw[Nat.mul_add,Nat.mul_one]
   omega
  rw[h1]
  exact Nat.mul_mod_right _ _
 rw[e,Nat.add_zero,Nat.mod_mod,Nat.mod_eq_of_lt hi]
theorem lM {l:List aq}(B:Nat)(m:Int)(c:aq):c∈gX l B m l.length↔c∈l∧c.2.1≤m:=by
 rw[vG]
 constructor
 ·rintro⟨⟨j,hj,rfl⟩,h⟩; exact⟨vE B j (by omega),h⟩
 ·rintro⟨h1,h2⟩; exact⟨GU B h1,h2⟩
theorem J6 {l:List aq}{h:List Int×Int}{B:Nat}{m:Int}(hl:l.length≤20)(hB:B≤100):
  Ju (l,0,h,((B:Int),m),[],[])=some (l,h,((B:Int),m),lL l B l.length,gX l B m l.length):=by
 have key:=bT (step:=fun x=>X7 x.1 x.2.1 x.2.2.1 x.2.2.2.1 x.2.2.2.2.1 x.2.2.2.2.2) l.length (fun k=>(l,(k:Int),h,((B:Int),m),lL l B k,gX l B m k)) (l,h,((B:Int),m),lL l B l.length,gX l B m l.length)
  (fun k hk=>by
   show BH P12 P14 jQ P16 tr P20 l (k:Int) h ((B:Int),m) (lL l B k) (gX l B m k)=_
   unfold BH
   have h1:=py l B k
   have h2:=pA l B m k
   have f:ah .i64 ((k:Int)+1)=true:=aX (by omega)
   have e1:Int.tmod ((k:Int)+(B:Int)) (↑(List.length l):Int)=(((k+B) % l.length:Nat):Int):=rfl
   have hm:(k+B) % l.length < l.length:=Nat.mod_lt _ (by omega)
   simp only
   rw[show decide ((k:Int) < (↑(List.length l):Int))=true from bg hk,cond_true,aE (bY (by omega) (by omega)),aE (decide_eq_true (show(↑(List.length l):Int)≠0 by omega)),e1,aE (aN hm),aE (aN hk),cz,cz,
    aE (dC (by simp; omega))]
   by_cases c:(gt l ((k+B) % l.length)).2.1≤m
   ·rw[decide_eq_true c,cond_true,aE (dC (by simp; omega)),aE f]
    have e2:gX l B m (k+1)=gX l B m k++[gt l ((k+B) % l.length)]:=by rw[gX]; exact if_pos c
    rw[e2]
    rfl
   ·rw[decide_eq_false c,cond_false,aE f]
    have e2:gX l B m (k+1)=gX l B m k:=by rw[gX]; exact if_neg c
    rw[e2]
    rfl)
  (by
   show BH P12 P14 jQ P16 tr P20 l (l.length:Int) h ((B:Int),m) (lL l B l.length) (gX l B m l.length)=_
   unfold BH
   rw[show decide ((l.length:Int) < (↑(List.length l):Int))=false from bF _,cond_false])
  (by omega)
 exact key
theorem ya {h:List Int×Int}{l m:List aq}(hl:bC l)(hm:bC m)(he:∀ x,x∈m↔x∈l)(minute:Int):aF h m minute=aF h l minute:=by
 obtain⟨_,e2,e3,_⟩:=fR (l:=m) (by have:=hm.1; omega) hm.2.1 hm.2.2
 have:hrd m=hrd l:=jq (by have:=hl.1; omega) hl.2.1 hl.2.2 e2 fun x=>by rw[e3,he]
 unfold aF
 rw[this]
theorem vH {h:List Int×Int}{l m:List aq}(hl:bC l)(hm:bC m){minute:Int}(he:∀ x,x∈m↔x∈l∧x.2.1≤minute):aF h m minute=aF h l minute:=by
 obtain⟨_,e2,e3,_⟩:=fR (l:=l) (by have:=hl.1; omega) hl.2.1 hl.2.2
 obtain⟨a,b,e,h1,h2⟩:=x5 minute e2 fun c hc=>hl.2.1 c ((e3 c).1 hc)
 have hq:a=hrd m:=jq (by have:=hm.1; omega) hm.2.1 hm.2.2 (by rw[e,List.pairwise_append]at e2; exact e2.1) fun x=>by
  rw[he]
  constructor
  ·intro hx; exact⟨(e3 x).1 (by rw[e]; simp[hx]),h1 x hx⟩
  ·rintro⟨p,q⟩
   have:=(e3 x).2 p
   rw[e,List.mem_append]at this
   rcases this with r | r
   ·exact r
   ·have:=h2 x r; omega
 unfold aF
 rw[← hq,e,lK _ _ _ _ _ h1,vr _ _ b _ h2]
theorem GV {h:List Int×Int}{l:List aq}{m:Int}(hv:tu h l m):tr ((aF h l m).1,(aF h l m).1)=some (true,(aF h l m).1,(aF h l m).1):=by
 have hI:=IM.after (h:=h) hv.2.1 m
 have hlen:=hI.len
 have hsl:=sZ hv.1
 rw[SI _ _ (by omega) fun k hk=>by have:=hI.row (n9 hv.1) hk; omega,decide_eq_true rfl]
theorem GW (v:List Int)(hv:v.length≤1000000):P20 (v,v)=some true:=by rw[xX _ _ hv,decide_eq_true rfl]
theorem Pure.SeatsOrder' (h:List Int×Int)(l:List aq)(x:Int×Int):P6 (h,l,x)=some true:=by
 show q6 P12 P14 jQ P16 tr P20 Ju h l x=_
 unfold q6
 rw[x6,bind_some']
 simp only[td,bind_some']
 by_cases hv:tu h l x.2
 case neg=>rw[decide_eq_false hv]; rfl
 rw[decide_eq_true hv,Bool.not_true,cond_false]
 by_cases h20:20 < l.length
 ·rw[show decide (20 < (↑(List.length l):Int))=true from decide_eq_true (by omega)]; rfl
 rw[show decide (20 < (↑(List.length l):Int))=false from decide_eq_false (by omega),cond_false]
 by_cases hb:x.1 < 0
 ·rw[decide_eq_true hb]; rfl
 rw[decide_eq_false hb,cond_false]
 by_cases hb2:100 < x.1
 ·rw[decide_eq_true hb2]; rfl
 rw[decide_eq_false hb2,cond_false]
 obtain⟨B,m⟩:=x
 obtain⟨B,rfl⟩:∃ n:Nat,B=(n:Int):=⟨B.toNat,by simp only at hb; omega⟩
 simp only at hv hb hb2
 rw[J6 (by omega) (by omega),bind_some']
 obtain⟨a1,a2⟩:=vF (l:=l) B l.length (Nat.le_refl _)
 have am:∀ c,c∈lL l B l.length↔c∈l:=fun c=>⟨a1 c,fun hc=>by obtain⟨j,hj,rfl⟩:=eU hc; exact a2 j hj⟩
 have hall:bC (lL l B l.length):=⟨by rw[py]; omega,fun c hc=>hv.2.1.2.1 c (a1 c hc),fun a ha b hb e=>hv.2.1.2.2 a (a1 a ha) b (a1 b hb) e⟩
 have hear:bC (gX l B m l.length):=⟨by have:=pA l B m l.length; omega,fun c hc=>hv.2.1.2.1 c ((lM B m c).1 hc).1,fun a ha b hb e=>hv.2.1.2.2 a ((lM B m a).1 ha).1 b ((lM B m b).1 hb).1 e⟩
 have v2:tu h (lL l B l.length) m:=⟨hv.1,hall,hv.2.2⟩
 have v3:tu h (gX l B m l.length) m:=⟨hv.1,hear,hv.2.2⟩
 have e2:=ya (h:=h) hv.2.1 hall am m
 have e3:=vH (h:=h) hv.2.1 hear (lM B m)
 obtain⟨w1,w2⟩:=kR (h:=h) m hv.2.1
 have w3:=AB w2
 have m1:=x8 hv
 have m2:=x8 v2
 have m3:=x8 v3
 have n1:=oa hv
 have n2:=oa v2
 have n3:=oa v3
 rw[e2]at m2 n2
 rw[e3]at m3 n3
 simp only[m1,m2,m3,n1,n2,n3,bind_some',decide_true,cond_true,GV hv,GW _ (show(GL (aF h l m).2.2).length≤1000000 by omega)]
theorem Pure.SeatsOrder (h:List Int×Int)(_:Wf TyH h)(l:List aq)(_:Wf TyC l)(x:Int×Int)(_:Wf (.pair (.int .i64) (.int .i64)) x):P6 (h,l,x)=some true:=Pure.SeatsOrder' h l x
end Go.Proofs.Ytdkaijofmigmbaa.D
