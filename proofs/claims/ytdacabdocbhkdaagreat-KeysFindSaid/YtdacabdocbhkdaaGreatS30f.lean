/- Cut down from a longer text. -/
import Derived.Test.YtdacabdocbhkdaaGreatS29f
set_option linter.unusedVariables false
set_option linter.unusedSimpArgs false
set_option linter.unusedSectionVars false
namespace Go.Proofs.YtdacabdocbhkdaaGreat.D
open Go Go.Proofs Go.Proofs.YtdacabdocbhkdaaGreat.L
theorem P134_eq (x y:Int):P134 (x,y)=some (decide (x < y)):=by
 have h:∀ x:Int,P162 x=some false:=fun x=>by simp only[P162,p162,q162,decide_true,Bool.not_true]
 simp only[P134,p134,q134,h,bind_some',cond_false]
theorem P66_eq {l:List Int}(hl:l.length≤12):∃ l',P66 l=some l'∧l'.Perm l∧l'.Pairwise (·≤·):=by
 obtain⟨l',h1,h2,h3⟩:=Pdq67.srt (fun x=>x) (fun _=>True) 0 trivial (fun x y _ _=>⟨_,P134_eq x y,by rw[decide_eq_true_eq]⟩) (l:=l) (fun _ _=>trivial) hl
 exact⟨l',h1,h2,sd_pw h3⟩
theorem asc_of {l:List Int}(h:l.Pairwise (·≤·))(hn:l.Nodup):l.Pairwise (· < ·):=by
 have:=List.Pairwise.and h hn
 exact this.imp fun⟨a,b⟩=>by omega
noncomputable def canB (l:LT)(c:CT)(s:VT)(n:Int):Bool:=@decide (canM l c s n) (Classical.propDecidable _)
theorem canB_iff {l:LT}{c:CT}{s:VT}{n:Int}:canB l c s n=true↔canM l c s n:=@decide_eq_true_iff _ (Classical.propDecidable _)
def wildB (a b:Int):Bool:=cond (decide (a = -1)) true (decide (a=b))
theorem P64_eq (a b:Int):P64 (a,b)=some (wildB a b):=by
 simp only[P64,p64,q64,wildB]
 cases decide (a = -1) <;> rfl
noncomputable def goodB (l:LT)(w:CT)(s:VT)(n:Int)(c:CT):Bool:=decide (c.2.1=w.2.1)&&(wildB w.2.2.1 c.2.2.1&&(wildB w.2.2.2.1 c.2.2.2.1&&canB l c s n))
structure FindOk (l:LT) (y n:Int) (s:VT):Prop where
 v:chkV l=0
 s:fsV l y=some s
 n:0≤n∧n≤9999
theorem FindOk.ask {l:LT}{y n:Int}{s:VT}(h:FindOk l y n s){c:CT}(hc:c∈l.2.1):AskOk l c.1 y n c s:=by
 refine⟨h.v,?_,h.s,h.n⟩
 have hok:=lib_ok (chkV_iff.1 h.v).1
 unfold fcV
 cases hf:l.2.1.find? fun x=>decide (x.1=c.1)with
 | none=>have:=List.find?_eq_none.1 hf c hc; simp at this
 | some c'=>
  have e:=List.find?_some hf
  rw[decide_eq_true_eq]at e
  rw[hok.cu.eq (List.mem_of_find?_eq_some hf) hc e]
theorem L37_0_eq {l:LT}(hz:szL l){y n:Int}{s:VT}(w:CT)(h:FindOk l y n s):L37_0 (n,l.2.1,(l.2.1.length:Int),0,l,w,s,[])=some (l,w,s,(l.2.1.filter (goodB l w s n)).map (·.1)):=by
 have zc:=hz.c
 refine while_flt (step:=fun x=>p37_0 x.1 x.2.1 x.2.2.1 x.2.2.2.1 x.2.2.2.2.1 x.2.2.2.2.2.1 x.2.2.2.2.2.2.1 x.2.2.2.2.2.2.2) l.2.1 (goodB l w s n) (·.1) (fun k out=>(n,l.2.1,(l.2.1.length:Int),(k:Int),l,w,s,out)) (fun out=>(l,w,s,out)) (fun k out hk ho=>?_) (fun out ho=>by simp(disch:=omega) only[p37_0,q37_0,ltN,dF,cond_false]) (by omega)
 have c3:capOk 8 (out.length+([(gt l.2.1 k).1]:List Int).length)=true:=capOk_sm (by omega) (by simp only[List.length_cons,List.length_nil]; omega)
 have ha:=h.ask (gt_mem hk)
 obtain⟨sums,ks,sp,p1,p2⟩:=P65_eq hz ha.lib ha.cm ha.sm
 obtain⟨b,b1,b2⟩:=P44_eq (put_of hz ha p2) (n:=n) (by have:=h.n; omega)
 have hb:b=canB l (gt l.2.1 k) s n:=by rw[Bool.eq_iff_iff,b2,canB_iff]
 subst hb
 simp(disch:=omega) only[p37_0,q37_0,ltN,dT,cond_true,inR_nat,chk_t,ix_gt,P64_eq,bind_some',p1,b1,c3,fitK,a1,goodB]
 cases decide ((gt l.2.1 k).2.1=w.2.1)
 ·rfl
 cases wildB w.2.2.1 (gt l.2.1 k).2.2.1
 ·rfl
 cases wildB w.2.2.2.1 (gt l.2.1 k).2.2.2.1
 ·rfl
 cases canB l (gt l.2.1 k) s n <;> rfl
noncomputable def goodI (l:LT)(w:CT)(s:VT)(n:Int)(i:Nat):Bool:=match fcV l (i:Int)with
 | some c=>goodB l w s n c
 | none=>false
theorem gt_range {n k:Nat}(h:k < n):gt (List.range n) k=k:=by
 rw[gt_lt (by simpa using h)]; simp
theorem L38_0_eq {l:LT}(hz:szL l){y n:Int}{s:VT}(w:CT)(h:FindOk l y n s):L38_0 (n,0,l,w,s,[])=some (l,w,s,((List.range 100).filter (goodI l w s n)).map fun i:Nat=>(i:Int)):=by
 have zc:=hz.c
 refine while_flt (step:=fun x=>p38_0 x.1 x.2.1 x.2.2.1 x.2.2.2.1 x.2.2.2.2.1 x.2.2.2.2.2) (List.range 100) (goodI l w s n) (fun i:Nat=>(i:Int)) (fun k out=>(n,(k:Int),l,w,s,out)) (fun out=>(l,w,s,out)) (fun k out hk ho=>?_) (fun out ho=>?_) (by simp)
 ·rw[List.length_range]at hk
  rw[gt_range hk]
  have c3:capOk 8 (out.length+([(k:Int)]:List Int).length)=true:=capOk_sm (by omega) (by simp only[List.length_cons,List.length_nil]; omega)
  have g1:(k:Int)≤99:=by omega
  unfold goodI
  cases hc:fcV l (k:Int)with
  | none=>simp(disch:=omega) only[p38_0,q38_0,dT g1,cond_true,P19_eq,hc,compV,bind_some',Bool.not_false,cond_false,fitK,chk_t,a1]
  | some c=>
   have hcm:c∈l.2.1:=List.mem_of_find?_eq_some hc
   obtain⟨r,r1,r2⟩:=P58_eq hz (h.ask hcm)
   have hcan:=r2.can (h.ask hcm).mn.1
   have hb:decide (r.1=0)=canB l c s n:=by rw[Bool.eq_iff_iff,decide_eq_true_eq,hcan,canB_iff]
   have e1:∀ a b:Int,decide (a=b)=decide (b=a):=fun a b=>by rw[Bool.eq_iff_iff,decide_eq_true_eq,decide_eq_true_eq]; exact eq_comm
   simp(disch:=omega) only[p38_0,q38_0,dT g1,cond_true,P19_eq,hc,compV,bind_some',Bool.not_true,cond_false,r1,hb,c3,fitK,chk_t,a1,goodB,wildB,e1 w.2.2.1 c.2.2.1,e1 w.2.2.2.1 c.2.2.2.1]
   cases decide (c.2.1=w.2.1)
   ·rfl
   cases decide (w.2.2.1 = -1)
   ·cases decide (c.2.2.1=w.2.2.1)
    ·rfl
    cases decide (w.2.2.2.1 = -1)
    ·cases decide (c.2.2.2.1=w.2.2.2.1)
     ·rfl
     cases canB l c s n <;> rfl
    ·cases canB l c s n <;> rfl
   ·cases decide (w.2.2.2.1 = -1)
    ·cases decide (c.2.2.2.1=w.2.2.2.1)
     ·rfl
     cases canB l c s n <;> rfl
    ·cases canB l c s n <;> rfl
 ·rw[List.length_range]
  have g1:¬ ((100:Nat):Int)≤99:=by omega
  simp only[p38_0,q38_0,dF g1,cond_false]
theorem Pure.KeysFind' (l:LT)(w:CT)(x:Int×Int×Int):P11 (l,w,x)=some true:=by
 obtain⟨a,y,n⟩:=x
 simp only[P11,p11,q11,P27_eq,bind_some',works]
 cases hf:farV l
 ·have hz:=far_sz hf
  have zc:=hz.c
  have zs:=hz.s
  have fin:∀ (e:Int) (m:List Int),m.length≤1000→P37 (l,w,y,n)=some (e,m)→P38 (l,w,y,n)=some (e,m)→(cond false (some true) ((P25 l).bind fun r3=>(P37 (r3,w,y,n)).bind fun r4=>(P38 (l,w,y,n)).bind fun r5=>(P31 (r4.2,r5.2)).bind fun r6=>cond r6 (cond (decide (r4.1=r5.1)) (some true) (some false)) (some false)))=some true:=fun e m hm h1 h2=>by
   simp(disch:=omega) only[cond_false,P25_eq hz,bind_some',h1,h2,P31_refl,cond_true,decide_true]
  by_cases hv:chkV l=0
  ·cases hs:fsV l y with
   | none=>
    refine fin 1 [] (by simp) ?_ ?_
    ·simp(disch:=omega) only[P37,p37,q37,P28_eq l hz,bind_some',hv,decide_true,Bool.not_true,cond_false,P60_eq,hs,servV,Bool.not_false,cond_true]
    ·simp(disch:=omega) only[P38,p38,q38,P26_eq l hz,bind_some',hv,decide_true,Bool.not_true,cond_false,P20_eq,hs,servV,Bool.not_false,cond_true]
   | some s=>
    cases w1:wi n 0 9999
    ·refine fin 1 [] (by simp) ?_ ?_
     ·simp(disch:=omega) only[P37,p37,q37,P28_eq l hz,bind_some',hv,decide_true,Bool.not_true,cond_false,P60_eq,hs,servV,P61_eq,w1,Bool.not_false,cond_true]
     ·simp(disch:=omega) only[P38,p38,q38,P26_eq l hz,bind_some',hv,decide_true,Bool.not_true,cond_false,P20_eq,hs,servV,P67_eq,w1,Bool.not_false,cond_true]
    cases w2:wi w.2.1 0 99
    ·refine fin 1 [] (by simp) ?_ ?_
     ·simp(disch:=omega) only[P37,p37,q37,P28_eq l hz,bind_some',hv,decide_true,Bool.not_true,cond_false,P60_eq,hs,servV,P61_eq,w1,P62_eq,w2,Bool.not_false,cond_true]
     ·simp(disch:=omega) only[P38,p38,q38,P26_eq l hz,bind_some',hv,decide_true,Bool.not_true,cond_false,P20_eq,hs,servV,P67_eq,w1,w2,Bool.not_false,cond_true]
    cases w3:wi w.2.2.1 (-1) 9
    ·refine fin 1 [] (by simp) ?_ ?_
     ·simp(disch:=omega) only[P37,p37,q37,P28_eq l hz,bind_some',hv,decide_true,Bool.not_true,cond_false,P60_eq,hs,servV,P61_eq,w1,P62_eq,w2,P63_eq,w3,Bool.not_false,cond_true]
     ·simp(disch:=omega) only[P38,p38,q38,P26_eq l hz,bind_some',hv,decide_true,Bool.not_true,cond_false,P20_eq,hs,servV,P67_eq,w1,w2,w3,Bool.not_false,cond_true]
    cases w4:wi w.2.2.2.1 (-1) 9
    ·refine fin 1 [] (by simp) ?_ ?_
     ·simp(disch:=omega) only[P37,p37,q37,P28_eq l hz,bind_some',hv,decide_true,Bool.not_true,cond_false,P60_eq,hs,servV,P61_eq,w1,P62_eq,w2,P63_eq,w3,w4,Bool.not_false,cond_true]
     ·simp(disch:=omega) only[P38,p38,q38,P26_eq l hz,bind_some',hv,decide_true,Bool.not_true,cond_false,P20_eq,hs,servV,P67_eq,w1,w2,w3,w4,Bool.not_false,cond_true]
    have h:FindOk l y n s:=⟨hv,hs,wi_iff.1 w1⟩
    have hok:=lib_ok (chkV_iff.1 hv).1
    have e37:=L37_0_eq hz w h
    have e38:=L38_0_eq hz w h
    have len37:((l.2.1.filter (goodB l w s n)).map (·.1)).length≤8:=by
     rw[List.length_map]; exact Nat.le_trans (List.length_filter_le _ _) hok.c8
    obtain⟨l',q1,q2,q3⟩:=P66_eq (l:=(l.2.1.filter (goodB l w s n)).map (·.1)) (by omega)
    have nd:((l.2.1.filter (goodB l w s n)).map (·.1)).Nodup:=by
     have h1:(l.2.1.map (·.1)).Nodup:=hok.cu
     exact h1.sublist ((List.filter_sublist (p:=goodB l w s n) (l:=l.2.1)).map _)
    have asc1:=asc_of q3 (q2.nodup_iff.2 nd)
    have asc2:(((List.range 100).filter (goodI l w s n)).map fun i:Nat=>(i:Int)).Pairwise (· < ·):=by
     rw[List.pairwise_map]
     exact(List.pairwise_lt_range.filter _).imp fun h=>by omega
    have same:l'=((List.range 100).filter (goodI l w s n)).map fun i:Nat=>(i:Int):=asc_ext asc1 asc2 fun x=>by
     rw[q2.mem_iff,List.mem_map,List.mem_map]
     constructor
     ·rintro⟨c,hc,rfl⟩
      obtain⟨c1,c2⟩:=List.mem_filter.1 hc
      have c3:=(hok.comp c c1).2
      refine⟨c.1.toNat,List.mem_filter.2 ⟨List.mem_range.2 (by omega),?_⟩,by omega⟩
      have e:((c.1.toNat:Nat):Int)=c.1:=by omega
      unfold goodI
      rw[e,(h.ask c1).c]; exact c2
     ·rintro⟨i,hi,rfl⟩
      obtain⟨i1,i2⟩:=List.mem_filter.1 hi
      unfold goodI at i2
      cases hc:fcV l (i:Int)with
      | none=>rw[hc]at i2; cases i2
      | some c=>
       rw[hc]at i2
       have e:=List.find?_some hc
       rw[decide_eq_true_eq]at e
       exact⟨c,List.mem_filter.2 ⟨List.mem_of_find?_eq_some hc,i2⟩,e⟩
    refine fin 0 l' (by rw[q2.length_eq]; omega) ?_ ?_
    ·simp(disch:=omega) only[P37,p37,q37,P28_eq l hz,bind_some',hv,decide_true,Bool.not_true,cond_false,P60_eq,hs,servV,P61_eq,w1,P62_eq,w2,P63_eq,w3,w4,e37,q1]
    ·simp(disch:=omega) only[P38,p38,q38,P26_eq l hz,bind_some',hv,decide_true,Bool.not_true,cond_false,P20_eq,hs,servV,P67_eq,w1,w2,w3,w4,e38,same]
  ·refine fin (chkV l) [] (by simp) ?_ ?_
   ·simp only[P37,p37,q37,P28_eq l hz,bind_some',decide_eq_false hv,Bool.not_false,cond_true]
   ·simp only[P38,p38,q38,P26_eq l hz,bind_some',decide_eq_false hv,Bool.not_false,cond_true]
 ·rfl
theorem Pure.KeysFind (l:LT)(_:Wf TyL l)(w:CT)(_:Wf (.pair (.int .i64) (.pair (.int .i64) (.pair (.int .i64) (.pair (.int .i64) (.pair (.int .i64) (.pair .bool (.sl (.int .i64)))))))) w)(x:Int×Int×Int)(_:Wf TyA x):P11 (l,w,x)=some true:=Pure.KeysFind' l w x
end Go.Proofs.YtdacabdocbhkdaaGreat.D
