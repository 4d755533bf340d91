/- Cut down from a longer text. -/
import Derived.Test.YtdacabdocbhkdaaGreatS3m
set_option linter.unusedVariables false
set_option linter.unusedSimpArgs false
namespace Go.Proofs.YtdacabdocbhkdaaGreat.D
open Go Go.Proofs L
theorem P67_eq (n a b:Int):P67 (n,a,b)=some (wi n a b):=wi_cond n a b
theorem P85_eq {l:List Int}(hl:l.length≤1000):P85 l=some (ascB l):=by
 have e:L85_0 (l,0)=some (cond (ascB l) (.inr ()) (.inl false)):=
  while_all l.length (fun k=>(l,(k:Int))) (fun i=>wi (gt l i) 0 99&&(decide (i=0)||decide (gt l (i-1) < gt l i))) _ _ (fun k hk=>by
   simp(disch:=omega) only[p85_0,q85_0,ltN,dT,cond_true,inR_nat,chk_t,ix_gt,P67_eq,bind_some',fitK,a1]
   cases wi (gt l k) 0 99
   ·rfl
   ·cases k with
    | zero=>rfl
    | succ k=>
     have g:decide ((0:Int) < ((k+1:Nat):Int))=true:=decide_eq_true (by omega)
     have g2:decide (gt l (k+1)≤gt l k)=!decide (gt l k < gt l (k+1)):=by rw[Bool.eq_iff_iff]; simp
     simp(disch:=omega) only[g,Bool.not_true,cond_false,cond_true,p1,fitK,chk_t,Nat.add_sub_cancel,inR_nat,ix_gt,g2]
     cases decide (gt l k < gt l (k+1)) <;> rfl) (by simp(disch:=omega) only[p85_0,q85_0,ltN,dF,cond_false]) (by omega)
 simp only[P85,p85,q85,e,bind_some']
 cases ascB l <;> rfl
theorem apB_eq {n:Nat}{f:Nat→Int}{rt ok:Nat→Bool}(h:∀ i,i < n→ok i=((wi (f i) 0 99&&rt i)&&allB i fun k=>!decide (f k=f i))):allB n ok=apB n f rt:=by
 unfold apB
 refine allB_congr fun i hi=>?_
 rw[h i hi]
 cases wi (f i) 0 99 <;> cases rt i <;> cases(allB i fun k=>!decide (f k=f i)) <;> rfl
theorem P83_eq {l:List AT}(hl:l.length≤1000):P83 l=some (filesB l):=by
 have e:L83_0 (l,0)=some (cond (filesB l) (.inr ()) (.inl false)):=by
  unfold filesB
  rw[← apB_eq (ok:=fun i=>(wi (gt l i).1 0 99&&wi (gt l i).2 0 999)&&allB i fun k=>!decide ((gt l k).1=(gt l i).1)) fun i _=>rfl]
  refine while_all l.length (fun k=>(l,(k:Int))) _ _ _ (fun k hk=>?_) (by simp(disch:=omega) only[p83_0,q83_0,ltN,dF,cond_false]) (by omega)
  have e1:∀ b:Bool,L83_1 (l,(k:Int),0,b)=some (cond (allB k fun j=>!decide ((gt l j).1=(gt l k).1)) (.inr (l,(k:Int),b)) (.inl false)):=fun b=>
   while_all k (fun j=>(l,(k:Int),(j:Int),b)) (fun j=>!decide ((gt l j).1=(gt l k).1)) _ _ (fun j hj=>by
    simp(disch:=omega) only[p83_1,q83_1,ltN,dT,cond_true,inR_nat,chk_t,ix_gt,fitK,a1]
    cases decide ((gt l j).1=(gt l k).1) <;> rfl) (by simp(disch:=omega) only[p83_1,q83_1,ltN,dF,cond_false]) (by omega)
  simp(disch:=omega) only[p83_0,q83_0,ltN,dT,cond_true,inR_nat,chk_t,ix_gt,P67_eq,bind_some',e1]
  cases wi (gt l k).1 0 99
  ·rfl
  cases wi (gt l k).2 0 999
  ·rfl
  cases allB k fun j=>!decide ((gt l j).1=(gt l k).1)
  ·rfl
  ·simp(disch:=omega) only[Bool.not_true,cond_false,cond_true,elim_inr,a1,fitK,chk_t,Bool.and_self]
 simp only[P83,p83,q83,e,bind_some']
 cases filesB l <;> rfl
def smV (l:List AT)(a:Int):Int×Bool:=match l.find? fun x=>decide (x.1=a)with
 | some x=>(x.2,true)
 | none=>(0,false)
theorem smV_has (l:List AT)(a:Int):(smV l a).2=hasA l a:=by
 unfold smV hasA
 rcases fix_cases l fun x=>decide (x.1=a)with⟨k,hk,h1,h2,h3,h4,h5⟩ | ⟨h1,h2,h3,h4⟩
 ·rw[h4,h5]
 ·rw[h3,h4]
theorem P105_eq {l:List AT}(a:Int)(hl:l.length≤1000):P105 (l,a)=some (smV l a):=by
 unfold smV
 rcases while_find (step:=fun x=>p105_0 x.1 x.2.1 x.2.2) l.length (fun k=>(l,a,(k:Int))) (fun k=>decide ((gt l k).1=a)) (fun k=>.inl ((gt l k).2,true)) (.inr ()) (fun k hk _=>by
   simp(disch:=omega) only[p105_0,q105_0,ltN,dT,cond_true,inR_nat,chk_t,ix_gt,fitK,a1]
   cases decide ((gt l k).1=a) <;> rfl) (fun _=>by simp(disch:=omega) only[p105_0,q105_0,ltN,dF,cond_false]) (by omega)with⟨k,hk,h1,h2,h3⟩ | ⟨h1,h2⟩
 ·have e:L105_0 (l,a,0)=some (.inl ((gt l k).2,true)):=h3
  rw[find_at hk h1 h2]
  simp only[P105,p105,q105,e,bind_some',elim_inl]
 ·have e:L105_0 (l,a,0)=some (.inr ()):=h2
  rw[find_no h1]
  simp only[P105,p105,q105,e,bind_some',elim_inr]
theorem any_not {l:List Int}{p:Int→Bool}:l.any (fun a=>!p a)=!l.all p:=by
 rw[Bool.eq_iff_iff]; simp
theorem P84_eq {A:List AT}(c:CT)(hA:A.length≤1000)(hc:c.2.2.2.2.2.2.length≤1000):P84 (A,c)=some (wi c.1 0 99&&compR A c):=by
 have e:L84_0 (A,0,c)=some (cond (c.2.2.2.2.2.2.all (hasA A)) (.inr c) (.inl (false,c))):=by
  rw[← all_eq]
  refine while_all c.2.2.2.2.2.2.length (fun k=>(A,(k:Int),c)) (fun k=>hasA A (gt c.2.2.2.2.2.2 k)) _ _ (fun k hk=>?_) (by simp(disch:=omega) only[p84_0,q84_0,ltN,dF,cond_false]) (by omega)
  simp(disch:=omega) only[p84_0,q84_0,ltN,dT,cond_true,inR_nat,chk_t,ix_gt,P105_eq,bind_some',smV_has,fitK,a1]
  cases hasA A (gt c.2.2.2.2.2.2 k) <;> rfl
 unfold compR
 simp only[P84,p84,q84,e,bind_some',any_not,Bool.not_not]
 cases c.2.2.2.2.2.2.all (hasA A)
 ·simp
 simp(disch:=omega) only[cond_true,elim_inr,P67_eq,P85_eq,bind_some',lt0,Bool.and_true]
 cases wi c.1 0 99
 ·rfl
 cases wi c.2.1 0 99
 ·rfl
 cases wi c.2.2.1 0 9
 ·rfl
 cases wi c.2.2.2.1 0 9
 ·rfl
 cases wi c.2.2.2.2.1 1 400
 ·rfl
 cases lenB 1 c.2.2.2.2.2.2.length <;> rfl
theorem wi16 (n:Nat):wi (n:Int) 1 6=(lenB 1 n&&lenB n 6):=by
 unfold wi lenB
 rw[Bool.eq_iff_iff]; simp only[Bool.and_eq_true,decide_eq_true_eq]; omega
theorem P48_eq (l:LT)(hz:szL l):P48 l=some (libB l):=by
 have za:=hz.a
 have zc:=hz.c
 have zs:=hz.s
 have zk:=hz.k
 have zr:=hz.r
 have e0:L48_0 (0,l)=some (cond (apB l.2.1.length (fun i=>(gt l.2.1 i).1) (fun i=>compR l.1 (gt l.2.1 i))) (.inr l) (.inl (false,l))):=by
  rw[← apB_eq (ok:=fun i=>(wi (gt l.2.1 i).1 0 99&&compR l.1 (gt l.2.1 i))&&allB i fun k=>!decide ((gt l.2.1 k).1=(gt l.2.1 i).1)) fun i _=>rfl]
  refine while_all l.2.1.length (fun k=>((k:Int),l)) _ _ _ (fun k hk=>?_) (by simp(disch:=omega) only[p48_0,q48_0,ltN,dF,cond_false]) (by omega)
  have hc:=hz.ca _ (gt_mem hk)
  have e1:L48_1 ((k:Int),0,l)=some (cond (allB k fun j=>!decide ((gt l.2.1 j).1=(gt l.2.1 k).1)) (.inr ((k:Int),l)) (.inl (false,l))):=
   while_all k (fun j=>((k:Int),(j:Int),l)) (fun j=>!decide ((gt l.2.1 j).1=(gt l.2.1 k).1)) _ _ (fun j hj=>by
    simp(disch:=omega) only[p48_1,q48_1,ltN,dT,cond_true,inR_nat,chk_t,ix_gt,fitK,a1]
    cases decide ((gt l.2.1 j).1=(gt l.2.1 k).1) <;> rfl) (by simp(disch:=omega) only[p48_1,q48_1,ltN,dF,cond_false]) (by omega)
  simp(disch:=omega) only[p48_0,q48_0,ltN,dT,cond_true,inR_nat,chk_t,ix_gt,P84_eq,bind_some',e1]
  cases(wi (gt l.2.1 k).1 0 99&&compR l.1 (gt l.2.1 k))
  ·rfl
  cases allB k fun j=>!decide ((gt l.2.1 j).1=(gt l.2.1 k).1)
  ·rfl
  ·simp(disch:=omega) only[Bool.not_true,cond_false,cond_true,elim_inr,a1,fitK,chk_t,Bool.and_self]
 have e2:L48_2 (0,l)=some (cond (apB l.2.2.1.length (fun i=>(gt l.2.2.1 i).1) (fun i=>servR (gt l.2.2.1 i))) (.inr l) (.inl (false,l))):=by
  rw[← apB_eq (ok:=fun i=>(wi (gt l.2.2.1 i).1 0 99&&servR (gt l.2.2.1 i))&&allB i fun k=>!decide ((gt l.2.2.1 k).1=(gt l.2.2.1 i).1)) fun i _=>rfl]
  refine while_all l.2.2.1.length (fun k=>((k:Int),l)) _ _ _ (fun k hk=>?_) (by simp(disch:=omega) only[p48_2,q48_2,ltN,dF,cond_false]) (by omega)
  have hd:=hz.sd _ (gt_mem hk)
  have hf:=hz.sf _ (gt_mem hk)
  have e1:∀ x y z:Bool,L48_3 ((k:Int),0,x,y,z,l,gt l.2.2.1 k)=some (cond (allB k fun j=>!decide ((gt l.2.2.1 j).1=(gt l.2.2.1 k).1)) (.inr ((k:Int),x,y,z,l,gt l.2.2.1 k)) (.inl (false,l,gt l.2.2.1 k))):=fun x y z=>
   while_all k (fun j=>((k:Int),(j:Int),x,y,z,l,gt l.2.2.1 k)) (fun j=>!decide ((gt l.2.2.1 j).1=(gt l.2.2.1 k).1)) _ _ (fun j hj=>by
    simp(disch:=omega) only[p48_3,q48_3,ltN,dT,cond_true,inR_nat,chk_t,ix_gt,fitK,a1]
    cases decide ((gt l.2.2.1 j).1=(gt l.2.2.1 k).1) <;> rfl) (by simp(disch:=omega) only[p48_3,q48_3,ltN,dF,cond_false]) (by omega)
  simp(disch:=omega) only[p48_2,q48_2,ltN,dT,cond_true,inR_nat,chk_t,ix_gt,P67_eq,P85_eq,P83_eq,bind_some',e1,wi16,gt20,servR]
  cases wi (gt l.2.2.1 k).1 0 99
  ·rfl
  cases lenB 1 (gt l.2.2.1 k).2.1.length
  ·rfl
  cases lenB (gt l.2.2.1 k).2.1.length 6
  ·simp
  cases ascB (gt l.2.2.1 k).2.1
  ·rfl
  cases lenB (gt l.2.2.1 k).2.2.length 20
  ·rfl
  cases filesB (gt l.2.2.1 k).2.2
  ·rfl
  cases allB k fun j=>!decide ((gt l.2.2.1 j).1=(gt l.2.2.1 k).1)
  ·rfl
  ·simp(disch:=omega) only[Bool.not_true,cond_false,cond_true,elim_inr,a1,fitK,chk_t,Bool.and_self]
 have e4:L48_4 (0,l)=some (cond (l.2.2.2.1.all keyB) (.inr l) (.inl (false,l))):=by
  rw[← all_eq]
  refine while_all l.2.2.2.1.length (fun k=>((k:Int),l)) (fun i=>keyB (gt l.2.2.2.1 i)) _ _ (fun k hk=>?_) (by simp(disch:=omega) only[p48_4,q48_4,ltN,dF,cond_false]) (by omega)
  have hd:=hz.kd _ (gt_mem hk)
  have g1:decide ((gt l.2.2.2.1 k).2.2.2.1 < 0)=!decide (0≤(gt l.2.2.2.1 k).2.2.2.1):=by rw[Bool.eq_iff_iff]; simp
  have g2:decide ((gt l.2.2.2.1 k).2.2.2.2 < (gt l.2.2.2.1 k).2.2.2.1)=!decide ((gt l.2.2.2.1 k).2.2.2.1≤(gt l.2.2.2.1 k).2.2.2.2):=by rw[Bool.eq_iff_iff]; simp
  have g3:decide (9999 < (gt l.2.2.2.1 k).2.2.2.2)=!decide ((gt l.2.2.2.1 k).2.2.2.2≤9999):=by rw[Bool.eq_iff_iff]; simp
  have w:wi (gt l.2.2.2.1 k).2.2.2.1 0 (gt l.2.2.2.1 k).2.2.2.2=(decide (0≤(gt l.2.2.2.1 k).2.2.2.1)&&decide ((gt l.2.2.2.1 k).2.2.2.1≤(gt l.2.2.2.1 k).2.2.2.2)):=rfl
  simp(disch:=omega) only[p48_4,q48_4,ltN,dT,cond_true,inR_nat,chk_t,ix_gt,P67_eq,P85_eq,bind_some',gt12,fitK,a1,g1,g2,g3,keyB,w]
  cases wi (gt l.2.2.2.1 k).1 0 99
  ·rfl
  cases wi (gt l.2.2.2.1 k).2.1 0 99
  ·rfl
  cases lenB (gt l.2.2.2.1 k).2.2.1.length 12
  ·simp
  cases ascB (gt l.2.2.2.1 k).2.2.1
  ·rfl
  cases decide (0≤(gt l.2.2.2.1 k).2.2.2.1)
  ·rfl
  cases decide ((gt l.2.2.2.1 k).2.2.2.1≤(gt l.2.2.2.1 k).2.2.2.2)
  ·rfl
  cases decide ((gt l.2.2.2.1 k).2.2.2.2≤9999) <;> rfl
 have e5:L48_5 (0,l)=some (cond (l.2.2.2.2.all fun r=>wi r 0 99) (.inr l) (.inl (false,l))):=by
  rw[← all_eq]
  refine while_all l.2.2.2.2.length (fun k=>((k:Int),l)) (fun i=>wi (gt l.2.2.2.2 i) 0 99) _ _ (fun k hk=>?_) (by simp(disch:=omega) only[p48_5,q48_5,ltN,dF,cond_false]) (by omega)
  simp(disch:=omega) only[p48_5,q48_5,ltN,dT,cond_true,inR_nat,chk_t,ix_gt,P67_eq,bind_some',fitK,a1]
  cases wi (gt l.2.2.2.2 k) 0 99 <;> rfl
 unfold libB sizB
 simp(disch:=omega) only[P48,p48,q48,bind_some',gt12,gt8,gt6,gt20,P83_eq,e0]
 cases lenB l.1.length 12
 ·rfl
 cases lenB l.2.1.length 8
 ·rfl
 cases lenB l.2.2.1.length 6
 ·rfl
 cases lenB l.2.2.2.1.length 20
 ·rfl
 cases lenB l.2.2.2.2.length 20
 ·rfl
 cases filesB l.1
 ·simp
 cases apB l.2.1.length (fun i=>(gt l.2.1 i).1) fun i=>compR l.1 (gt l.2.1 i)
 ·simp
 simp only[Bool.not_true,cond_false,cond_true,elim_inr,e2,bind_some']
 cases apB l.2.2.1.length (fun i=>(gt l.2.2.1 i).1) fun i=>servR (gt l.2.2.1 i)
 ·simp
 simp only[cond_true,elim_inr,e4,bind_some']
 cases l.2.2.2.1.all keyB
 ·rfl
 simp only[cond_true,elim_inr,e5,bind_some']
 cases l.2.2.2.2.all fun r=>wi r 0 99 <;> rfl
theorem P122_eq {a b:List Int}(ha:a.length≤1000)(hb:b.length≤1000):P122 (a,b)=some (decide (a=b)):=by
 have e:L122_0 (a,b,0)=some (cond (allB (min a.length b.length) fun i=>decide (gt a i=gt b i)) (.inr (a,b)) (.inl false)):=by
  refine while_all (min a.length b.length) (fun k=>(a,b,(k:Int))) (fun i=>decide (gt a i=gt b i)) _ _ (fun k hk=>?_) ?_ (by omega)
  ·simp(disch:=omega) only[p122_0,q122_0,ltN,dT,cond_true,inR_nat,chk_t,ix_gt,fitK,a1]
   cases decide (gt a k=gt b k) <;> rfl
  ·by_cases h:a.length≤b.length
   ·rw[Nat.min_eq_left h]
    simp(disch:=omega) only[p122_0,q122_0,ltN,dF,cond_false]
   ·rw[Nat.min_eq_right (by omega)]
    simp(disch:=omega) only[p122_0,q122_0,ltN,dT,dF,cond_true,cond_false]
 simp only[P122,p122,q122,e,bind_some']
 by_cases h:a.length=b.length
 ·have d:decide ((a.length:Int)=(b.length:Int))=true:=by simp[h]
  rw[show min a.length b.length=a.length by omega,eq_list h]
  cases decide (a=b)
  ·rfl
  ·simp only[cond_true,elim_inr,d]
 ·have d:decide ((a.length:Int)=(b.length:Int))=false:=by simp; omega
  have d2:decide (a=b)=false:=by simp; intro e; rw[e]at h; exact h rfl
  rw[d2]
  cases allB (min a.length b.length) fun i=>decide (gt a i=gt b i)
  ·rfl
  ·simp only[cond_true,elim_inr,d]
theorem P86_eq (a b:KT)(ha:a.2.2.1.length≤1000)(hb:b.2.2.1.length≤1000):P86 (a,b)=some (decide (a=b)):=by
 rw[key_ext]
 simp only[P86,p86,q86,P122_eq ha hb,bind_some']
 cases decide (a.1=b.1)
 ·rfl
 cases decide (a.2.1=b.2.1)
 ·rfl
 cases decide (a.2.2.2.1=b.2.2.2.1)
 ·rfl
 cases decide (a.2.2.2.2=b.2.2.2.2) <;> rfl
theorem P49_eq {l:List KT}(hl:l.length≤1000)(hd:∀ x∈l,x.2.2.1.length≤1000):P49 l=some (!ncB l):=by
 have e:L49_0 (l,0)=some (cond (ncB l) (.inr ()) (.inl true)):=by
  refine while_all l.length (fun k=>(l,(k:Int))) (fun i=>allB i fun k=>!(decide ((gt l k).1=(gt l i).1)&&!decide (gt l k=gt l i))) _ _ (fun i hi=>?_) (by simp(disch:=omega) only[p49_0,q49_0,ltN,dF,cond_false]) (by omega)
  have e1:L49_1 (l,(i:Int),0)=some (cond (allB i fun k=>!(decide ((gt l k).1=(gt l i).1)&&!decide (gt l k=gt l i))) (.inr (l,(i:Int))) (.inl true)):=
   while_all i (fun k=>(l,(i:Int),(k:Int))) (fun k=>!(decide ((gt l k).1=(gt l i).1)&&!decide (gt l k=gt l i))) _ _ (fun k hk=>by
    simp(disch:=omega) only[p49_1,q49_1,ltN,dT,cond_true,inR_nat,chk_t,ix_gt,P86_eq _ _ (hd _ (gt_mem (show k < l.length by omega))) (hd _ (gt_mem hi)),bind_some',fitK,a1]
    cases decide ((gt l k).1=(gt l i).1)
    ·rfl
    cases decide (gt l k=gt l i) <;> rfl) (by simp(disch:=omega) only[p49_1,q49_1,ltN,dF,cond_false]) (by omega)
  simp(disch:=omega) only[p49_0,q49_0,ltN,dT,cond_true,e1,bind_some']
  cases allB i fun k=>!(decide ((gt l k).1=(gt l i).1)&&!decide (gt l k=gt l i))
  ·rfl
  ·simp(disch:=omega) only[cond_true,elim_inr,a1,fitK,chk_t]
 simp only[P49,p49,q49,e,bind_some']
 cases ncB l <;> rfl
theorem P26_eq (l:LT)(hz:szL l):P26 l=some (chkV l):=by
 have zk:=hz.k
 simp(disch:=omega) only[P26,p26,q26,P48_eq l hz,bind_some',chkV,P49_eq (show l.2.2.2.1.length≤1000 by omega) (fun k hk=>Nat.le_trans (hz.kd k hk) (by omega))]
 cases libB l
 ·rfl
 cases ncB l.2.2.2.1 <;> rfl
end Go.Proofs.YtdacabdocbhkdaaGreat.D
