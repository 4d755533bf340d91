/- Cut down from a longer text. -/
import Derived.Test.YtdacabdocbhkdaaGreatS10f
set_option linter.unusedVariables false
set_option linter.unusedSimpArgs false
set_option linter.unusedSectionVars false
namespace Go.Proofs.YtdacabdocbhkdaaGreat.D
open Go Go.Proofs Go.Proofs.YtdacabdocbhkdaaGreat.L
def compV (o:Option CT):CT×Bool:=match o with
 | some c=>(c,true)
 | none=>((0,0,0,0,0,false,[]),false)
theorem P19_eq (l:LT)(x:Int)(hl:l.2.1.length≤1000):P19 (l,x)=some (compV (fcV l x)):=by
 rcases while_find (step:=fun y=>p19_0 y.1 y.2.1 y.2.2.1 y.2.2.2.1 y.2.2.2.2.1 y.2.2.2.2.2.1 y.2.2.2.2.2.2.1 y.2.2.2.2.2.2.2.1 y.2.2.2.2.2.2.2.2) l.2.1.length (fun k=>(x,(k:Int),l,0,0,0,0,0,false)) (fun k=>decide ((gt l.2.1 k).1=x)) (fun k=>.inl (true,l,gt l.2.1 k)) (.inr (l,0,0,0,0,0,false)) (fun k hk _=>by
   simp(disch:=omega) only[p19_0,q19_0,ltN,dT,cond_true,inR_nat,chk_t,ix_gt,fitK,a1]
   cases decide ((gt l.2.1 k).1=x) <;> rfl) (fun _=>by simp(disch:=omega) only[p19_0,q19_0,ltN,dF,cond_false]) (by omega)with⟨k,hk,h1,h2,h3⟩ | ⟨h1,h2⟩
 ·have e:L19_0 (x,0,l,0,0,0,0,0,false)=some (.inl (true,l,gt l.2.1 k)):=h3
  rw[fcV,find_at hk h1 h2]
  simp only[P19,p19,q19,e,bind_some',elim_inl,compV]
 ·have e:L19_0 (x,0,l,0,0,0,0,0,false)=some (.inr (l,0,0,0,0,0,false)):=h2
  rw[fcV,find_no h1]
  simp only[P19,p19,q19,e,bind_some',elim_inr,compV]
theorem P20_eq (l:LT)(x:Int)(hl:l.2.2.1.length≤1000):P20 (l,x)=some (servV (fsV l x)):=by
 rcases while_find (step:=fun y=>p20_0 y.1 y.2.1 y.2.2.1 y.2.2.2) l.2.2.1.length (fun k=>(x,(k:Int),l,0)) (fun k=>decide ((gt l.2.2.1 k).1=x)) (fun k=>.inl (true,l,gt l.2.2.1 k)) (.inr (l,0)) (fun k hk _=>by
   simp(disch:=omega) only[p20_0,q20_0,ltN,dT,cond_true,inR_nat,chk_t,ix_gt,fitK,a1]
   cases decide ((gt l.2.2.1 k).1=x) <;> rfl) (fun _=>by simp(disch:=omega) only[p20_0,q20_0,ltN,dF,cond_false]) (by omega)with⟨k,hk,h1,h2,h3⟩ | ⟨h1,h2⟩
 ·have e:L20_0 (x,0,l,0)=some (.inl (true,l,gt l.2.2.1 k)):=h3
  rw[fsV,find_at hk h1 h2]
  simp only[P20,p20,q20,e,bind_some',elim_inl,servV]
 ·have e:L20_0 (x,0,l,0)=some (.inr (l,0)):=h2
  rw[fsV,find_no h1]
  simp only[P20,p20,q20,e,bind_some',elim_inr,servV]
theorem P54_eq {l:LT}{c:CT}{s:VT}(h1:l.1.length≤1000)(h2:s.2.2.length≤1000)(h3:c.2.2.2.2.2.2.length≤1000)(hh:∀ a∈c.2.2.2.2.2.2,hasA l.1 a=true):P54 (l,c,s)=some (missV l c s):=by
 have e:L54_0 (0,l,c,s,[])=some (l,c,s,(c.2.2.2.2.2.2.filter fun a=>!decide (smV l.1 a=smV s.2.2 a)).map id):=
  while_flt (step:=fun x=>p54_0 x.1 x.2.1 x.2.2.1 x.2.2.2.1 x.2.2.2.2) c.2.2.2.2.2.2 (fun a=>!decide (smV l.1 a=smV s.2.2 a)) id (fun k out=>((k:Int),l,c,s,out)) (fun out=>(l,c,s,out))
   (fun k out hk ho=>by
    have ha:(smV l.1 (gt c.2.2.2.2.2.2 k)).2=true:=by rw[smV_has]; exact hh _ (gt_mem hk)
    simp(disch:=omega) only[p54_0,q54_0,ltN,dT,cond_true,inR_nat,chk_t,ix_gt,P105_eq,bind_some',List.length_singleton,capOk_sm,fitK,a1,id]
    generalize smV l.1 (gt c.2.2.2.2.2.2 k)=u at *
    generalize smV s.2.2 (gt c.2.2.2.2.2.2 k)=w at *
    obtain⟨u1,u2⟩:=u
    obtain⟨w1,w2⟩:=w
    simp only at ha
    subst ha
    cases w2
    ·have:decide ((u1,true)=(w1,false))=false:=decide_eq_false (by simp)
     rw[this]; rfl
    ·have:decide ((u1,true)=(w1,true))=decide (w1=u1):=by rw[Bool.eq_iff_iff]; simp[eq_comm]
     rw[this]
     cases decide (w1=u1) <;> rfl) (fun out ho=>by simp(disch:=omega) only[p54_0,q54_0,ltN,dF,cond_false]) (by omega)
 rw[List.map_id]at e
 simp only[P54,p54,q54,e,bind_some',missV]
theorem AskOk.t {l:LT}{x y n:Int}{c:CT}{s:VT}(h:AskOk l x y n c s):errV l x y n=0:=errV_iff.2 ⟨c,s,h⟩
theorem ask_sz {l:LT}(hz:szL l){x y n:Int}{c:CT}{s:VT}(h:AskOk l x y n c s):l.1.length≤1000∧s.2.2.length≤1000∧c.2.2.2.2.2.2.length≤1000∧∀ a∈c.2.2.2.2.2.2,hasA l.1 a=true:=by
 have hok:=lib_ok h.lib
 have a:=hz.a
 have b:=hz.sf s h.sm
 have d:=hz.ca c h.cm
 exact⟨by omega,by omega,by omega,(comp_ok (hok.comp c h.cm).1).2.2.1⟩
theorem P24_eq {l:List Int}(n:Int)(hl:l.length≤1000):P24 (l,n)=some (inB l n):=by
 have hi:inB l n=!(allB l.length fun k=>!decide (gt l k=n)):=by
  rw[all_eq (p:=fun x=>!decide (x=n)),← any_not]
  unfold inB
  congr 1
  funext x
  rw[Bool.not_not,Bool.eq_iff_iff]; simp[eq_comm]
 have e:L24_0 (l,n,0)=some (cond (allB l.length fun k=>!decide (gt l k=n)) (.inr ()) (.inl true)):=
  while_all l.length (fun k=>(l,n,(k:Int))) (fun k=>!decide (gt l k=n)) _ _ (fun k hk=>by
   simp(disch:=omega) only[p24_0,q24_0,ltN,dT,cond_true,inR_nat,chk_t,ix_gt,fitK,a1]
   cases decide (gt l k=n) <;> rfl) (by simp(disch:=omega) only[p24_0,q24_0,ltN,dF,cond_false]) (by omega)
 simp only[P24,p24,q24,e,bind_some',hi]
 cases allB l.length fun k=>!decide (gt l k=n) <;> rfl
theorem P59_eq {l:LT}{k:KT}{c:CT}{s:VT}(h1:l.2.2.2.2.length≤1000)(h2:s.2.1.length≤1000)(h3:k.2.2.1.length≤1000):P59 (l,k,c,s)=some (opB s.2.1 k&&ownB l c k):=by
 have e:L59_0 (0,l,k,c,s)=some (cond (opB s.2.1 k) (.inr (l,k,c,s)) (.inl (false,l,k,c,s))):=by
  unfold opB
  rw[← all_eq]
  refine while_all s.2.1.length (fun i=>((i:Int),l,k,c,s)) (fun i=>inB k.2.2.1 (gt s.2.1 i)) _ _ (fun i hi=>?_) (by simp(disch:=omega) only[p59_0,q59_0,ltN,dF,cond_false]) (by omega)
  simp(disch:=omega) only[p59_0,q59_0,ltN,dT,cond_true,inR_nat,chk_t,ix_gt,P24_eq,bind_some',fitK,a1]
  cases inB k.2.2.1 (gt s.2.1 i) <;> rfl
 simp only[P59,p59,q59,e,bind_some',ownB]
 cases opB s.2.1 k
 ·rfl
 ·simp(disch:=omega) only[cond_true,elim_inr,P24_eq,bind_some']
  cases decide (k.2.1=c.1) <;> rfl
def openM (l:LT)(c:CT)(s:VT)(n:Int):Prop:=0≤n∧n≤9999∧(c.2.2.2.2.2.1=false∨∃ k∈l.2.2.2.1,(opB s.2.1 k&&ownB l c k)=true∧k.2.2.2.1≤n∧n≤k.2.2.2.2)
theorem openT_iff {l:LT}{c:CT}{s:VT}{sums:List AT}{ks:List KT}{sp:List Sp}(h:PutOk l c s sums ks sp)(n:Int):openT c.2.2.2.2.2.1 s.2.1 ks n↔openM l c s n:=by
 unfold openT openM
 have:(∃ k∈ks,opB s.2.1 k=true∧k.2.2.2.1≤n∧n≤k.2.2.2.2)↔∃ k∈l.2.2.2.1,(opB s.2.1 k&&ownB l c k)=true∧k.2.2.2.1≤n∧n≤k.2.2.2.2:=by
  constructor
  ·rintro⟨k,h1,h2,h3⟩
   obtain⟨q1,q2⟩:=(h.mem k).1 h1
   exact⟨k,q1,by rw[h2,q2]; rfl,h3⟩
  ·rintro⟨k,h1,h2,h3⟩
   rw[Bool.and_eq_true]at h2
   exact⟨k,(h.mem k).2 ⟨h1,h2.2⟩,h2.1,h3⟩
 rw[this]
theorem PutOk.spM {l:LT}{c:CT}{s:VT}{sums:List AT}{ks:List KT}{sp:List Sp}(h:PutOk l c s sums ks sp):SpOk sp (openM l c s):=h.sp.congr (openT_iff h)
theorem gt_set' {b:List Bool}{i j:Nat}(hi:i < b.length)(v:Bool):gt (b.set i v) j=if i=j then v else gt b j:=gt_set b i j v hi
theorem gt_repl {m n:Nat}(h:n < m):gt (List.replicate m false) n=false:=by
 rw[gt_lt (by simpa using h)]; exact List.getElem_replicate ..
theorem P55_eq {l : LT} (hz : szL l) (hv : libB l = true) {c : CT} {s : VT} (hs : s ∈ l.2.2.1) : ∃ b, P55 (l, c, s) = some b ∧ b.length = 10000 ∧ ∀ n : Nat, n < 10000 → (gt b n = true ↔ openM l c s (n : Int)) := by
  have hok := lib_ok hv
  have zr := hok.r20
  have zk := hok.k20
  have zs := (serv_ok (hok.serv s hs).1).2.1
  have e1 : ∀ (i : Nat) (k : KT), k ∈ l.2.2.2.1 → ∀ b : List Bool, b.length = 10000 → ∃ b', L55_1 ((i : Int), k.2.2.2.1, l, c, s, b, k) = some ((i : Int), l, c, s, b', k) ∧ b'.length = 10000 ∧ ∀ n : Nat, n < 10000 → (gt b' n = true ↔ gt b n = true ∨ k.2.2.2.1 ≤ (n : Int) ∧ (n : Int) ≤ k.2.2.2.2) := by
    intro i k hk b hb
    have ht := (key_tm (hok.key k hk)).1
    generalize hf : k.2.2.2.1.toNat = f at *
    have hf' : k.2.2.2.1 = (f : Int) := by omega
    generalize hg : k.2.2.2.2.toNat = g at *
    have hg' : k.2.2.2.2 = (g : Int) := by omega
    have key : ∃ y, L55_1 ((i : Int), (f : Int), l, c, s, b, k) = some y ∧ ∃ b', y = ((i : Int), l, c, s, b', k) ∧ b'.length = 10000 ∧ ∀ n : Nat, n < 10000 → (gt b' n = true ↔ gt b n = true ∨ f ≤ n ∧ n ≤ g) := by
      refine while_inv (g + 1 - f) (fun t st => ∃ b', st = ((i : Int), ((f + t : Nat) : Int), l, c, s, b', k) ∧ b'.length = 10000 ∧ ∀ n : Nat, n < 10000 → (gt b' n = true ↔ gt b n = true ∨ f ≤ n ∧ n < f + t)) _
        ⟨b, rfl, hb, fun n hn => by constructor; · exact .inl
                                    · rintro (h | h); · exact h
                                      · omega⟩ (by omega) ?_ ?_
      · rintro t st ht' ⟨b', rfl, hb', hn'⟩
        simp (disch := omega) only [p55_1, q55_1, hg', leN, dT, cond_true, inR_nat, chk_t, fitK, a1, Int.toNat_natCast]
        refine ⟨_, rfl, b'.set (f + t) true, rfl, by simpa using hb', fun n hn => ?_⟩
        rw [gt_set' (by omega)]
        by_cases e : f + t = n
        · rw [if_pos e]; simp; omega
        · rw [if_neg e, hn' n hn]
          constructor
          · rintro (h | h); · exact .inl h
            · exact .inr (by omega)
          · rintro (h | h); · exact .inl h
            · exact .inr (by omega)
      · rintro st ⟨b', rfl, hb', hn'⟩
        simp (disch := omega) only [p55_1, q55_1, hg', leN, dF, cond_false]
        refine ⟨_, rfl, b', rfl, hb', fun n hn => ?_⟩
        rw [hn' n hn]
        constructor
        · rintro (h | h); · exact .inl h
          · exact .inr (by omega)
        · rintro (h | h); · exact .inl h
          · exact .inr (by omega)
    obtain ⟨y, y1, b', rfl, y2, y3⟩ := key
    rw [hf']
    refine ⟨b', y1, y2, fun n hn => ?_⟩
    rw [y3 n hn, hg']
    constructor
    · rintro (h | h); · exact .inl h
      · exact .inr (by omega)
    · rintro (h | h); · exact .inl h
      · exact .inr (by omega)
  have e0 : ∃ y, L55_0 (0, l, c, s, repl (Int.toNat 10000) false) = some y ∧ ∃ b, y = (l, c, s, b) ∧ b.length = 10000 ∧ ∀ n : Nat, n < 10000 → (gt b n = true ↔ ∃ k ∈ l.2.2.2.1, (opB s.2.1 k && ownB l c k) = true ∧ k.2.2.2.1 ≤ (n : Int) ∧ (n : Int) ≤ k.2.2.2.2) := by
    refine while_inv l.2.2.2.1.length (fun t st => ∃ b, st = ((t : Int), l, c, s, b) ∧ b.length = 10000 ∧ ∀ n : Nat, n < 10000 → (gt b n = true ↔ ∃ k ∈ l.2.2.2.1.take t, (opB s.2.1 k && ownB l c k) = true ∧ k.2.2.2.1 ≤ (n : Int) ∧ (n : Int) ≤ k.2.2.2.2)) _
      ⟨repl (Int.toNat 10000) false, rfl, List.length_replicate, fun n hn => by
        have : gt (repl (Int.toNat 10000) false) n = false := gt_repl (m := 10000) hn
        rw [this]; simp⟩ (by omega) ?_ ?_
    · rintro t st ht ⟨b, rfl, hb, hn⟩
      have hd := hz.kd _ (gt_mem ht)
      simp (disch := omega) only [p55_0, q55_0, ltN, dT, cond_true, inR_nat, chk_t, ix_gt, P59_eq, bind_some']
      rw [take_gt1 _ ht]
      cases ho : (opB s.2.1 (gt l.2.2.2.1 t) && ownB l c (gt l.2.2.2.1 t))
      · simp (disch := omega) only [cond_false, fitK, a1, chk_t]
        refine ⟨_, rfl, b, rfl, hb, fun n hn' => ?_⟩
        rw [hn n hn']
        constructor
        · rintro ⟨k, hk, q⟩; exact ⟨k, by simp [hk], q⟩
        · rintro ⟨k, hk, q1, q2⟩
          rw [List.mem_append, List.mem_singleton] at hk
          rcases hk with hk | rfl
          · exact ⟨k, hk, q1, q2⟩
          · rw [ho] at q1; cases q1
      · obtain ⟨b', b1, b2, b3⟩ := e1 t _ (gt_mem ht) b hb
        simp (disch := omega) only [cond_true, b1, bind_some', fitK, a1, chk_t]
        refine ⟨_, rfl, b', rfl, b2, fun n hn' => ?_⟩
        rw [b3 n hn', hn n hn']
        constructor
        · rintro (⟨k, hk, q⟩ | q)
          · exact ⟨k, by simp [hk], q⟩
          · exact ⟨_, by simp, ho, q⟩
        · rintro ⟨k, hk, q1, q2⟩
          rw [List.mem_append, List.mem_singleton] at hk
          rcases hk with hk | rfl
          · exact .inl ⟨k, hk, q1, q2⟩
          · exact .inr q2
    · rintro st ⟨b, rfl, hb, hn⟩
      simp (disch := omega) only [p55_0, q55_0, ltN, dF, cond_false]
      rw [List.take_length] at hn
      exact ⟨_, rfl, b, rfl, hb, hn⟩
  obtain ⟨y, y1, b, rfl, b1, b2⟩ := e0
  have e2 : ∃ y, L55_2 (0, c, b) = some y ∧ ∃ b', y = (c, b') ∧ b'.length = 10000 ∧ ∀ n : Nat, n < 10000 → (gt b' n = true ↔ c.2.2.2.2.2.1 = false ∨ gt b n = true) := by
    cases hl : c.2.2.2.2.2.1
    · refine while_inv 10000 (fun t st => ∃ b', st = ((t : Int), c, b') ∧ b'.length = 10000 ∧ ∀ n : Nat, n < 10000 → (gt b' n = true ↔ n < t ∨ gt b n = true)) _ ⟨b, rfl, b1, fun n hn => by simp⟩ (by omega) ?_ ?_
      · rintro t st ht ⟨b', rfl, hb', hn'⟩
        simp (disch := omega) only [p55_2, q55_2, ltN, hb', dT, cond_true, hl, Bool.not_false, inR_nat, chk_t, fitK, a1, Int.toNat_natCast]
        refine ⟨_, rfl, b'.set t true, rfl, by simpa using hb', fun n hn => ?_⟩
        rw [gt_set' (by omega)]
        by_cases e : t = n
        · rw [if_pos e]; simp; omega
        · rw [if_neg e, hn' n hn]
          constructor
          · rintro (h | h); · exact .inl (by omega)
            · exact .inr h
          · rintro (h | h); · exact .inl (by omega)
            · exact .inr h
      · rintro st ⟨b', rfl, hb', hn'⟩
        have d : decide (((10000 : Nat) : Int) < ((10000 : Nat) : Int)) = false := rfl
        simp only [p55_2, q55_2, hb', d, cond_false]
        exact ⟨_, rfl, b', rfl, hb', fun n hn => by rw [hn' n hn]; simp [hn]⟩
    · refine ⟨(c, b), ?_, b, rfl, b1, fun n hn => by simp⟩
      refine while_run 0 (fun _ => (0, c, b)) _ (fun i hi => by omega) ?_ (by omega)
      have d : decide ((0 : Int) < ((10000 : Nat) : Int)) = true := rfl
      simp only [p55_2, q55_2, b1, d, cond_true, hl, Bool.not_true, cond_false]
  obtain ⟨y, y2, b', rfl, b3, b4⟩ := e2
  refine ⟨b', ?_, b3, fun n hn => ?_⟩
  · have d1 : decide ((0 : Int) ≤ 10000) = true := rfl
    have d2 : decide ((1 : Int) * 10000 ≤ 140737488355328) = true := rfl
    simp only [P55, p55, q55, d1, d2, chk_t, y1, bind_some', y2]
  · rw [b4 n hn, b2 n hn]
    unfold openM
    constructor
    · intro h; exact ⟨by omega, by omega, h⟩
    · rintro ⟨_, _, h⟩; exact h
end Go.Proofs.YtdacabdocbhkdaaGreat.D
