import Derived.Test.YtjoncejabdjekaaB1o
set_option linter.unusedVariables false
set_option linter.unusedSectionVars false
set_option linter.unusedSimpArgs false
namespace Go.Proofs.Ytjoncejabdjekaa.D
open Go Go.Proofs.Ytjoncejabdjekaa.L
variable [YP]
section
variable {π:Pi} {Fr:Store} {S:DSt} {s':Store} {RD:List Nat} {R:Nat→Prop} {ρ:Opd→DV} {ρ':Opd→AV}
theorem ny {t:Ty}{l:List t.den}{lo m i:Nat}(h:i < min m (l.length-lo)):ip t ((l.drop lo).take m) i=ip t l (lo+i):=by
 have h1:i < m:=by omega
 simp[ip,List.getD_eq_getElem?_getD,List.getElem?_take,h1,List.getElem?_drop]
theorem jG (t:Ty):lL t [] []:=⟨rfl,fun i hi=>by simp at hi⟩
theorem eZ {t:Ty}{l m:List t.den}{xs ys:List (List AV)}(h:lL t l xs)(k:lL t m ys):lL t (l++m) (xs++ys):=by
 refine⟨by simp[h.1,k.1],fun i hi=>?_⟩;rcases Nat.lt_or_ge i l.length with hl | hl
 ·have h':i < xs.length:=by rw[h.1]; exact hl
  have:=h.2 i hl
  simpa [ip,List.getD_eq_getElem?_getD,List.getElem?_append,hl,h']using this
 ·have hi':i-l.length < m.length:=by simp at hi; omega
  have:=k.2 _ hi';have e1:¬ i < l.length:=by omega
  have e2:¬ i < xs.length:=by rw[h.1]; omega
  rw[ip]at this ⊢
  simpa [List.getD_eq_getElem?_getD,List.getElem?_append,e1,e2,h.1]using this
theorem jc {t:Ty}:∀ {ds:List DV} {l:List t.den} {as:List AV},wp t ds=some l→RelVs π ds as→lL t l (as.map cellsOf)∧eV AV.one t.w as∧as.length=l.length
 | [],l,as,h,r=>by
  simp only[RelVs]at r; subst r; cases h; exact⟨jG t,trivial,rfl⟩
 | d::ds,l,as,h,r=>by
  simp only[RelVs]at r;obtain⟨a,as',rfl,g,r⟩:=r;simp only[wp]at h;cases hc:(bu d).all DV.one with
  | false=>rw[hc]at h; cases h
  | true=>
   rw[hc]at h;simp only[cond_true]at h;split at h
   ·rename_i x r' hx hr;cases h;obtain⟨k1,k2,k3⟩:=jc hr r;obtain⟨g1,g2⟩:=bQ g hc;have hcr:=bF hx g1;refine⟨?_,⟨dJ hcr,g2,k2⟩,by simp[k3]⟩;exact eZ (l:=[x]) (xs:=[cellsOf a]) ⟨rfl,fun i hi=>by obtain rfl:i=0:=(by simpa using hi); exact hcr⟩ k1
   ·cases h
theorem n6:∀ {t:Ty} {l:List t.den} {as:List AV},lL t l (as.map cellsOf)→eV AV.one t.w as→eV AV.frz t.w as
 | t,l,[],_,_=>trivial
 | t,l,a::as,h,k=>by
  cases l with
  | nil=>have:=h.1; simp at this
  | cons x l=>
   have h0:=h.2 0 (by simp);have h1:lL t l (as.map cellsOf):=⟨by have:=h.1; simpa using this,fun i hi=>by have:=h.2 (i+1) (by simpa using hi); simpa [ip]using this⟩
   refine⟨k.1,?_,n6 h1 k.2.2⟩;rw[List.all_eq_true];exact fun c hc=>bP h0 c (by simpa using hc)
theorem jd {mx:Bool}{k:IntKind}:∀ {l:List DV} {a n:Int} {as:List AV},zq mx k a l=some n→RelVs π l as→∀ {K:Int→Prop},K n→ug mx k a as K
 | [],a,n,as,h,r,K,hK=>by simp only[RelVs]at r; subst r; cases h; exact hK
 | d::l,a,n,as,h,r,K,hK=>by
  simp only[RelVs]at r;obtain⟨b,bs,rfl,r1,r2⟩:=r;simp only[zq]at h;split at h
  ·rename_i k' c hc;cases hk:lu k k' with
   | false=>rw[hk]at h; cases h
   | true=>
    rw[hk]at h;obtain rfl:=lM hk;obtain rfl:=aO hc r1;refine⟨rfl,?_⟩;simp only[cond_true]at h;cases mx
    ·exact jd (mx:=false) h r2 hK
    ·exact jd (mx:=true) h r2 hK
  ·cases h
theorem uC (hS:RelS π Fr S s')(hH:HR π S RD R)(hρ:∀ x,RelV π (ρ x) (ρ' x))(hu:(ρ' (.c .undef)).df){o:AOp}{ann:Option (Bool×Ty)}{d:DV}{ob:List Bool}(h:LC RD S ρ o ann=some (d,ob))(ho:ob.all id=true):
  ∃ a p,RelV π d a∧p∧∀ K:AV→Prop→Prop,K a p→nop [] R o ρ' s' K:=by
 have V:∀ x,(ρ x).df.all id=true→RelV π (ρ x).val (ρ' x).val:=fun x hx=>bv (hρ x) hx;have F:∀ x,(ρ x).df.all id=true→(ρ' x).df:=fun x hx=>bE (hρ x) hx;unfold LC at h;split at h
 ·
  cases h;exact⟨(ρ' (.c .undef)).val,(ρ' (.c .undef)).df,by simp only[RelV],hu,fun K hk=>hk⟩
 ·
  rename_i x _;cases h;exact⟨_,_,V x ho,F x ho,fun K hk=>hk⟩
 ·
  rename_i ex op x y;split at h
  ·rename_i d' ob' hb;cases h;obtain⟨o1,o2⟩:=ah ho;obtain⟨o2,o3⟩:=ah o2;obtain⟨v,p,g1,g2,g3⟩:=rE hb o3 (V x o1) (V y o2);exact⟨v,_,g1,(And.intro (F x o1) (And.intro (F y o2) (g2))),fun K hk=>g3 _ hk⟩
  ·cases h
 ·
  rename_i ne n x y;split at h
  ·rename_i cs ds h1 h2;cases hc:Nat.beq cs.length n with
   | false=>rw[hc]at h; cases h
   | true=>
    rw[hc]at h;simp only[cond_true]at h;split at h
    ·rename_i b hb;cases h;obtain⟨o1,o2⟩:=ah ho;have v1:=V x o1; rw[h1]at v1;have v2:=V y o2; rw[h2]at v2;simp only[RelV]at v1 v2;obtain⟨as,e1,v1⟩:=v1;obtain⟨bs,e2,v2⟩:=v2;refine⟨.bool (if ne then !b else b),_,?_,(And.intro (F x o1) (F y o2)),fun K hk=>?_⟩
     ·cases ne <;> exact aR _
     ·simp only[nop,e1,e2];exact⟨by rw[aL v1]; exact ai.1 hc,nZ hb v1 v2 _ hk⟩
    ·cases h
  ·cases h
 ·
  rename_i x;split at h
  ·rename_i b hb;cases h;have e:=cV hb (V x ho);exact⟨_,_,aR _,F x ho,fun K hk=>by simp only[nop,e]; exact hk⟩
  ·cases h
 ·
  rename_i x;split at h
  ·rename_i k n hn;cases h;obtain⟨o1,o2⟩:=ah ho;have e:=aO hn (V x o1);exact⟨_,_,aP _ _,(And.intro (F x o1) (show okk k (0-n)from fits_okk (by simpa only[List.all_cons,List.all_nil,id,Bool.and_true]using o2))),fun K hk=>by simp only[nop,e]; exact hk⟩
  ·cases h
 ·
  rename_i c a b;split at h
  ·rename_i g hg;have key:∀ obc oba obb:List Bool,(obc++(oba.map (!g||·)++obb.map (g||·))).all id=true→obc.all id=true∧(g=true→oba.all id=true)∧(g=false→obb.all id=true):=fun obc oba obb hh=>by
    obtain⟨o1,o2⟩:=ah hh;obtain⟨o2,o3⟩:=ah o2;refine⟨o1,fun hg=>?_,fun hg=>?_⟩
    ·subst hg; simpa [Function.comp_def]using o2
    ·subst hg; simpa [Function.comp_def]using o3
   split at h
   ·rename_i x y hx hy;cases h;obtain⟨o1,o2,o3⟩:=key _ _ _ ho;have e:=cV hg (V c o1);refine⟨.bool (cond g x y),_,aR _,(And.intro (F c o1) (And.intro (fun hg=>F a (o2 hg)) (fun hg=>F b (o3 hg)))),fun K hk=>?_⟩;simp only[nop,e];cases g with
    | true=>have:=cV hx (V a (o2 rfl)); simp only[cond_true]at hk ⊢; rw[this]; exact hk
    | false=>have:=cV hy (V b (o3 rfl)); simp only[cond_false]at hk ⊢; rw[this]; exact hk
   ·split at h
    ·rename_i k x k' y hx hy;cases hc:lu k k' with
     | false=>rw[hc]at h; cases h
     | true=>
      rw[hc]at h; cases h;obtain rfl:=lM hc;obtain⟨o1,o2,o3⟩:=key _ _ _ ho;have e:=cV hg (V c o1);refine⟨.int k (cond g x y),_,aP _ _,(And.intro (F c o1) (And.intro (fun hg=>F a (o2 hg)) (fun hg=>F b (o3 hg)))),fun K hk=>?_⟩;simp only[nop,e];cases g with
      | true=>have:=aO hx (V a (o2 rfl)); simp only[cond_true]at hk ⊢; rw[this]; exact hk
      | false=>have:=aO hy (V b (o3 rfl)); simp only[cond_false]at hk ⊢; rw[this]; exact hk
    ·cases h
  ·cases h
 ·
  rename_i x;split at h <;> first | (cases h; done) | skip
  ·rename_i b o hx;cases h;have v:=V x ho; rw[hx]at v;have v':=v;simp only[RelV]at v; obtain⟨_,_,_,_,e⟩:=v;exact⟨_,_,v',F x ho,fun K hk=>by simp only[nop]; rw[e]at hk ⊢; exact hk⟩
  ·rename_i b k i j hx;cases h;have v:=V x ho; rw[hx]at v;have v':=v;simp only[RelV]at v; obtain⟨_,_,_,_,_,e⟩:=v;exact⟨_,_,v',F x ho,fun K hk=>by simp only[nop]; rw[e]at hk ⊢; exact hk⟩
  ·rename_i b i hx;cases h;have v:=V x ho; rw[hx]at v;have v':=v;simp only[RelV]at v; obtain⟨_,_,_,_,_,_,e⟩:=v;exact⟨_,_,v',F x ho,fun K hk=>by simp only[nop]; rw[e]at hk ⊢; exact hk⟩
  ·rename_i b k i j o hx;cases h;have v:=V x ho; rw[hx]at v;have v':=v;simp only[RelV]at v; obtain⟨_,_,_,_,_,_,_,_,_,_,_,e⟩:=v;exact⟨_,_,v',F x ho,fun K hk=>by simp only[nop]; rw[e]at hk ⊢; exact hk⟩
  ·rename_i b key o hx;cases h;have v:=V x ho; rw[hx]at v;have v':=v;simp only[RelV]at v; obtain⟨_,_,_,_,e⟩:=v;exact⟨_,_,v',F x ho,fun K hk=>by simp only[nop]; rw[e]at hk ⊢; exact hk⟩
  ·rename_i cs hx;cases h;have v:=V x ho; rw[hx]at v;have v':=v;simp only[RelV]at v; obtain⟨_,e,_⟩:=v;exact⟨_,_,v',F x ho,fun K hk=>by simp only[nop]; rw[e]at hk ⊢; exact hk⟩
  ·rename_i t y hx;cases h;obtain⟨o1,o2⟩:=ah ho;have v:=V x o1; rw[hx]at v;simp only[RelV,CR]at v;rcases v with⟨_,rfl⟩ | ⟨z,c,rfl,e,g⟩
   ·simp at o2
   ·simp only[List.cons.injEq,and_true]at e;exact⟨.elm c,_,by simp only[RelV]; exact⟨c,rfl,bi g⟩,F x o1,fun K hk=>by simp only[nop]; rw[e]; exact hk⟩
 ·
  rename_i x off;split at h <;> first | (cases h; done) | skip
  ·rename_i b o hx;cases h;have v:=V x ho; rw[hx]at v;simp only[RelV]at v; obtain⟨b',c,n,hp,e⟩:=v;exact⟨.ptr b' (o+off),_,by simp only[RelV]; exact⟨b',c,n,hp,rfl⟩,F x ho,fun K hk=>by simp only[nop,e]; exact hk⟩
  ·rename_i b k i j hx;cases h;have v:=V x ho; rw[hx]at v;simp only[RelV]at v; obtain⟨b',c,n,hp,hi,e⟩:=v;exact⟨.rptr b' k i (j+off),_,by simp only[RelV]; exact⟨b',c,n,hp,hi,rfl⟩,F x ho,fun K hk=>by simp only[nop,e]; exact hk⟩
  ·rename_i b k i j o hx;cases h;have v:=V x ho; rw[hx]at v;simp only[RelV]at v; obtain⟨b',c,n,f,b2,c2,n2,hp,hi,hf,hj,e⟩:=v;exact⟨.rptr b2 k j (o+off),_,by simp only[RelV]; exact⟨b',c,n,f,b2,c2,n2,hp,hi,hf,hj,rfl⟩,F x ho,fun K hk=>by simp only[nop,e]; exact hk⟩
  ·rename_i b key o hx;cases h;have v:=V x ho; rw[hx]at v;simp only[RelV]at v; obtain⟨g,y,hp,hg,e⟩:=v;exact⟨.ptr y (o+off),_,by simp only[RelV]; exact⟨g,y,hp,hg,rfl⟩,F x ho,fun K hk=>by simp only[nop,e]; exact hk⟩
  ·rename_i cs hx;cases h;have v:=V x ho; rw[hx]at v;simp only[RelV]at v; obtain⟨as,e,v⟩:=v;exact⟨.elm (as.drop off),_,by simp only[RelV]; exact⟨_,rfl,cu off v⟩,F x ho,fun K hk=>by simp only[nop,e]; exact hk⟩
 ·
  rename_i x fr;split at h
  ·rename_i d' r' hl;cases h;rcases iN hS hH hl (V x ho)with⟨as,e,r⟩ | ⟨b',o,as,e,hs,r,hle,hfr⟩ | ⟨b',k,i,j,T,c,xs,e,hs,hi,hj,hlen,r,hfr⟩
   ·simp only[RelVs]at r; obtain⟨a,as',rfl,g,_⟩:=r;exact⟨a,_,g,(And.intro (F x ho) (show 1≤(a::as').length by simp)),fun K hk=>by simp only[nop,e]; exact hk⟩
   ·simp only[RelVs]at r; obtain⟨a,as',ha,g,_⟩:=r;obtain⟨e1,e2⟩:=sN ha;exact⟨a,_,g,(And.intro (F x ho) (And.intro (e2) (hfr))),fun K hk=>by simp only[nop,e,hs,e1]; exact hk⟩
   ·simp only[RelVs]at r; obtain⟨a,as',ha,g,_⟩:=r;obtain⟨e1,e2⟩:=sN ha;exact⟨a,_,g,(And.intro (F x ho) (And.intro (hi) (And.intro (show j+1≤k by omega) (hfr)))),fun K hk=>by simp only[nop,e,hs,e1]; exact⟨trivial,hk⟩⟩
  ·cases h
 ·
  rename_i x n fr;split at h
  ·rename_i cs hl;cases hc:ee n cs.length with
   | false=>rw[hc]at h; cases h
   | true=>
    rw[hc]at h; cases h;simp only[ee,Nat.ble_eq]at hc;rcases iN hS hH hl (V x ho)with⟨as,e,r⟩ | ⟨b',o,as,e,hs,r,hle,hfr⟩ | ⟨b',k,i,j,T,c,xs,e,hs,hi,hj,hlen,r,hfr⟩
    ·have:=aL r;exact⟨.agg (as.take n),_,by simp only[RelV]; exact⟨_,rfl,dM n r⟩,(And.intro (F x ho) (show n≤as.length by omega)),fun K hk=>by simp only[nop,e]; exact hk⟩
    ·have:=aL r;simp only[List.length_drop]at this;exact⟨.agg ((as.drop o).take n),_,by simp only[RelV]; exact⟨_,rfl,dM n r⟩,(And.intro (F x ho) (And.intro (show o+n≤as.length by omega) (hfr))),fun K hk=>by simp only[nop,e,hs]; exact hk⟩
    ·have:=aL r;simp only[List.length_drop]at this;exact⟨.agg (((xs.getD i []).drop j).take n),_,by simp only[RelV]; exact⟨_,rfl,dM n r⟩,(And.intro (F x ho) (And.intro (hi) (And.intro (show j+n≤k by omega) (hfr)))),fun K hk=>by simp only[nop,e,hs]; exact⟨trivial,hk⟩⟩
  ·cases h
 ·
  rename_i x off n ag;split at h
  ·rename_i cs hx;cases hc:(ee (off+n) cs.length&&ee 1 n)with
   | false=>rw[hc]at h; cases h
   | true=>
    rw[hc]at h;simp only[cond_true,ee,Bool.and_eq_true,Nat.ble_eq]at h hc;cases ag with
    | true=>
     cases h;have v:=V x ho; rw[hx]at v;simp only[RelV]at v; obtain⟨as,e,v⟩:=v;have:=aL v;exact⟨.agg ((as.drop off).take n),_,by simp only[RelV]; exact⟨_,rfl,dM n (cu off v)⟩,(And.intro (F x ho) (show off+n≤as.length by omega)),fun K hk=>by simp only[nop,e,if_true]; exact hk⟩
    | false=>
     simp only at h;split at h
     ·rename_i d' r' hd;cases h;have v:=V x ho; rw[hx]at v;simp only[RelV]at v; obtain⟨as,e,v⟩:=v;have:=aL v;obtain⟨g1,g2⟩:=mB off v hd;exact⟨at_ as off,_,g2,(And.intro (F x ho) (show off+n≤as.length by omega)),fun K hk=>by simp only[nop,e,Bool.false_eq_true,if_false]; exact hk⟩
     ·cases h
  ·cases h
 ·
  rename_i x i n;split at h
  ·rename_i ki z hz;split at h
   ·rename_i t l hx;cases hc:Nat.beq t.w n with
    | false=>rw[hc]at h; cases h
    | true=>
     rw[hc]at h; cases h;obtain rfl:=ai.1 hc;obtain⟨o1,o2⟩:=ah ho;obtain⟨o2,o3⟩:=ah o2;have ei:=aO hz (V i o2);simp only[aZ,List.all_cons,List.all_nil,id,Bool.and_true,Bool.and_eq_true,decide_eq_true_eq]at o3;have v:=V x o1; rw[hx]at v;simp only[RelV,CR]at v;rcases v with⟨_,rfl⟩ | ⟨get,e,v⟩
     ·simp at o3; omega
     ·simp only[List.cons.injEq,and_true]at e;have hz':z.toNat < l.length:=by omega
      exact⟨.elm (get z.toNat),_,by simp only[RelV]; exact⟨_,rfl,bi (v _ hz')⟩,(And.intro (F x o1) (And.intro (F i o2) (And.intro (o3.1) (o3.2)))),fun K hk=>by simp only[nop,e,ei]; exact⟨trivial,hk⟩⟩
   ·rename_i b hx;split at h
    ·rename_i T t l hb;cases hc:Nat.beq t.w n with
     | false=>rw[hc]at h; cases h
     | true=>
      rw[hc]at h; cases h;obtain rfl:=ai.1 hc;obtain⟨o1,o2⟩:=ah ho;obtain⟨o2,o3⟩:=ah o2;have ei:=aO hz (V i o2);simp only[aZ,List.all_cons,List.all_nil,id,Bool.and_true,Bool.and_eq_true,decide_eq_true_eq]at o3;have v:=V x o1; rw[hx]at v;simp only[RelV]at v;rcases hS.obj _ _ hb with⟨g1,rfl⟩ | ⟨b2,c2,xs,hp2,hcap,hs,hr⟩
      ·simp at o3; omega
      ·rcases v with⟨b',c,m,hp,e⟩ | ⟨hp,_⟩
       ·rw[hp2]at hp; cases hp;exact⟨.rptr b2 t.w z.toNat 0,_,by simp only[RelV]; exact⟨_,_,_,hp2,by omega,rfl⟩,(And.intro (F x o1) (And.intro (F i o2) (And.intro (o3.1) (o3.2)))),fun K hk=>by simp only[nop,e,ei]; exact hk⟩
       ·rw[hp2]at hp; cases hp
    ·cases h
   ·rename_i b k p m hx;cases hc:Nat.beq k n with
    | false=>rw[hc]at h; cases h
    | true=>
     rw[hc]at h; cases h;obtain rfl:=ai.1 hc;obtain⟨o1,o2⟩:=ah ho;obtain⟨o2,o3⟩:=ah o2;have ei:=aO hz (V i o2);simp only[aZ,List.all_cons,List.all_nil,id,Bool.and_true,Bool.and_eq_true,decide_eq_true_eq]at o3;have v:=V x o1; rw[hx]at v;simp only[RelV]at v;obtain⟨b',c,N,hp,hle,e⟩:=v;exact⟨.rptr b' k (p+z.toNat) 0,_,by simp only[RelV]; exact⟨_,_,_,hp,by omega,rfl⟩,(And.intro (F x o1) (And.intro (F i o2) (And.intro (o3.1) (o3.2)))),fun K hk=>by simp only[nop,e,ei]; exact⟨trivial,hk⟩⟩
   ·rename_i b hx;split at h
    ·rename_i T T' t l hb;cases hc:Nat.beq 1 n with
     | false=>rw[hc]at h; cases h
     | true=>
      rw[hc]at h; cases h;obtain rfl:=ai.1 hc;obtain⟨o1,o2⟩:=ah ho;obtain⟨o2,o3⟩:=ah o2;have ei:=aO hz (V i o2);simp only[aZ,List.all_cons,List.all_nil,id,Bool.and_true,Bool.and_eq_true,decide_eq_true_eq]at o3;have v:=V x o1; rw[hx]at v;simp only[RelV]at v;rcases hS.obj _ _ hb with⟨g1,rfl⟩ | ⟨b2,c2,f2,hp2,hR⟩
      ·simp at o3; omega
      ·rcases v with⟨b',c,m,f,hp,e⟩ | ⟨hp,_⟩
       ·rw[hp2]at hp; cases hp;exact⟨.rptr b2 1 z.toNat 0,_,by simp only[RelV]; exact⟨_,_,_,_,hp2,by omega,rfl⟩,(And.intro (F x o1) (And.intro (F i o2) (And.intro (o3.1) (o3.2)))),fun K hk=>by simp only[nop,e,ei]; exact hk⟩
       ·rw[hp2]at hp; cases hp
    ·cases h
   ·rename_i b j hx;split at h
    ·rename_i T T' t l hb;cases hc:Nat.beq t.w n with
     | false=>rw[hc]at h; cases h
     | true=>
      rw[hc]at h; cases h;obtain rfl:=ai.1 hc;obtain⟨o1,o2⟩:=ah ho;obtain⟨o2,o3⟩:=ah o2;have ei:=aO hz (V i o2);simp only[aZ,List.all_cons,List.all_nil,id,Bool.and_true,Bool.and_eq_true,decide_eq_true_eq]at o3;have v:=V x o1; rw[hx]at v;simp only[RelV]at v;obtain⟨b',c,m,f,hp,hj,e⟩:=v;rcases hS.obj _ _ hb with⟨g1,_⟩ | ⟨b2,c2,f2,hp2,hR⟩
      ·rw[g1]at hp; cases hp
      ·rw[hp2]at hp; cases hp;have hI:=hR.ir j hj;cases hf:f j with
       | none=>rw[hf]at hI; rw[show l.getD j []=[]from hI]at o3; simp at o3; omega
       | some q=>
        obtain⟨b3,c3,n3⟩:=q;rw[hf]at hI e;obtain⟨rfl,hc3,ys,hs,hy⟩:=hI;exact⟨.rptr b3 t.w z.toNat 0,_,by simp only[RelV]; exact⟨_,_,_,_,_,_,_,hp2,hj,hf,by omega,rfl⟩,(And.intro (F x o1) (And.intro (F i o2) (And.intro (o3.1) (o3.2)))),fun K hk=>by simp only[nop,e,ei,ilv]; exact hk⟩
    ·cases h
   ·cases h
  ·cases h
 ·
  rename_i x i;split at h
  ·rename_i t k z ht hz;cases h;obtain⟨o1,o2⟩:=ah ho;obtain⟨o2,o3⟩:=ah o2;have ei:=aO hz (V i o2);have ex:=gR ht (V x o1);simp only[aZ,List.all_cons,List.all_nil,id,Bool.and_true,Bool.and_eq_true,decide_eq_true_eq]at o3;exact⟨_,_,aP _ _,(And.intro (F x o1) (And.intro (F i o2) (And.intro (o3.1) (o3.2)))),fun K hk=>by simp only[nop,ei,ex]; exact hk⟩
  ·cases h
 ·
  rename_i x;split at h <;> first | (cases h; done) | skip
  ·rename_i t l hx;cases h;have v:=V x ho; rw[hx]at v;simp only[RelV,CR]at v;rcases v with⟨e,rfl⟩ | ⟨get,e,v⟩
   ·simp only[List.cons.injEq,and_true]at e;exact⟨.int .i64 0,_,aP _ _,F x ho,fun K hk=>by simp only[nop,e]; exact hk⟩
   ·simp only[List.cons.injEq,and_true]at e;exact⟨_,_,aP _ _,F x ho,fun K hk=>by simp only[nop,e]; exact hk⟩
  ·rename_i b hx;split at h
   ·rename_i T t l hb;cases h;have v:=V x ho; rw[hx]at v;simp only[RelV]at v;rcases hS.obj _ _ hb with⟨g1,rfl⟩ | ⟨b2,c2,xs,hp2,hcap,hs,hr⟩
    ·rcases v with⟨b',c,m,hp,e⟩ | ⟨hp,e⟩
     ·rw[g1]at hp; cases hp
     ·exact⟨.int .i64 0,_,aP _ _,F x ho,fun K hk=>by simp only[nop,e]; exact hk⟩
    ·rcases v with⟨b',c,m,hp,e⟩ | ⟨hp,_⟩
     ·rw[hp2]at hp; cases hp;exact⟨_,_,aP _ _,F x ho,fun K hk=>by simp only[nop,e]; exact hk⟩
     ·rw[hp2]at hp; cases hp
   ·cases h
  ·rename_i b k p m hx;cases h;have v:=V x ho; rw[hx]at v;simp only[RelV]at v;obtain⟨b',c,N,hp,hle,e⟩:=v;exact⟨_,_,aP _ _,F x ho,fun K hk=>by simp only[nop,e]; exact hk⟩
  ·rename_i hx;cases h;have v:=V x ho; rw[hx]at v;simp only[RelV]at v;exact⟨.int .i64 0,_,aP _ _,F x ho,fun K hk=>by simp only[nop,v]; exact hk⟩
  ·rename_i b hx;split at h
   ·rename_i T T' t l hb;cases h;have v:=V x ho; rw[hx]at v;simp only[RelV]at v;rcases hS.obj _ _ hb with⟨g1,rfl⟩ | ⟨b2,c2,f2,hp2,hR⟩
    ·rcases v with⟨b',c,m,f,hp,e⟩ | ⟨hp,e⟩
     ·rw[g1]at hp; cases hp
     ·exact⟨.int .i64 0,_,aP _ _,F x ho,fun K hk=>by simp only[nop,e]; exact hk⟩
    ·rcases v with⟨b',c,m,f,hp,e⟩ | ⟨hp,_⟩
     ·rw[hp2]at hp; cases hp;exact⟨_,_,aP _ _,F x ho,fun K hk=>by simp only[nop,e]; exact hk⟩
     ·rw[hp2]at hp; cases hp
   ·cases h
  ·rename_i b j hx;split at h
   ·rename_i T T' t l hb;cases h;have v:=V x ho; rw[hx]at v;simp only[RelV]at v;obtain⟨b',c,m,f,hp,hj,e⟩:=v;rcases hS.obj _ _ hb with⟨g1,_⟩ | ⟨b2,c2,f2,hp2,hR⟩
    ·rw[g1]at hp; cases hp
    ·rw[hp2]at hp; cases hp;have hI:=hR.ir j hj;cases hf:f j with
     | none=>
      rw[hf]at hI e;rw[show l.getD j []=[]from hI];exact⟨.int .i64 0,_,aP _ _,F x ho,fun K hk=>by simp only[nop,e,ilv]; exact hk⟩
     | some q=>
      obtain⟨b3,c3,n3⟩:=q;rw[hf]at hI e;obtain⟨rfl,hc3,ys,hs,hy⟩:=hI;exact⟨_,_,aP _ _,F x ho,fun K hk=>by simp only[nop,e,ilv]; exact hk⟩
   ·cases h
 ·
  rename_i x;split at h
  ·rename_i t ht;cases h;have ex:=gR ht (V x ho);exact⟨_,_,aP _ _,F x ho,fun K hk=>by simp only[nop,ex]; exact hk⟩
  ·cases h
 ·
  rename_i mx x y;split at h
  ·rename_i k a k' b hx hy;cases hc:lu k k' with
   | false=>rw[hc]at h; cases h
   | true=>
    rw[hc]at h; cases h;obtain rfl:=lM hc;obtain⟨o1,o2⟩:=ah ho;have e1:=aO hx (V x o1);have e2:=aO hy (V y o2);refine⟨.int k (if mx then max a b else min a b),_,?_,(And.intro (F x o1) (F y o2)),fun K hk=>by simp only[nop,e1,e2]; exact⟨trivial,hk⟩⟩;cases mx <;> exact aP _ _
  ·cases h
 ·
  rename_i x i;split at h
  ·rename_i vs hx;split at h
   ·rename_i d' r' hd;cases h;have v:=V x ho; rw[hx]at v;simp only[RelV]at v; obtain⟨as,e,v⟩:=v;obtain⟨g1,g2⟩:=mB i v hd;exact⟨at_ as i,_,g2,(And.intro (F x ho) (g1)),fun K hk=>by simp only[nop,e]; exact hk⟩
   ·cases h
  ·cases h
 ·
  rename_i z ps;split at h
  ·rename_i cs ob' hp;cases h;obtain⟨g1,g2⟩:=mE hρ hp ho (gp z);exact⟨.agg _,_,by simp only[RelV]; exact⟨_,rfl,g1⟩,g2,fun K hk=>hk⟩
  ·cases h
 ·
  rename_i f caps;cases hne:Nat.beq f YB with
  | true=>rw[hne]at h; cases h
  | false=>
  rw[hne]at h;cases h;obtain⟨g1,g2⟩:=db hρ ho;exact⟨.fn f _,_,by simp only[RelV]; exact⟨_,(mA hne).symm,g1⟩,g2,fun K hk=>hk⟩
 ·
  rename_i k x;split at h
  ·rename_i k' n hn;cases h;obtain⟨o1,o2⟩:=ah ho;have e:=aO hn (V x o1);exact⟨_,_,aP _ _,(And.intro (F x o1) (fits_okk (by simpa using o2))),fun K hk=>by simp only[nop,e]; exact hk⟩
  ·cases h
 ·
  rename_i x lo hi m;split at h
  ·rename_i t l hx;cases hc:Nat.beq t.w m with
   | false=>rw[hc]at h; cases h
   | true=>
    rw[hc]at h;obtain rfl:=ai.1 hc;simp only[cond_true]at h;split at h
    ·rename_i a p b q ha hb;cases h;obtain⟨o1,o2⟩:=ah ho;obtain⟨o2,o3⟩:=ah o2;obtain⟨o3,o4⟩:=ah o3;simp only[List.all_cons,List.all_nil,id,Bool.and_true,Bool.and_eq_true,decide_eq_true_eq]at o4;obtain⟨p1,hp1,k1⟩:=dT hρ ha o2;obtain⟨p2,hp2,k2⟩:=dT hρ hb o3;have v:=V x o1; rw[hx]at v;simp only[RelV,CR]at v;rcases v with⟨e,rfl⟩ | ⟨get,e,v⟩
     ·simp only[List.cons.injEq,and_true]at e;refine⟨nr t.w 0 (fun _=>[]) a.toNat (b-a).toNat,_,?_,(And.intro (F x o1) (And.intro hp1 (And.intro hp2 (And.intro o4.1 (And.intro o4.2.1 (show b≤(0:Nat)from o4.2.2)))))),fun K hk=>?_⟩
      ·simp only[yu,RelV,CR];right;exact⟨fun _=>[],by simp[nr],fun i hi=>by simp at hi⟩
      ·simp only[nop,e];exact k1 _ (k2 _ hk)
     ·simp only[List.cons.injEq,and_true]at e;refine⟨nr t.w l.length get a.toNat (b-a).toNat,_,?_,(And.intro (F x o1) (And.intro (hp1) (And.intro (hp2) (And.intro (o4.1) (And.intro (o4.2.1) (o4.2.2)))))),fun K hk=>?_⟩
      ·simp only[yu,RelV,CR];right;refine⟨fun i=>if i < (b-a).toNat then get (a.toNat+i)else get l.length,?_,fun i hi=>?_⟩
       ·unfold nr; simp[List.length_take,List.length_drop]
       ·have hi':i < min (b-a).toNat (l.length-a.toNat):=by simpa [List.length_take,List.length_drop]using hi
        rw[ny hi'];have h1:i < (b-a).toNat:=by omega
        simp only[h1,if_true];exact v _ (by omega)
      ·simp only[nop,e];exact⟨trivial,k1 _ (k2 _ hk)⟩
    ·cases h
  ·rename_i hx;split at h
   ·rename_i gg t;cases hc:Nat.beq t.w m with
    | false=>rw[hc]at h; cases h
    | true=>
     rw[hc]at h;obtain rfl:=ai.1 hc;simp only[cond_true]at h;split at h
     ·rename_i a p b q ha hb;cases h;obtain⟨o1,o2⟩:=ah ho;obtain⟨o2,o3⟩:=ah o2;obtain⟨o3,o4⟩:=ah o3;simp only[List.all_cons,List.all_nil,id,Bool.and_true,Bool.and_eq_true,decide_eq_true_eq]at o4;obtain⟨p1,hp1,k1⟩:=dT hρ ha o2;obtain⟨p2,hp2,k2⟩:=dT hρ hb o3;have v:=V x o1; rw[hx]at v;simp only[RelV]at v;refine⟨nr t.w 0 (fun _=>[]) a.toNat (b-a).toNat,_,?_,(And.intro (F x o1) (And.intro hp1 (And.intro hp2 (And.intro o4.1 (And.intro o4.2.1 (show b≤(0:Nat)from o4.2.2)))))),fun K hk=>?_⟩
      ·simp only[yu,RelV,CR];right;exact⟨fun _=>[],by simp[nr],fun i hi=>by simp at hi⟩
      ·simp only[nop,v];exact k1 _ (k2 _ hk)
     ·cases h
   ·cases h
  ·cases h
 ·
  rename_i x lo hi;split at h
  ·rename_i t ht;split at h
   ·rename_i a p b q ha hb;cases h;obtain⟨o1,o2⟩:=ah ho;obtain⟨o2,o3⟩:=ah o2;obtain⟨o3,o4⟩:=ah o3;simp only[List.all_cons,List.all_nil,id,Bool.and_true,Bool.and_eq_true,decide_eq_true_eq]at o4;obtain⟨p1,hp1,k1⟩:=dT hρ ha o2;obtain⟨p2,hp2,k2⟩:=dT hρ hb o3;have e:=gR ht (V x o1);exact⟨_,_,qk _,(And.intro (F x o1) (And.intro (hp1) (And.intro (hp2) (And.intro (o4.1) (And.intro (o4.2.1) (o4.2.2)))))),fun K hk=>by simp only[nop,e]; exact k1 _ (k2 _ hk)⟩
   ·cases h
  ·cases h
 ·
  rename_i kn ok z m key fr;split at h
  ·rename_i b hm;split at h
   ·rename_i kn' ag t es hb;split at h
    ·rename_i k hk;cases hc:(Nat.beq kn' kn&&F6 ag t z&&pc fr RD b)with
     | false=>rw[hc]at h; cases h
     | true=>
      rw[hc]at h;simp only[cond_true,Option.some.injEq,Prod.mk.injEq]at h;obtain⟨rfl,rfl⟩:=h;simp only[Bool.and_eq_true,ai]at hc;obtain⟨⟨rfl,hz⟩,hfr⟩:=hc;obtain⟨o1,o2⟩:=ah ho;have v:=V m o1; rw[hm]at v;simp only[RelV]at v; obtain⟨b',c,n,hp,e⟩:=v;obtain⟨b2,c2,n2,es',hp2,he,hs⟩:=hS.obj _ _ hb;rw[hp]at hp2; cases hp2;have hs:s' b'=some (.imap kn' es' none):=hs;have hg:MR ag t ((aU es k).getD t.zero) ((bU es' k).getD z)∧(bU es' k).isSome=(aU es k).isSome:=by
       rcases pp k he with⟨g1,g2⟩ | ⟨x,a,g1,g2,g3⟩
       ·rw[g1,g2]; exact⟨wx hz,rfl⟩
       ·rw[g1,g2]; exact⟨g3,rfl⟩
      refine⟨if ok then .tup [(bU es' k).getD z,.bool (bU es' k).isSome]else(bU es' k).getD z,_,?_,(And.intro (F m o1) (And.intro (F key o2) (frOk_R hH hfr hp))),fun K hK=>?_⟩
      ·cases ok with
       | true=>simp only[if_true,RelV]; exact⟨_,rfl,RelVs_cons (pn hg.1) (aQ (by rw[hg.2]; exact aR _))⟩
       | false=>exact pn hg.1
      ·simp only[nop,e,hs];exact⟨trivial,gS hk (V key o2) _ hK⟩
    ·cases h
   ·cases h
  ·cases h
 ·
  rename_i k xs;split at h
  ·cases h;exact⟨.emp,nj ρ' []∧eV AV.frz k (vals ρ' []),by simp only[RelV],⟨trivial,trivial⟩,fun K hk=>hk⟩
  ·rename_i x l;split at h
   ·rename_i ag t;split at h
    ·rename_i r hr;cases hc:Nat.beq t.w k with
     | false=>rw[hc]at h; cases h
     | true=>
      rw[hc]at h; cases h;obtain rfl:=ai.1 hc;obtain⟨g1,g2⟩:=db hρ ho;obtain⟨k1,k2,k3⟩:=jc hr g1;have hlen:(x::l).length=r.length:=by rw[← k3]; simp[vals]
      refine⟨.lst t.w (x::l).length (fun i=>cellsOf (at_ (vals ρ' (x::l)) i)),nj ρ' (x::l)∧eV AV.frz t.w (vals ρ' (x::l)),?_,⟨g2,n6 k1 k2⟩,fun K hk=>?_⟩
      ·simp only[yu,RelV,CR];right;refine⟨_,by rw[hlen],fun i hi=>?_⟩;have:=k1.2 i hi;have hi':i < (vals ρ' (x::l)).length:=by rw[k3]; exact hi
       have e:(List.map cellsOf (vals ρ' (x::l))).getD i []=cellsOf (at_ (vals ρ' (x::l)) i):=by
        simp[at_,List.getD_eq_getElem?_getD,List.getElem?_map,hi']
       rw[e]at this; exact this
      ·simp only[nop];rw[if_neg (by simp)];exact hk
    ·cases h
   ·cases h
 ·
  rename_i m fr;split at h
  ·rename_i b hm;split at h
   ·rename_i kn' ag t es hb;cases hc:pc fr RD b with
    | false=>rw[hc]at h; cases h
    | true=>
     rw[hc]at h; cases h;have v:=V m ho; rw[hm]at v;simp only[RelV]at v; obtain⟨b',c,n,hp,e⟩:=v;obtain⟨b2,c2,n2,es',hp2,he,hs⟩:=hS.obj _ _ hb;rw[hp]at hp2; cases hp2;have hs:s' b'=some (.imap kn' es' none):=hs;refine⟨.int .i64 es'.length,_,?_,(And.intro (F m ho) (frOk_R hH hc hp)),fun K hK=>by simp only[nop,e,hs]; exact hK⟩;rw[po he]; exact aP _ _
   ·cases h
  ·cases h
 ·
  cases h
  simp at ho
 ·
  rename_i ne x y;split at h
  ·rename_i u v hu hv;cases h;obtain⟨o1,o2⟩:=ah ho;have e1:=cV hu (V x o1);have e2:=cV hv (V y o2);exact⟨_,_,aR _,(And.intro (F x o1) (F y o2)),fun K hk=>by simp only[nop,e1,e2]; exact hk⟩
  ·cases h
 ·
  rename_i mx xs;split at h
  ·rename_i d0 l hl;split at h
   ·rename_i k a hk;split at h
    ·rename_i n hn;cases h;obtain⟨g1,g2⟩:=db hρ ho;rw[hl]at g1;simp only[RelVs]at g1;obtain⟨a0,as,e,r1,r2⟩:=g1;obtain rfl:=aO hk r1;refine⟨.int k n,_,aP _ _,g2,fun K hK=>?_⟩;simp only[nop,e];exact jd hn r2 hK
    ·cases h
   ·cases h
  ·cases h
 ·
  rename_i ne x;split at h <;> first | (cases h; done) | skip
  ·rename_i hx;cases h;have v:=V x ho; rw[hx]at v;simp only[RelV]at v;refine⟨.bool (!ne),_,by cases ne <;> exact aR _,F x ho,fun K hk=>by simp only[nop,v]; exact hk⟩
  ·rename_i b p hx;cases h;have v:=V x ho; rw[hx]at v;simp only[RelV]at v;obtain⟨_,_,_,_,e⟩:=v;exact⟨.bool ne,_,aR _,F x ho,fun K hk=>by simp only[nop,e]; exact hk⟩
  ·rename_i b k i j hx;cases h;have v:=V x ho; rw[hx]at v;simp only[RelV]at v;obtain⟨_,_,_,_,_,e⟩:=v;exact⟨.bool ne,_,aR _,F x ho,fun K hk=>by simp only[nop,e]; exact hk⟩
  ·rename_i b key o hx;cases h;have v:=V x ho; rw[hx]at v;simp only[RelV]at v;obtain⟨_,_,_,_,e⟩:=v;exact⟨.bool ne,_,aR _,F x ho,fun K hk=>by simp only[nop,e]; exact hk⟩
  ·rename_i cs hx;cases h;have v:=V x ho; rw[hx]at v;simp only[RelV]at v;obtain⟨_,e,_⟩:=v;exact⟨.bool ne,_,aR _,F x ho,fun K hk=>by simp only[nop,e]; exact hk⟩
  ·rename_i t y hx;cases h;have v:=V x ho; rw[hx]at v;simp only[RelV,CR]at v;rcases v with⟨e,rfl⟩ | ⟨z,c,rfl,e,g⟩
   ·simp only[List.cons.injEq,and_true]at e;refine⟨.bool (!ne),_,by cases ne <;> exact aR _,F x ho,fun K hk=>by simp only[nop,e]; exact hk⟩
   ·simp only[List.cons.injEq,and_true]at e;refine⟨.bool ne,_,by cases ne <;> exact aR _,F x ho,fun K hk=>by simp only[nop,e]; exact hk⟩
 ·
  rename_i x i k n;split at h
  ·rename_i ki z b k' hz hx;split at h
   ·rename_i T t l hb;cases hc:Nat.beq k' k with
    | false=>rw[hc]at h; cases h
    | true=>
     rw[hc]at h; cases h;obtain rfl:=ai.1 hc;obtain⟨o1,o2⟩:=ah ho;obtain⟨o2,o3⟩:=ah o2;have ei:=aO hz (V i o2);simp only[aZ,List.all_cons,List.all_nil,id,Bool.and_true,Bool.and_eq_true,decide_eq_true_eq]at o3;have v:=V x o1; rw[hx]at v;simp only[RelV]at v;obtain⟨b',c,N,hp,hi,e⟩:=v;rcases hS.obj _ _ hb with⟨g1,_⟩ | ⟨b2,c2,xs,hp2,hcap,hs,hr⟩
     ·rw[hp]at g1; cases g1
     ·rw[hp]at hp2; cases hp2;exact⟨.rptr b' k' z.toNat 0,_,by simp only[RelV]; exact⟨_,_,_,hp,by omega,rfl⟩,(And.intro (F x o1) (And.intro (F i o2) (And.intro (o3.2.1) (o3.2.2)))),fun K hk=>by simp only[nop,e,ei]; exact⟨trivial,hk⟩⟩
   ·cases h
  ·cases h
 ·
  rename_i x k n;split at h
  ·rename_i b k' hx;split at h
   ·rename_i T t l hb;cases hc:Nat.beq k' k with
    | false=>rw[hc]at h; cases h
    | true=>
     rw[hc]at h; cases h;obtain rfl:=ai.1 hc;obtain⟨o1,o2⟩:=ah ho;simp only[ee,List.all_cons,List.all_nil,id,Bool.and_true,Nat.ble_eq]at o2;have v:=V x o1; rw[hx]at v;simp only[RelV]at v;obtain⟨b',c,N,hp,hi,e⟩:=v;rcases hS.obj _ _ hb with⟨g1,_⟩ | ⟨b2,c2,xs,hp2,hcap,hs,hr⟩
     ·rw[hp]at g1; cases g1
     ·rw[hp]at hp2; cases hp2;exact⟨.slo b' k' 0 n,_,by simp only[RelV]; exact⟨_,_,_,hp,by omega,rfl⟩,F x o1,fun K hk=>by simp only[nop,e]; exact⟨trivial,hk⟩⟩
   ·cases h
  ·cases h
 ·
  rename_i x;split at h
  ·rename_i hx;cases h;have v:=V x ho; rw[hx]at v;simp only[RelV]at v;exact⟨.int .i64 0,_,aP _ _,F x ho,fun K hk=>by simp only[nop,v]; exact hk⟩
  ·cases h
 ·
  rename_i x hi;split at h
  ·rename_i kk z hx hz;cases h;obtain⟨o1,o2⟩:=ah ho;obtain⟨o2,o3⟩:=ah o2;simp only[List.all_cons,List.all_nil,id,Bool.and_true,decide_eq_true_eq]at o3;have ei:=aO hz (V hi o2);have v:=V x o1; rw[hx]at v;simp only[RelV]at v;exact⟨.emp,_,by simp only[RelV],(And.intro (F x o1) (And.intro (F hi o2) o3)),fun K hk=>by simp only[nop,v,ei]; exact hk⟩
  ·cases h
 ·
  rename_i x lo hi k;split at h
  ·rename_i b hx;split at h
   ·rename_i T t l hb;split at h
    ·rename_i a p c q ha hc;cases h;obtain⟨o1,o2⟩:=ah ho;obtain⟨o2,o3⟩:=ah o2;obtain⟨o3,o4⟩:=ah o3;simp only[List.all_cons,List.all_nil,id,Bool.and_true,Bool.and_eq_true,decide_eq_true_eq]at o4;obtain⟨p1,hp1,k1⟩:=dT hρ ha o2;obtain⟨p2,hp2,k2⟩:=dT hρ hc o3;have v:=V x o1; rw[hx]at v;simp only[RelV]at v;rcases hS.obj _ _ hb with⟨g1,rfl⟩ | ⟨b2,c2,xs,hpb,hcap,hs,hr⟩
     ·simp at o4
     ·rcases v with⟨b',c',m,hp,e⟩ | ⟨hp,_⟩
      ·rw[hpb]at hp; cases hp;refine⟨.slo b2 k a.toNat (c-a).toNat,_,by simp only[RelV]; exact⟨_,_,_,hpb,by omega,rfl⟩,(And.intro (F x o1) (And.intro hp1 (And.intro hp2 (And.intro o4.1 (And.intro o4.2.1 o4.2.2.1))))),fun K hk=>?_⟩;simp only[nop,e];exact k1 _ (k2 _ hk)
      ·rw[hpb]at hp; cases hp
    ·cases h
   ·cases h
  ·rename_i b k' p0 m hx;cases hck:Nat.beq k' k with
   | false=>rw[hck]at h; cases h
   | true=>
    rw[hck]at h;obtain rfl:=ai.1 hck;simp only[cond_true]at h;split at h
    ·rename_i a p c q ha hc;cases h;obtain⟨o1,o2⟩:=ah ho;obtain⟨o2,o3⟩:=ah o2;obtain⟨o3,o4⟩:=ah o3;simp only[List.all_cons,List.all_nil,id,Bool.and_true,Bool.and_eq_true,decide_eq_true_eq]at o4;obtain⟨p1,hp1,k1⟩:=dT hρ ha o2;obtain⟨p2,hp2,k2⟩:=dT hρ hc o3;have v:=V x o1; rw[hx]at v;simp only[RelV]at v;obtain⟨b',c',N,hp,hle,e⟩:=v;refine⟨.slo b' k' (p0+a.toNat) (c-a).toNat,_,by simp only[RelV]; exact⟨_,_,_,hp,by omega,rfl⟩,(And.intro (F x o1) (And.intro hp1 (And.intro hp2 (And.intro o4.1 (And.intro o4.2.1 o4.2.2))))),fun K hk=>?_⟩;simp only[nop,e];exact⟨trivial,k1 _ (k2 _ hk)⟩
    ·cases h
  ·cases h
 ·cases h
end
end Go.Proofs.Ytjoncejabdjekaa.D

set_option linter.unusedVariables false
set_option linter.unusedSectionVars false
set_option linter.unusedSimpArgs false
namespace Go.Proofs.Ytjoncejabdjekaa.D
open Go Go.Proofs.Ytjoncejabdjekaa.L
variable [YP]
def addP (π:Pi)(b:Nat)(l:Loc):Pi:=fun c=>if c=b then some l else π c
theorem cA {π:Pi}{b:Nat}(h:π b=none)(l:Loc):Ext π (addP π b l):=fun c x hx=>by
 unfold addP; split
 ·rename_i e; subst e; rw[h]at hx; cases hx
 ·exact hx
theorem addP_same (π:Pi)(b:Nat)(l:Loc):addP π b l b=some l:=by simp[addP]
theorem addP_ne (π:Pi){b c:Nat}(l:Loc)(h:c≠b):addP π b l c=π c:=by simp[addP,h]
section
variable {π π1:Pi} {Fr:Store} {S:DSt} {s' s1:Store} {RD:List Nat} {R:Nat→Prop} {ρ:Opd→DV} {ρ':Opd→AV}
theorem RowsR.mono {T T':Nat}{t:Ty}{l:List (List t.den)}{b c:Nat}{f:Nat→Option (Nat×Nat×Nat)}(h:RowsR s' T T' t l b c f)(hs:∀ x,Loc.has (.rls b c l.length f) x→s1 x=s' x):RowsR s1 T T' t l b c f:=by
 refine⟨h.cap,?_,fun i hi=>?_,h.ne,h.dj⟩
 ·obtain⟨xs,g1,g2⟩:=h.ex;exact⟨xs,(hs b (.inl rfl)).trans g1,g2⟩
 ·have:=h.ir i hi;cases hf:f i with
  | none=>rw[hf]at this; exact this
  | some p=>
   obtain⟨b2,c2,n2⟩:=p;rw[hf]at this;obtain⟨g1,g2,ys,g3,g4⟩:=this;exact⟨g1,g2,ys,(hs b2 (.inr ⟨i,_,hi,hf,rfl⟩)).trans g3,g4⟩
theorem PoolR.mono {t:Ty}{es:List (Int×t.den)}{g:List (Int×Nat)}(h:PoolR s' t es g)(hs:∀ x,Loc.has (.pol g) x→s1 x=s' x):PoolR s1 t es g:=by
 refine⟨h.keys,h.nd,fun k x hk=>?_,h.dj⟩;obtain⟨as,g1,g2⟩:=h.ex k x hk;exact⟨as,(hs x ⟨k,hk⟩).trans g1,g2⟩
theorem ObR.mono {b:Nat}{o:DObj}(h:ObR π s' b o)(hx:Ext π π1)(hs:∀ l x,π b=some l→l.has x→s1 x=s' x):ObR π1 s1 b o:=by
 cases o with
 | box ds=>
  obtain⟨b',c,n,as,h1,h2,h3⟩:=h;exact⟨b',c,n,as,hx _ _ h1,(hs _ _ h1 rfl).trans h2,h3.ext hx⟩
 | row T t l=>
  rcases h with⟨h1,h2⟩ | ⟨b',c,xs,h1,h2,h3⟩
  ·exact .inl ⟨hx _ _ h1,h2⟩
  ·exact .inr ⟨b',c,xs,hx _ _ h1,h2,(hs _ _ h1 rfl).trans h3.1,h3.2⟩
 | imap kn ag t es pd=>
  obtain⟨b',c,n,es',h1,h2,h3⟩:=h;refine⟨b',c,n,es',hx _ _ h1,h2,?_⟩;cases pd with
  | none=>exact(hs _ _ h1 rfl).trans h3
  | some p=>
   obtain⟨tk,key,v0⟩:=p;obtain⟨y,v0',g1,g2,g3⟩:=h3;exact⟨y,v0',hx _ _ g1,g2,(hs _ _ h1 rfl).trans g3⟩
 | rows T T' t l=>
  rcases h with⟨h1,h2⟩ | ⟨b',c,f,h1,h2⟩
  ·exact .inl ⟨hx _ _ h1,h2⟩
  ·exact .inr ⟨b',c,f,hx _ _ h1,h2.mono fun x hh=>hs _ _ h1 hh⟩
 | pool t es=>
  obtain⟨g,h1,h2⟩:=h;exact⟨g,hx _ _ h1,h2.mono fun x hh=>hs _ _ h1 hh⟩
 | pmap p=>
  obtain⟨b',c,n,g,h1,h2,h3⟩:=h;exact⟨b',c,n,g,hx _ _ h1,hx _ _ h2,(hs _ _ h1 rfl).trans h3⟩
 | gone p=>obtain⟨b',g,h1,h2⟩:=h; exact⟨b',g,hx _ _ h1,hx _ _ h2⟩
 | raw k=>obtain⟨b',c,n,h1,h2⟩:=h; exact⟨b',c,n,hx _ _ h1,(hs _ _ h1 rfl).trans h2⟩
theorem ObR.loc {b:Nat}{o:DObj}(h:ObR π s' b o):∃ l,π b=some l:=by
 cases o with
 | box ds=>obtain⟨b',c,n,as,h1,_⟩:=h; exact⟨_,h1⟩
 | row T t l=>
  rcases h with⟨h1,h2⟩ | ⟨b',c,xs,h1,h2,h3⟩
  ·exact⟨_,h1⟩
  ·exact⟨_,h1⟩
 | imap kn ag t es pd=>obtain⟨b',c,n,es',h1,_⟩:=h; exact⟨_,h1⟩
 | rows T T' t l=>
  rcases h with⟨h1,h2⟩ | ⟨b',c,f,h1,h2⟩
  ·exact⟨_,h1⟩
  ·exact⟨_,h1⟩
 | pool t es=>obtain⟨g,h1,_⟩:=h; exact⟨_,h1⟩
 | pmap p=>obtain⟨b',c,n,g,h1,_⟩:=h; exact⟨_,h1⟩
 | gone p=>obtain⟨b',g,h1,_⟩:=h; exact⟨_,h1⟩
 | raw k=>obtain⟨b',c,n,h1,_⟩:=h; exact⟨_,h1⟩
theorem ObR.some'' {b:Nat}{o:DObj}(h:ObR π s' b o){l:Loc}{x:Nat}(hp:π b=some l)(hx:l.has x):s' x≠none:=by
 cases o with
 | box ds=>obtain⟨b2,c,n,as,h1,h2,_⟩:=h; rw[hp]at h1; cases h1; cases hx; rw[h2]; simp
 | row T t l=>
  rcases h with⟨h1,h2⟩ | ⟨b',c,xs,h1,h2,h3⟩
  ·rw[hp]at h1; cases h1; exact hx.elim
  ·rw[hp]at h1; cases h1; cases hx; rw[h3.1]; simp
 | imap kn ag t es pd=>
  obtain⟨b',c,n,es',h1,_,h3⟩:=h;rw[hp]at h1; cases h1; cases hx;cases pd with
  | none=>rw[show s' _=_ from h3]; simp
  | some p=>obtain⟨tk,key,v0⟩:=p; obtain⟨y,v0',g1,g2,g3⟩:=h3; rw[g3]; simp
 | rows T T' t l=>
  rcases h with⟨h1,h2⟩ | ⟨b',c,f,h1,h2⟩
  ·rw[hp]at h1; cases h1; exact hx.elim
  ·rw[hp]at h1; cases h1;rcases hx with rfl | ⟨i,p,hi,hf,rfl⟩
   ·obtain⟨xs,g1,_⟩:=h2.ex; rw[g1]; simp
   ·have:=h2.ir i hi;rw[hf]at this;obtain⟨_,_,ys,g3,_⟩:=this;rw[g3]; simp
 | pool t es=>
  obtain⟨g,h1,h2⟩:=h;rw[hp]at h1; cases h1;obtain⟨k,hk⟩:=hx;obtain⟨as,g1,_⟩:=h2.ex k _ hk;rw[g1]; simp
 | pmap p=>obtain⟨b',c,n,g,h1,_,h3⟩:=h; rw[hp]at h1; cases h1; cases hx; rw[h3]; simp
 | gone p=>obtain⟨b',g,h1,_⟩:=h; rw[hp]at h1; cases h1; exact hx.elim
 | raw k=>obtain⟨b',c,n,h1,h2⟩:=h; rw[hp]at h1; cases h1; cases hx; rw[h2]; simp
theorem RelS.lt (hS:RelS π Fr S s'){b:Nat}{l:Loc}(h:π b=some l):b≠S.nx:=fun e=>by
 rw[hS.nx b (by omega)]at h; cases h
theorem fG (hS:RelS π Fr S s')(L:Loc){o:DObj}(hs:∀ b o l x,S.get b=some o→π b=some l→l.has x→s1 x=s' x∧¬ L.has x)(hF:∀ x y,Fr x=some y→s1 x=some y)(hL:∀ x,L.has x→Fr x=none)
  (hO:ObR (addP π S.nx L) s1 S.nx o):RelS (addP π S.nx L) Fr (S.new o) s1:=by
 have hx:Ext π (addP π S.nx L):=cA (hS.nx _ (Nat.le_refl _)) _;refine⟨fun b2 o2 h=>?_,fun b1 b2 o1 o2 l1 l2 x h1 h2 p1 p2 q1 q2=>?_,hF,fun b2 o2 l2 x h p q=>?_,fun b2 h=>?_⟩
 ·rw[DSt.get_new]at h;split at h
  ·rename_i e; subst e; cases h; exact hO
  ·exact(hS.obj _ _ h).mono hx fun l x hp hh=>(hs _ _ _ _ h hp hh).1
 ·rw[DSt.get_new]at h1 h2;split at h1 <;> split at h2
  ·rename_i e1 e2; rw[e1,e2]
  ·rename_i e1 e2;rw[e1,addP_same]at p1; cases p1;rw[addP_ne _ _ e2]at p2;exact absurd q1 (hs _ _ _ _ h2 p2 q2).2
  ·rename_i e1 e2;rw[e2,addP_same]at p2; cases p2;rw[addP_ne _ _ e1]at p1;exact absurd q2 (hs _ _ _ _ h1 p1 q1).2
  ·rename_i e1 e2;rw[addP_ne _ _ e1]at p1;rw[addP_ne _ _ e2]at p2;exact hS.inj' _ _ _ _ _ _ _ h1 h2 p1 p2 q1 q2
 ·rw[DSt.get_new]at h;split at h
  ·rename_i e;rw[e,addP_same]at p; cases p;exact hL _ q
  ·rename_i e;rw[addP_ne _ _ e]at p;exact hS.out' _ _ _ _ h p q
 ·have h':S.nx+1≤b2:=h;rw[addP_ne _ _ (by omega)]; exact hS.nx _ (by omega)
theorem RelS.free (hS:RelS π Fr S s'){b':Nat}(hb:s' b'=none):Fr b'=none:=by
 cases hf:Fr b' with
 | none=>rfl
 | some y=>rw[hS.frm _ _ hf]at hb; cases hb
theorem cJ (hS:RelS π Fr S s'){b' c n:Nat}(hb:s' b'=none)(x:AObj){o:DObj}(hO:ObR (addP π S.nx (.real b' c n)) (upd s' b' x) S.nx o):
  RelS (addP π S.nx (.real b' c n)) Fr (S.new o) (upd s' b' x):=
 fG hS _ (fun b o l y h hp hh=>by
  have ne:y≠b':=fun e=>by subst e; exact(hS.obj _ _ h).some'' hp hh hb
  exact⟨aD _ _ ne,fun e=>ne e⟩) (fun y z h=>by
  have ne:y≠b':=fun e=>by subst e; rw[hS.frm _ _ h]at hb; cases hb
  rw[aD _ _ ne]; exact hS.frm _ _ h) (fun y e=>by cases e; exact hS.free hb) hO
theorem uD (hS:RelS π Fr S s')(T:Nat)(t:Ty):RelS (addP π S.nx .virt) Fr (S.new (.row T t [])) s':=
 fG hS _ (fun _ _ _ _ _ _ _=>⟨rfl,fun h=>h⟩) hS.frm (fun _ h=>h.elim) (.inl ⟨addP_same _ _ _,rfl⟩)
theorem fH (hS:RelS π Fr S s'){b b':Nat}{l:Loc}{o0:DObj}(h0:S.get b=some o0)(hp:π b=some l)(hh:l.has b')(x:AObj){o:DObj}(hO:ObR π (upd s' b' x) b o):RelS π Fr (S.set b o) (upd s' b' x):=by
 have live:∀ b2 o2,(S.set b o).get b2=some o2→∃ o3,S.get b2=some o3:=fun b2 o2 h=>by
  rw[DSt.get_set]at h;split at h
  ·rename_i e; subst e; exact⟨_,h0⟩
  ·exact⟨_,h⟩
 refine⟨fun b2 o2 h=>?_,fun b1 b2 o1 o2 l1 l2 y h1 h2 p1 p2 q1 q2=>?_,fun b3 y h=>?_,fun b2 o2 l2 y h p q=>?_,fun b2 h=>hS.nx _ h⟩
 ·rw[DSt.get_set]at h;split at h
  ·rename_i e; subst e; cases h; exact hO
  ·rename_i e;refine(hS.obj _ _ h).mono (Ext.refl _) fun l3 y hp3 hh3=>aD _ _ fun e3=>e ?_;subst e3;exact hS.inj' _ _ _ _ _ _ _ h h0 hp3 hp hh3 hh
 ·obtain⟨o3,h3⟩:=live _ _ h1;obtain⟨o4,h4⟩:=live _ _ h2;exact hS.inj' _ _ _ _ _ _ _ h3 h4 p1 p2 q1 q2
 ·have e:b3≠b':=fun e=>by rw[e,hS.out' _ _ _ _ h0 hp hh]at h; cases h
  rw[aD _ _ e]; exact hS.frm _ _ h
 ·obtain⟨o3,h3⟩:=live _ _ h;exact hS.out' _ _ _ _ h3 p q
theorem cK (hS:RelS π Fr S s'){b b' c n:Nat}{o0:DObj}(h0:S.get b=some o0)(hp:π b=some (.real b' c n))(x:AObj){o:DObj}(hO:ObR π (upd s' b' x) b o):RelS π Fr (S.set b o) (upd s' b' x):=
 fH hS h0 hp rfl x hO
theorem dY (hS:RelS π Fr S s')(b:Nat):RelS π Fr (S.del b) s':=by
 have live:∀ b2 o2,(S.del b).get b2=some o2→S.get b2=some o2:=fun b2 o2 h=>by
  rw[DSt.get_del]at h;split at h
  ·cases h
  ·exact h
 exact⟨fun b2 o2 h=>hS.obj _ _ (live _ _ h),fun b1 b2 o1 o2 l1 l2 x h1 h2 p1 p2 q1 q2=>hS.inj' _ _ _ _ _ _ _ (live _ _ h1) (live _ _ h2) p1 p2 q1 q2,hS.frm,fun b2 o2 l x h p q=>hS.out' _ _ _ _ (live _ _ h) p q,hS.nx⟩
theorem n7 (hS:RelS π Fr S s'){b b':Nat}{l:Loc}{o0:DObj}(h0:S.get b=some o0)(hp:π b=some l)(hh:l.has b'):RelS π Fr (S.del b) (del s' b'):=by
 have hd:=dY hS b;refine⟨fun b2 o2 h=>?_,hd.inj',fun b3 y h=>?_,hd.out',hd.nx⟩
 ·refine(hd.obj _ _ h).mono (Ext.refl _) fun l3 y hp3 hh3=>?_;have e:y≠b':=fun e=>by
   subst e;rw[DSt.get_del]at h;split at h
   ·cases h
   ·rename_i e; exact e (hS.inj' _ _ _ _ _ _ _ h h0 hp3 hp hh3 hh)
  unfold del; rw[if_neg e]
 ·have e:b3≠b':=fun e=>by rw[e,hS.out' _ _ _ _ h0 hp hh]at h; cases h
  unfold del; rw[if_neg e]; exact hS.frm _ _ h
theorem n8 (hS:RelS π Fr S s'){b b' c n:Nat}{o0:DObj}(h0:S.get b=some o0)(hp:π b=some (.real b' c n)):RelS π Fr (S.del b) (del s' b'):=n7 hS h0 hp rfl
theorem RelS.tick' (hS:RelS π Fr S s')(y:Int):RelS (addP π S.nx (.tok y)) Fr S.tick s':=by
 have hx:Ext π (addP π S.nx (.tok y)):=cA (hS.nx _ (Nat.le_refl _)) _;refine⟨fun b2 o2 h=>(hS.obj _ _ h).mono hx fun _ _ _ _=>rfl,fun b1 b2 o1 o2 l1 l2 x h1 h2 p1 p2 q1 q2=>?_,hS.frm,fun b2 o2 l x h p q=>?_,fun b2 h=>?_⟩
 ·have e1:b1≠S.nx:=fun e=>by rw[e,addP_same]at p1; cases p1; exact q1
  have e2:b2≠S.nx:=fun e=>by rw[e,addP_same]at p2; cases p2; exact q2
  rw[addP_ne _ _ e1]at p1;rw[addP_ne _ _ e2]at p2;exact hS.inj' _ _ _ _ _ _ _ h1 h2 p1 p2 q1 q2
 ·have e1:b2≠S.nx:=fun e=>by rw[e,addP_same]at p; cases p; exact q
  rw[addP_ne _ _ e1]at p;exact hS.out' _ _ _ _ h p q
 ·have h':S.nx+1≤b2:=h;rw[addP_ne _ _ (by omega)]; exact hS.nx _ (by omega)
theorem wy {α:Type}(l:List α)(i j:Nat)(x d:α)(hi:i < l.length):(l.set i x).getD j d=if i=j then x else l.getD j d:=by
 by_cases e:i=j
 ·subst e; simp[List.getD_eq_getElem?_getD,hi]
 ·simp[List.getD_eq_getElem?_getD,List.getElem?_set,e]
theorem RowsR.set {T T':Nat}{t:Ty}{l:List (List t.den)}{b c:Nat}{f:Nat→Option (Nat×Nat×Nat)}(h:RowsR s' T T' t l b c f){i b2 c2 n2:Nat}(hi:i < l.length)(hf:f i=some (b2,c2,n2)){li:List t.den}{ys:List (List AV)}(hy:lL t li ys)(hl:n2=li.length):
  RowsR (upd s' b2 (.row T' t.w c2 ys)) T T' t (l.set i li) b c f:=by
 refine⟨by rw[List.length_set]; exact h.cap,?_,fun j hj=>?_,fun j p hj hp=>h.ne j p (by rwa [List.length_set]at hj) hp,fun j k p q hj hk hp hq=>h.dj j k p q (by rwa [List.length_set]at hj) (by rwa [List.length_set]at hk) hp hq⟩
 ·obtain⟨xs,g1,g2,g3⟩:=h.ex;exact⟨xs,by rw[aD _ _ (Ne.symm (h.ne i _ hi hf))]; exact g1,by rw[List.length_set]; exact g2,fun j hj=>g3 j (by rwa [List.length_set]at hj)⟩
 ·rw[List.length_set]at hj;rw[wy _ _ _ _ _ hi];have hI:=h.ir i hi;rw[hf]at hI;by_cases e:i=j
  ·subst e;rw[if_pos rfl,hf];exact⟨hl,hI.2.1,ys,upd_same _ _ _,hy⟩
  ·rw[if_neg e];have hJ:=h.ir j hj;cases hfj:f j with
   | none=>rw[hfj]at hJ; exact hJ
   | some q=>
    obtain⟨b3,c3,n3⟩:=q;rw[hfj]at hJ;obtain⟨g1,g2,zs,g3,g4⟩:=hJ;refine⟨g1,g2,zs,?_,g4⟩;rw[aD _ _ fun e2=>e (h.dj i j _ _ hi hj hf hfj e2.symm)];exact g3
theorem bh {α:Type}(k k':Int)(x:α)(l:List (Int×α)):bA ((k',x)::l) k=if k'=k then some x else bA l k:=by
 by_cases e:k'=k <;> simp[bA,e]
theorem ql {α:Type}:∀ (l:List (Int×α)) (k k':Int) (x:α),bA (jC l k x) k'=if k=k' then some x else bA l k'
 | [],k,k',x=>by simp only[jC,bh]
 | (k0,y)::l,k,k',x=>by
  simp only[jC];by_cases e:k0=k
  ·subst e;rw[if_pos rfl,bh,bh];by_cases e2:k0=k' <;> simp[e2]
  ·rw[if_neg e,bh,ql l k k' x,bh];by_cases e2:k0=k'
   ·subst e2; rw[if_pos rfl,if_pos rfl,if_neg (Ne.symm e)]
   ·rw[if_neg e2,if_neg e2]
theorem n9 {α:Type}:∀ (l:List (Int×α)) (k:Int) (x:α),(bA l k).isSome=true→(jC l k x).map (·.1)=l.map (·.1)
 | [],k,x,h=>by simp[bA]at h
 | (k0,y)::l,k,x,h=>by
  simp only[jC];by_cases e:k0=k
  ·subst e; rw[if_pos rfl]; rfl
  ·rw[if_neg e];rw[bh,if_neg e]at h;simp only[List.map_cons,n9 l k x h]
theorem eD {α β:Type}:∀ {l:List (Int×α)} {m:List (Int×β)} (k:Int),l.map (·.1)=m.map (·.1)→(bA l k).isSome=(bA m k).isSome
 | [],[],k,_=>rfl
 | (a,x)::l,(b,y)::m,k,h=>by
  simp only[List.map_cons,List.cons.injEq]at h;obtain⟨rfl,h⟩:=h;rw[bh,bh];by_cases e:a=k
  ·simp[e]
  ·rw[if_neg e,if_neg e]; exact eD k h
 | [],_::_,_,h=>by simp at h
 | _::_,[],_,h=>by simp at h
theorem fI {α:Type}:∀ (l m:List (Int×α)) (k:Int),bA (l++m) k=if(bA l k).isSome then bA l k else bA m k
 | [],m,k=>by simp[bA]
 | (a,x)::l,m,k=>by
  rw[List.cons_append,bh,bh];by_cases e:a=k
  ·simp[e]
  ·rw[if_neg e,if_neg e]; exact fI l m k
theorem oa {α:Type}:∀ {l:List (Int×α)} {k:Int},bA l k=none→k∉l.map (·.1)
 | [],k,_=>by simp
 | (a,x)::l,k,h=>by
  rw[bh]at h;by_cases e:a=k
  ·rw[if_pos e]at h; cases h
  ·rw[if_neg e]at h;have:=oa h;rw[List.map_cons,List.mem_cons];rintro(h | h)
   ·exact e h.symm
   ·exact this h
theorem mF {α:Type}:∀ {l:List (Int×α)} {k:Int} {x:α},(l.map (·.1)).Nodup→(k,x)∈l→bA l k=some x
 | (a,y)::l,k,x,hn,h=>by
  rw[List.map_cons,List.nodup_cons]at hn;rw[bh];rcases List.mem_cons.1 h with e | h
  ·cases e; rw[if_pos rfl]
  ·rw[if_neg fun e=>hn.1 (by rw[show a=k from e]; exact List.mem_map.2 ⟨_,h,rfl⟩)];exact mF hn.2 h
theorem PoolR.set {t:Ty}{es:List (Int×t.den)}{g:List (Int×Nat)}(h:PoolR s' t es g){key:Int}{x:Nat}(hg:bA g key=some x){v:t.den}{as:List AV}(hc:CR t v as):PoolR (upd s' x (.box as)) t (jC es key v) g:=by
 have hk:(bA es key).isSome=true:=by rw[eD key h.keys,hg]; rfl
 refine⟨(n9 _ _ _ hk).trans h.keys,h.nd,fun k y hy=>?_,h.dj⟩;rw[ql];by_cases e:key=k
 ·subst e;rw[hg]at hy; cases hy;rw[if_pos rfl];exact⟨as,upd_same _ _ _,hc⟩
 ·rw[if_neg e];obtain⟨bs,g1,g2⟩:=h.ex k y hy;refine⟨bs,?_,g2⟩;rw[aD _ _ fun e2=>e (h.dj key k x hg (by rw[← e2]; exact hy))];exact g1
theorem HR.mono (h:HR π S RD R){S1:DSt}(hx:Ext π π1)(hl:∀ b,RD.any (Nat.beq b)=true→∃ o,S1.get b=some o):HR π1 S1 RD R:=by
 refine⟨fun b hb=>?_,fun b b' c n hb hp=>?_,fun b' hR=>?_⟩
 ·obtain⟨_,_,l,hp⟩:=h.live b hb;obtain⟨o,ho⟩:=hl b hb;exact⟨o,ho,l,hx _ _ hp⟩
 ·obtain⟨_,_,l,hl⟩:=h.live b hb;have:=hx _ _ hl;rw[hp]at this; cases this;exact h.to b b' c n hb hl
 ·obtain⟨b,l,h1,h2,h3⟩:=h.of b' hR;exact⟨b,l,h1,hx _ _ h2,h3⟩
theorem HR.new (h:HR π S RD R)(hx:Ext π π1)(o:DObj):HR π1 (S.new o) RD R:=h.mono hx fun b hb=>by
 obtain⟨o2,ho2,_⟩:=h.live b hb;rw[DSt.get_new];split
 ·exact⟨_,rfl⟩
 ·exact⟨_,ho2⟩
theorem HR.set (h:HR π S RD R)(b0:Nat)(o:DObj):HR π (S.set b0 o) RD R:=h.mono (Ext.refl _) fun b hb=>by
 obtain⟨o2,ho2,_⟩:=h.live b hb;rw[DSt.get_set];split
 ·exact⟨_,rfl⟩
 ·exact⟨_,ho2⟩
theorem HR.del (h:HR π S RD R){b0:Nat}(hn:aS RD b0=true):HR π (S.del b0) RD R:=h.mono (Ext.refl _) fun b hb=>by
 obtain⟨o2,ho2,_⟩:=h.live b hb;rw[DSt.get_del,if_neg fun e=>by subst e; simp[aS,hb]at hn];exact⟨_,ho2⟩
theorem lN {t:Ty}{l:List t.den}{xs:List (List AV)}(h:lL t l xs){i:Nat}(hi:i < l.length){x:t.den}{c:List AV}(hc:CR t x c):lL t (l.set i x) (xs.set i c):=by
 refine⟨by simp[h.1],fun j hj=>?_⟩;have hj':j < l.length:=by simpa using hj
 have hj2:j < xs.length:=by rw[h.1]; exact hj'
 by_cases e:i=j
 ·subst e
  simpa [ip,List.getD_eq_getElem?_getD,List.getElem?_set,hj',hj2]using hc
 ·have:=h.2 j hj'
  simpa [ip,List.getD_eq_getElem?_getD,List.getElem?_set,e]using this
theorem zD {t:Ty}{l:List t.den}{get:Nat→List AV}(h:∀ i,i < l.length→CR t (ip t l i) (get i)):lL t l ((List.range l.length).map get):=by
 refine⟨by simp,fun i hi=>?_⟩
 simpa [List.getD_eq_getElem?_getD,hi]using h i hi
theorem jH {t:Ty}{z:List AV}(h:CR t t.zero z)(n:Nat):lL t (gj n t.zero) (List.replicate n z):=by
 refine⟨by simp[gj],fun i hi=>?_⟩;have hi':i < n:=by simpa [gj]using hi
 simpa [gj,ip,List.getD_eq_getElem?_getD,List.getElem?_replicate,hi']using h
theorem sO {t:Ty}{l:List t.den}{xs:List (List AV)}(h:lL t l xs){p m:Nat}(hle:p+m≤l.length):lL t ((l.drop p).take m) ((xs.drop p).take m):=by
 refine⟨by simp[h.1],fun i hi=>?_⟩;simp only[List.length_take,List.length_drop]at hi;have:=h.2 (p+i) (by omega);have e1:ip t ((l.drop p).take m) i=ip t l (p+i):=by
  simp only[ip,List.getD_eq_getElem?_getD,List.getElem?_take,List.getElem?_drop]; rw[if_pos (by omega)]
 have e2:((xs.drop p).take m).getD i []=xs.getD (p+i) []:=by
  simp only[List.getD_eq_getElem?_getD,List.getElem?_take,List.getElem?_drop]; rw[if_pos (by omega)]
 rw[e1,e2]; exact this
theorem eB (hS:RelS π Fr S s'){t:Ty}{d:DV}{ys:List t.den}{a:AV}(h:mu S t d=some ys)(r:RelV π d a):∃ xs,lL t ys xs∧∀ K:List (List AV)→Prop,K xs→elems t.w s' a K:=by
 unfold mu pa at h;split at h
 ·rename_i t' y;split at h
  ·rename_i he; subst he; cases h;simp only[RelV,CR]at r;rcases r with⟨e,rfl⟩ | ⟨get,e,v⟩
   ·simp only[List.cons.injEq,and_true]at e; subst e;exact⟨[],jG t,fun K hk=>hk⟩
   ·simp only[List.cons.injEq,and_true]at e; subst e;exact⟨_,zD v,fun K hk=>⟨rfl,hk⟩⟩
  ·cases h
 ·cases h;simp only[RelV]at r; subst r;exact⟨[],jG t,fun K hk=>hk⟩
 ·rename_i b;simp only at h;split at h
  ·rename_i T t' l hb;split at h
   ·rename_i he; subst he; cases h;simp only[RelV]at r;rcases hS.obj _ _ hb with⟨g1,rfl⟩ | ⟨b2,c2,xs,hp2,hcap,hs,hr⟩
    ·rcases r with⟨b',c,m,hp,rfl⟩ | ⟨hp,rfl⟩
     ·rw[g1]at hp; cases hp
     ·exact⟨[],jG _,fun K hk=>hk⟩
    ·rcases r with⟨b',c,m,hp,rfl⟩ | ⟨hp,_⟩
     ·rw[hp2]at hp; cases hp;refine⟨xs,hr,fun K hk=>?_⟩;simp only[elems,hs];exact⟨trivial,trivial,hr.1.symm,hk⟩
     ·rw[hp2]at hp; cases hp
   ·cases h
  ·cases h
 ·rename_i b k p m;simp only at h;split at h
  ·rename_i T t' l hb;split at h
   ·rename_i he; subst he;cases hc:Nat.beq k t'.w with
    | false=>rw[hc]at h; cases h
    | true=>
     rw[hc]at h; cases h;obtain rfl:=ai.1 hc;simp only[RelV]at r;obtain⟨b',c,N,hp,hle,rfl⟩:=r;rcases hS.obj _ _ hb with⟨g1,rfl⟩ | ⟨b2,c2,xs,hp2,hcap,hs,hr⟩
     ·rw[g1]at hp; cases hp
     ·rw[hp2]at hp; cases hp;refine⟨(xs.drop p).take m,sO hr hle,fun K hk=>?_⟩;simp only[elems,hs];exact⟨trivial,trivial,by rw[hr.1]; exact hle,hk⟩
   ·cases h
  ·cases h
 ·rename_i b i;simp only at h;split at h
  ·rename_i T T' t' l hb;split at h
   ·rename_i he; subst he; cases h;simp only[RelV]at r;obtain⟨b',c,n,f,hp,hi,rfl⟩:=r;rcases hS.obj _ _ hb with⟨g1,_⟩ | ⟨b2,c2,f2,hp2,hR⟩
    ·rw[g1]at hp; cases hp
    ·rw[hp2]at hp; cases hp;have hI:=hR.ir i hi;cases hf:f i with
     | none=>
      rw[hf]at hI;rw[show l.getD i []=[]from hI];exact⟨[],jG _,fun K hk=>hk⟩
     | some q=>
      obtain⟨b3,c3,n3⟩:=q;rw[hf]at hI;obtain⟨hn,hc3,ys,hs,hy⟩:=hI;refine⟨ys,hy,fun K hk=>?_⟩;simp only[elems,ilv,hs];exact⟨trivial,trivial,by rw[hn]; exact hy.1.symm,hk⟩
   ·cases h
  ·cases h
 ·cases h
theorem iO {t:Ty}:∀ {n:Nat} {cs:List DV} {l:List t.den} {as:List AV},jD t n cs=some l→RelVs π cs as→l.length=n∧as.length=n*t.w∧∀ i,i < n→CR t (ip t l i) ((as.drop (i*t.w)).take t.w)
 | 0,[],l,as,h,r=>by
  simp only[RelVs]at r; subst r;cases h;exact⟨rfl,by simp,fun i hi=>by omega⟩
 | 0,_::_,l,as,h,r=>by simp[jD]at h
 | n+1,cs,l,as,h,r=>by
  simp only[jD]at h;split at h
  ·rename_i x rest hx;split at h
   ·rename_i l' hl;cases h;obtain⟨c,as',rfl,g,r'⟩:=kB hx r;obtain⟨h1,h2,h3⟩:=iO hl r';have hc:=dJ g;refine⟨by simp[h1],by rw[List.length_append,hc,h2,Nat.add_mul]; omega,fun i hi=>?_⟩;cases i with
    | zero=>
     have:(c++as').take t.w=c:=by rw[← hc]; simp
     simpa [ip,this]using g
    | succ i=>
     have e:(c++as').drop ((i+1)*t.w)=as'.drop (i*t.w):=by
      rw[List.drop_append,hc,List.drop_eq_nil_of_le (by rw[hc,Nat.add_mul]; omega),List.nil_append];congr 1;rw[Nat.add_mul]; omega
     rw[e];have:=h3 i (by omega)
     simpa [ip]using this
   ·cases h
  ·cases h
theorem fJ {t:Ty}{l:List t.den}{xs:List (List AV)}(h:lL t l xs)(n:Nat):lL t (l.take n) (xs.take n):=by
 refine⟨by simp[h.1],fun i hi=>?_⟩;simp only[List.length_take]at hi;have:=h.2 i (by omega);have e1:ip t (l.take n) i=ip t l i:=by
  simp only[ip,List.getD_eq_getElem?_getD,List.getElem?_take]; rw[if_pos (by omega)]
 have e2:(xs.take n).getD i []=xs.getD i []:=by
  simp only[List.getD_eq_getElem?_getD,List.getElem?_take]; rw[if_pos (by omega)]
 rw[e1,e2]; exact this
theorem mG {t:Ty}{l:List t.den}{xs:List (List AV)}(h:lL t l xs)(n:Nat):lL t (l.drop n) (xs.drop n):=by
 refine⟨by simp[h.1],fun i hi=>?_⟩;simp only[List.length_drop]at hi;have:=h.2 (n+i) (by omega);have e1:ip t (l.drop n) i=ip t l (n+i):=by simp[ip,List.getD_eq_getElem?_getD,List.getElem?_drop]
 have e2:(xs.drop n).getD i []=xs.getD (n+i) []:=by simp[List.getD_eq_getElem?_getD,List.getElem?_drop]
 rw[e1,e2]; exact this
structure RC (s':Store) (T':Nat) (t:Ty) (l:List (List t.den)) (xs:List (List AV)) (f:Nat→Option (Nat×Nat×Nat)):Prop where
 len:xs.length=l.length
 at_:∀ i,i < l.length→xs.getD i []=[ilv (f i)]
 ir:∀ i,i < l.length→IR s' T' t (f i) (l.getD i [])
 dj:∀ i j p q,i < l.length→j < l.length→f i=some p→f j=some q→p.1=q.1→i=j
theorem zE {T':Nat}{t:Ty}{p:Nat×Nat×Nat}{l:List t.den}(h:IR s' T' t (some p) l):s' p.1≠none:=by
 obtain⟨b2,c2,n2⟩:=p;obtain⟨_,_,ys,h,_⟩:=h;rw[h]; simp
theorem IR.mono {T':Nat}{t:Ty}{o:Option (Nat×Nat×Nat)}{l:List t.den}(h:IR s' T' t o l)(hs:∀ p,o=some p→s1 p.1=s' p.1):IR s1 T' t o l:=by
 cases o with
 | none=>exact h
 | some p=>
  obtain⟨b2,c2,n2⟩:=p;obtain⟨g1,g2,ys,g3,g4⟩:=h;exact⟨g1,g2,ys,(hs _ rfl).trans g3,g4⟩
theorem RC.mono {T':Nat}{t:Ty}{l:List (List t.den)}{xs:List (List AV)}{f:Nat→Option (Nat×Nat×Nat)}(h:RC s' T' t l xs f)(hs:∀ i p,i < l.length→f i=some p→s1 p.1=s' p.1):RC s1 T' t l xs f:=
 ⟨h.len,h.at_,fun i hi=>(h.ir i hi).mono fun p hp=>hs i p hi hp,h.dj⟩
theorem RC.app {T':Nat}{t:Ty}{l m:List (List t.den)}{xs ys:List (List AV)}{f g:Nat→Option (Nat×Nat×Nat)}(h:RC s' T' t l xs f)(k:RC s' T' t m ys g)(hd:∀ i j p q,i < l.length→j < m.length→f i=some p→g j=some q→p.1≠q.1):
  RC s' T' t (l++m) (xs++ys) (fun i=>if i < l.length then f i else g (i-l.length)):=by
 refine⟨by rw[List.length_append,List.length_append,h.len,k.len],fun i hi=>?_,fun i hi=>?_,fun i j p q hi hj hp hq e=>?_⟩
 ·rw[List.length_append]at hi;by_cases hl:i < l.length
  ·have:=h.at_ i hl;have hl':i < xs.length:=by rw[h.len]; exact hl
   simp only[if_pos hl];rw[← this]
   simp[List.getD_eq_getElem?_getD,List.getElem?_append,hl']
  ·have:=k.at_ (i-l.length) (by omega);have hl':¬ i < xs.length:=by rw[h.len]; exact hl
   simp only[if_neg hl];rw[← this]
   simp[List.getD_eq_getElem?_getD,List.getElem?_append,hl,h.len]
 ·rw[List.length_append]at hi;by_cases hl:i < l.length
  ·have:=h.ir i hl;simp only[if_pos hl];have e:(l++m).getD i []=l.getD i []:=by simp[List.getD_eq_getElem?_getD,List.getElem?_append,hl]
   rw[e]; exact this
  ·have:=k.ir (i-l.length) (by omega);simp only[if_neg hl];have e:(l++m).getD i []=m.getD (i-l.length) []:=by simp[List.getD_eq_getElem?_getD,List.getElem?_append,hl]
   rw[e]; exact this
 ·rw[List.length_append]at hi hj;by_cases h1:i < l.length <;> by_cases h2:j < l.length
  ·simp only[if_pos h1]at hp; simp only[if_pos h2]at hq; exact h.dj i j p q h1 h2 hp hq e
  ·simp only[if_pos h1]at hp; simp only[if_neg h2]at hq; exact absurd e (hd i _ p q h1 (by omega) hp hq)
  ·simp only[if_neg h1]at hp; simp only[if_pos h2]at hq; exact absurd e.symm (hd j _ q p h2 (by omega) hq hp)
  ·simp only[if_neg h1]at hp; simp only[if_neg h2]at hq;have:=k.dj _ _ p q (by omega) (by omega) hp hq e;omega
theorem gq {s0:Store}{S0:DSt}(hS:RelS π Fr S0 s0){bn c T T':Nat}{t:Ty}{l:List (List t.den)}{xs:List (List AV)}{f:Nat→Option (Nat×Nat×Nat)}(hb:s0 bn=none)(hR:RC s0 T' t l xs f)(hc:l.length≤c)
  (hi:∀ i p,i < l.length→f i=some p→Fr p.1=none∧∀ b o lc,S0.get b=some o→π b=some lc→¬ lc.has p.1) :
  RelS (addP π S0.nx (.rls bn c l.length f)) Fr (S0.new (.rows T T' t l)) (upd s0 bn (.row T 1 c xs)):=by
 have nin:∀ i p,i < l.length→f i=some p→p.1≠bn:=fun i p h1 h2 e=>by
  have:=hR.ir i h1;rw[h2]at this;exact zE this (by rw[e]; exact hb)
 refine fG hS _ (fun b o lc x h hp hh=>?_) (fun x y h=>?_) (fun x h=>?_) (.inr ⟨bn,c,f,addP_same _ _ _,hc,⟨xs,upd_same _ _ _,hR.len,hR.at_⟩,fun i h1=>(hR.ir i h1).mono fun p hp=>aD _ _ (nin i p h1 hp),nin,hR.dj⟩)
 ·have ne:x≠bn:=fun e=>by subst e; exact(hS.obj _ _ h).some'' hp hh hb
  refine⟨aD _ _ ne,?_⟩;rintro(e | ⟨i,p,h1,h2,rfl⟩)
  ·exact ne e
  ·exact(hi i p h1 h2).2 b o lc h hp hh
 ·have ne:x≠bn:=fun e=>by subst e; rw[hS.frm _ _ h]at hb; cases hb
  rw[aD _ _ ne]; exact hS.frm _ _ h
 ·rcases h with rfl | ⟨i,p,h1,h2,rfl⟩
  ·exact hS.free hb
  ·exact(hi i p h1 h2).1
theorem rF (hS:RelS π Fr S s')(T T':Nat)(t:Ty):RelS (addP π S.nx .virt) Fr (S.new (.rows T T' t [])) s':=
 fG hS _ (fun _ _ _ _ _ _ _=>⟨rfl,fun h=>h⟩) hS.frm (fun _ h=>h.elim) (.inl ⟨addP_same _ _ _,rfl⟩)
theorem Ff (hS:RelS π Fr S s'){r T':Nat}{t:Ty}{l:List t.den}(hb:S.get r=some (.row T' t l)){a:AV}(hv:RelV π (.slc r) a):
  ∃ f0,a=ilv f0∧IR s' T' t f0 l∧∀ p,f0=some p→∃ lc,π r=some lc∧lc.has p.1:=by
 simp only[RelV]at hv;rcases hS.obj _ _ hb with⟨g1,rfl⟩ | ⟨b2,c2,xs,hp2,hcap,hs,hr⟩
 ·rcases hv with⟨b',c,m,hp,rfl⟩ | ⟨hp,rfl⟩
  ·rw[g1]at hp; cases hp
  ·exact⟨none,rfl,rfl,fun p h=>by cases h⟩
 ·rcases hv with⟨b',c,m,hp,rfl⟩ | ⟨hp,_⟩
  ·rw[hp2]at hp; cases hp;exact⟨some (b2,c2,l.length),rfl,⟨rfl,hcap,xs,hs,hr⟩,fun p h=>by cases h; exact⟨_,hp2,rfl⟩⟩
  ·rw[hp2]at hp; cases hp
theorem pr (hS:RelS π Fr S s'){b T T':Nat}{t:Ty}{l:List (List t.den)}(hb:S.get b=some (.rows T T' t l)){a:AV}(hv:RelV π (.slr b) a):
  ∃ xs f,RC s' T' t l xs f∧(∀ K:List (List AV)→Prop,K xs→elems 1 s' a K)∧(∀ i p,i < l.length→f i=some p→∃ lc,π b=some lc∧lc.has p.1) ∧
   ((a = .emp∧l=[])∨∃ b' c,a = .slc b' l.length c∧π b=some (.rls b' c l.length f)∧s' b'=some (.row T 1 c xs)∧∀ i p,i < l.length→f i=some p→p.1≠b'):=by
 simp only[RelV]at hv;rcases hS.obj _ _ hb with⟨g1,rfl⟩ | ⟨b2,c2,f,hp2,hR⟩
 ·rcases hv with⟨b',c,m,f,hp,rfl⟩ | ⟨hp,rfl⟩
  ·rw[g1]at hp; cases hp
  ·exact⟨[],fun _=>none,⟨rfl,fun i hi=>by simp at hi,fun i hi=>by simp at hi,fun i j p q hi=>by simp at hi⟩,fun K hk=>hk,fun i p hi=>by simp at hi,.inl ⟨rfl,rfl⟩⟩
 ·rcases hv with⟨b',c,m,f',hp,rfl⟩ | ⟨hp,_⟩
  ·rw[hp2]at hp; cases hp;obtain⟨xs,h1,h2,h3⟩:=hR.ex;refine⟨xs,f,⟨h2,h3,hR.ir,hR.dj⟩,fun K hk=>?_,fun i p hi hf=>⟨_,hp2,.inr ⟨i,p,hi,hf,rfl⟩⟩,.inr ⟨b2,c2,rfl,hp2,h1,hR.ne⟩⟩;simp only[elems,h1];exact⟨trivial,trivial,h2.symm,hk⟩
  ·rw[hp2]at hp; cases hp
theorem uE {P:Program}(hS:RelS π Fr S s')(hH:HR π S RD R)(hρ:∀ x,RelV π (ρ x) (ρ' x)){o:AOp}{ann:Option (Bool×Ty)}{d:DV}{S1:DSt}{ob:List Bool}(h:LD RD S ρ o ann=some (d,S1,ob))(ho:ob.all id=true)
  {K:AV→Store→Prop} (hK:∀ a π1 s1,RelV π1 d a→Ext π π1→RelS π1 Fr S1 s1→HR π1 S1 RD R→K a s1):eff P R o ρ' s' K:=by
 have V:∀ x,(ρ x).df.all id=true→RelV π (ρ x).val (ρ' x).val:=fun x hx=>bv (hρ x) hx;have F:∀ x,(ρ x).df.all id=true→(ρ' x).df:=fun x hx=>bE (hρ x) hx;have hnx:∀ l,Ext π (addP π S.nx l):=cA (hS.nx _ (Nat.le_refl _));unfold LD at h;split at h
 ·
  rename_i z;cases h;intro b' hb hR;refine hK _ (addP π S.nx (.real b' 0 0)) _ ?_ (hnx _) (cJ hS hb _ ?_) (hH.new (hnx _) _)
  ·simp only[RelV]; exact⟨b',0,0,addP_same _ _ _,rfl⟩
  ·exact⟨b',0,0,z,addP_same _ _ _,upd_same _ _ _,gp z⟩
 ·
  rename_i x;cases hc:(bu (ρ x).val).all DV.one with
  | false=>rw[hc]at h; cases h
  | true=>
   rw[hc]at h; cases h;obtain⟨g1,g2⟩:=bQ (V x ho) hc;refine⟨F x ho,g2,fun b' hb hR=>?_⟩;refine hK _ (addP π S.nx (.real b' 0 0)) _ ?_ (hnx _) (cJ hS hb _ ?_) (hH.new (hnx _) _)
   ·simp only[RelV]; exact⟨b',0,0,addP_same _ _ _,rfl⟩
   ·exact⟨b',0,0,_,addP_same _ _ _,upd_same _ _ _,g1.ext (hnx _)⟩
 ·
  rename_i p v n;cases hc:(Nat.beq (bu (ρ v).val).length n&&(bu (ρ v).val).all DV.one)with
  | false=>rw[hc]at h; cases h
  | true=>
   rw[hc]at h;simp only[cond_true]at h;simp only[Bool.and_eq_true,ai]at hc;split at h
   ·rename_i b o hp;split at h
    ·rename_i cs hb;cases hd:(aS RD b&&ee (o+n) cs.length)with
     | false=>rw[hd]at h; cases h
     | true=>
      rw[hd]at h; cases h;simp only[Bool.and_eq_true,ee,Nat.ble_eq]at hd;obtain⟨o1,o2⟩:=ah ho;obtain⟨g1,g2⟩:=bQ (V v o2) hc.2;have vp:=V p o1; rw[hp]at vp;simp only[RelV]at vp;obtain⟨b',c,m,hpb,e⟩:=vp;obtain⟨b2,c2,n2,as,hp2,hs,hr⟩:=hS.obj _ _ hb;rw[hpb]at hp2; cases hp2;refine⟨F p o1,F v o2,(aL g1).trans hc.1,g2,?_⟩;simp only[e,hs];refine⟨cX hS hH hb hd.1 hpb,by rw[aL hr]; exact hd.2,hK _ π _ (by simp only[RelV]) (Ext.refl _) (cK hS hb hpb _ ?_) (hH.set _ _)⟩;exact⟨b',c,m,_,hpb,upd_same _ _ _,cO o hr g1⟩
    ·cases h
   ·rename_i b k i j hp;split at h
    ·rename_i T t l hb;cases hd:(aS RD b&&Nat.beq t.w k&&ee (j+n) k)with
     | false=>rw[hd]at h; cases h
     | true=>
      rw[hd]at h;simp only[cond_true]at h;split at h
      ·rename_i x hx;cases h;simp only[Bool.and_eq_true,ee,Nat.ble_eq,ai]at hd;obtain⟨⟨d1,rfl⟩,d3⟩:=hd;obtain⟨o1,o2⟩:=ah ho;obtain⟨g1,g2⟩:=bQ (V v o2) hc.2;have vp:=V p o1; rw[hp]at vp;simp only[RelV]at vp;obtain⟨b',c,m,hpb,hi,e⟩:=vp;rcases hS.obj _ _ hb with⟨q1,_⟩ | ⟨b2,c2,xs,hp2,hcap,hs,hr⟩
       ·rw[hpb]at q1; cases q1
       ·rw[hpb]at hp2; cases hp2;have hcr:=bF hx (cO j (bi (π:=π) (hr.2 i hi)) g1);refine⟨F p o1,F v o2,(aL g1).trans hc.1,g2,?_⟩;simp only[e,hs];refine⟨trivial,cX hS hH hb d1 hpb,by rw[hr.1]; exact hi,d3,hK _ π _ (by simp only[RelV]) (Ext.refl _) (cK hS hb hpb _ ?_) (hH.set _ _)⟩;exact .inr ⟨b',c,_,by rw[List.length_set]; exact hpb,by rw[List.length_set]; exact hcap,upd_same _ _ _,lN hr hi hcr⟩
      ·cases h
    ·cases h
   ·rename_i b k i j o hp;split at h
    ·rename_i T T' t l hb;cases hd:(aS RD b&&Nat.beq t.w k&&ee (o+n) k)with
     | false=>rw[hd]at h; cases h
     | true=>
      rw[hd]at h;simp only[cond_true]at h;split at h
      ·rename_i x hx;cases h;simp only[Bool.and_eq_true,ee,Nat.ble_eq,ai]at hd;obtain⟨⟨d1,rfl⟩,d3⟩:=hd;obtain⟨o1,o2⟩:=ah ho;obtain⟨g1,g2⟩:=bQ (V v o2) hc.2;have vp:=V p o1; rw[hp]at vp;simp only[RelV]at vp;obtain⟨b',c,m,f,b2,c2,n2,hpb,hi,hf,hj,e⟩:=vp;rcases hS.obj _ _ hb with⟨q1,_⟩ | ⟨b3,c3,f3,hp3,hR⟩
       ·rw[hpb]at q1; cases q1
       ·rw[hpb]at hp3; cases hp3;have hI:=hR.ir i hi;rw[hf]at hI;obtain⟨rfl,hc2,ys,hs,hy⟩:=hI;have hcr:=bF hx (cO o (bi (π:=π) (hy.2 j hj)) g1);have hh:Loc.has (.rls b' c l.length f) b2:=.inr ⟨i,_,hi,hf,rfl⟩;refine⟨F p o1,F v o2,(aL g1).trans hc.1,g2,?_⟩;simp only[e,hs];refine⟨trivial,mC hS hH hb d1 hpb hh,by rw[hy.1]; exact hj,d3,hK _ π _ (by simp only[RelV]) (Ext.refl _) (fH hS hb hpb hh _ ?_) (hH.set _ _)⟩;exact .inr ⟨b',c,f,by rw[List.length_set]; exact hpb,hR.set hi hf (lN hy hj hcr) (by rw[List.length_set])⟩
      ·cases h
    ·cases h
   ·rename_i b key o hp;split at h
    ·rename_i t es hb;cases hd:(aS RD b&&ee (o+n) t.w)with
     | false=>rw[hd]at h; cases h
     | true=>
      rw[hd]at h;simp only[cond_true]at h;split at h
      ·rename_i x hx;cases h;simp only[Bool.and_eq_true,ee,Nat.ble_eq]at hd;obtain⟨d1,d3⟩:=hd;obtain⟨o1,o2⟩:=ah ho;obtain⟨g1,g2⟩:=bQ (V v o2) hc.2;have vp:=V p o1; rw[hp]at vp;simp only[RelV]at vp;obtain⟨g,y,hpb,hg,e⟩:=vp;obtain⟨g',hp3,hP⟩:=hS.obj _ _ hb;rw[hpb]at hp3; cases hp3;obtain⟨as,hs,hcr0⟩:=hP.ex _ _ hg;have hcr:=bF hx (cO o (bi (π:=π) hcr0) g1);have hh:Loc.has (.pol g) y:=⟨key,hg⟩
       refine⟨F p o1,F v o2,(aL g1).trans hc.1,g2,?_⟩;simp only[e,hs];exact⟨mC hS hH hb d1 hpb hh,by rw[dJ hcr0]; exact d3,hK _ π _ (by simp only[RelV]) (Ext.refl _) (fH hS hb hpb hh _ ⟨g,hpb,hP.set hg hcr⟩) (hH.set _ _)⟩
      ·cases h
    ·cases h
   ·cases h
 ·
  rename_i kn T0;split at h
  ·rename_i t;cases hd:Nat.beq kn 0 with
   | false=>rw[hd]at h; cases h
   | true=>
    rw[hd]at h; cases h;obtain rfl:=ai.1 hd;intro b' hb hR;have h1:=fG hS (.pol []) (s1:=s') (o:=.pool t []) (fun _ _ _ _ _ _ _=>⟨rfl,fun⟨k,hk⟩=>by simp[bA]at hk⟩) hS.frm (fun x ⟨k,hk⟩=>by simp[bA]at hk)
     ⟨[],addP_same _ _ _,rfl,List.nodup_nil,fun k x hk=>by simp[bA]at hk,fun k1 k2 x hk=>by simp[bA]at hk⟩
    have hx1:=hnx (.pol []);have hx2:Ext (addP π S.nx (.pol [])) (addP (addP π S.nx (.pol [])) (S.nx+1) (.real b' 0 0)):=cA (h1.nx _ (Nat.le_refl _)) _;refine hK _ (addP (addP π S.nx (.pol [])) (S.nx+1) (.real b' 0 0)) _ ?_ (hx1.trans hx2) (cJ h1 hb (.imap 0 [] none) ?_) ((hH.new hx1 _).new hx2 _)
    ·simp only[RelV]; exact⟨b',0,0,addP_same _ _ _,rfl⟩
    ·exact⟨b',0,0,[],addP_same _ _ _,hx2 _ _ (addP_same _ _ _),upd_same _ _ _⟩
  ·rename_i ag t _;cases h;intro b' hb hR;refine hK _ (addP π S.nx (.real b' 0 0)) _ ?_ (hnx _) (cJ hS hb _ ?_) (hH.new (hnx _) _)
   ·simp only[RelV]; exact⟨b',0,0,addP_same _ _ _,rfl⟩
   ·exact⟨b',0,0,[],addP_same _ _ _,rfl,upd_same _ _ _⟩
  ·cases h
 ·
  rename_i T k by_ z n;split at h
  ·rename_i ag t ki m hm;cases hd:(Nat.beq t.w k&&lw t z)with
   | false=>rw[hd]at h; cases h
   | true=>
    rw[hd]at h; cases h;simp only[Bool.and_eq_true,ai]at hd;obtain⟨rfl,hz⟩:=hd;obtain⟨o1,o2⟩:=ah ho;simp only[List.all_cons,List.all_nil,id,Bool.and_true,Bool.and_eq_true,decide_eq_true_eq]at o2;have e:=aO hm (V n o1);have hz':CR t t.zero z:=by
     unfold lw at hz;split at hz
     ·rename_i hzz; obtain⟨c,rfl,g⟩:=gn hzz; simpa using g
     ·cases hz
    refine⟨F n o1,?_⟩;simp only[e];refine⟨o2.1,o2.2,fun b' hb hR=>?_⟩;refine hK _ (addP π S.nx (.real b' m.toNat m.toNat)) _ ?_ (hnx _) (cJ hS hb _ ?_) (hH.new (hnx _) _)
    ·simp only[RelV]; exact .inl ⟨b',_,_,addP_same _ _ _,rfl⟩
    ·exact .inr ⟨b',m.toNat,_,by simp only[gj,List.length_replicate]; exact addP_same _ _ _,by simp only[gj,List.length_replicate]; exact Nat.le_refl _,upd_same _ _ _,jH hz' _⟩
  ·cases h
 ·
  rename_i T k xs;split at h
  ·split at h
   ·rename_i x;split at h
    ·rename_i r hx;split at h
     ·rename_i T' t' l hb;cases hd:(Nat.beq 1 k&&aS RD r)with
      | false=>rw[hd]at h; cases h
      | true=>
       rw[hd]at h; cases h;simp only[Bool.and_eq_true,ai]at hd;obtain⟨rfl,hnr⟩:=hd;obtain⟨g1,g2⟩:=db hρ ho;have ho1:(ρ x).df.all id=true:=by simpa [gO]using ho
       have vx:=V x ho1; rw[hx]at vx;obtain⟨f0,e,hI,hown⟩:=Ff hS hb vx;obtain⟨i1,i2,i3,i4⟩:=jF f0;have ev:vals ρ' [x]=[ilv f0]:=by simp[vals,e]
       have hS0:=dY hS r;refine⟨g2,by rw[ev]; exact⟨by rw[i4]; rfl,by rw[i4]; simp[i1],trivial⟩,fun b' hb' hR=>?_⟩;have ec:(vals ρ' [x]).map cellsOf=[[ilv f0]]:=by rw[ev]; simp[i4]
       rw[ec];refine hK _ (addP π S.nx (.rls b' 1 1 fun _=>f0)) _ ?_ (hnx _) (gq (l:=[l]) (xs:=[[ilv f0]]) (f:=fun _=>f0) hS0 hb' ⟨rfl,fun i hi=>?_,fun i hi=>?_,fun i j p q hi hj _ _ _=>?_⟩ (Nat.le_refl _) fun i p hi hp=>?_) ((hH.del hnr).new (hnx _) _)
       ·simp only[RelV]; exact .inl ⟨b',1,1,_,addP_same _ _ _,rfl⟩
       ·have:i=0:=by simpa using hi
        subst this; rfl
       ·have:i=0:=by simpa using hi
        subst this; exact hI
       ·have h1:i=0:=by simpa using hi
        have h2:j=0:=by simpa using hj
        rw[h1,h2]
       ·obtain⟨lc,hl,hh⟩:=hown p hp;refine⟨hS.out' _ _ _ _ hb hl hh,fun b o lc2 hg hp2 hh2=>?_⟩;rw[DSt.get_del]at hg;split at hg
        ·cases hg
        ·rename_i hne; exact hne (hS.inj' _ _ _ _ _ _ _ hg hb hp2 hl hh2 hh)
     ·cases h
    ·cases h
   ·cases h
  ·rename_i ag t _;split at h
   ·rename_i l hl;cases hd:Nat.beq t.w k with
    | false=>rw[hd]at h; cases h
    | true=>
     rw[hd]at h; cases h;obtain rfl:=ai.1 hd;obtain⟨g1,g2⟩:=db hρ ho;obtain⟨k1,k2,k3⟩:=jc hl g1;have hlen:xs.length=l.length:=by rw[← k3]; simp[vals]
     refine⟨g2,k2,fun b' hb hR=>?_⟩;refine hK _ (addP π S.nx (.real b' l.length l.length)) _ ?_ (hnx _) (cJ hS hb _ ?_) (hH.new (hnx _) _)
     ·simp only[RelV]; exact .inl ⟨b',_,_,addP_same _ _ _,by rw[hlen]⟩
     ·exact .inr ⟨b',l.length,_,addP_same _ _ _,Nat.le_refl _,by rw[upd_same,hlen],k1⟩
   ·cases h
  ·cases h
 ·
  rename_i T k by_ x y;split at h
  ·split at h
   ·rename_i b2 hy;split at h
    ·rename_i T2 T2' t' l2 hb2;have emp:∀ S0,RelS π Fr S0 s'→HR π S0 RD R→S0.nx=S.nx→S0.get b2=none→(∀ b o,S0.get b=some o→S.get b=some o)→k=1→(ρ' x).val = .emp→(ρ' x).df→(ρ' y).df→(RelV π (.slr b2) (ρ' y).val)→by_*l2.length≤140737488355328 →
       (∀ a π1 s1,RelV π1 (.slr S.nx) a→Ext π π1→RelS π1 Fr (S0.new (.rows T T2' t' l2)) s1→HR π1 (S0.new (.rows T T2' t' l2)) RD R→K a s1)→eff P R (.app T k by_ x y) ρ' s' K:=by
      intro S0 hS0 hH0 hn hno hsub hk1 ex fx fy vy hby hk;subst hk1;obtain⟨xs,f,hR,hel,hown,_⟩:=pr hS hb2 vy;refine⟨fx,fy,hel _ ?_⟩;simp only[ex];refine⟨by rw[hR.len]; exact hby,fun h0=>?_,fun h0 b' c hb hRb hc=>?_⟩
      ·have e0:l2=[]:=List.eq_nil_of_length_eq_zero (by rw[← hR.len]; exact h0);subst e0;refine hk _ (addP π S.nx .virt) _ ?_ (hnx _) ?_ ?_
       ·simp only[RelV]; exact .inr ⟨addP_same _ _ _,trivial⟩
       ·rw[← hn]; exact rF hS0 T T2' t'
       ·exact hH0.new (hnx _) _
      ·refine hk _ (addP π S.nx (.rls b' c l2.length f)) _ ?_ (hnx _) ?_ (hH0.new (hnx _) _)
       ·simp only[RelV]; exact .inl ⟨b',_,_,_,addP_same _ _ _,by rw[hR.len]⟩
       ·rw[← hn];refine gq hS0 hb hR (by rw[← hR.len]; exact hc) fun i p hi hp=>?_;obtain⟨lc,hl,hh⟩:=hown i p hi hp;refine⟨hS.out' _ _ _ _ hb2 hl hh,fun b o lc2 hg hp2 hh2=>?_⟩;have:=hS.inj' _ _ _ _ _ _ _ (hsub _ _ hg) hb2 hp2 hl hh2 hh;subst this; rw[hno]at hg; cases hg
     have sub1:∀ b o,(S.del b2).get b=some o→S.get b=some o:=fun b o h=>by
      rw[DSt.get_del]at h;split at h
      ·cases h
      ·exact h
     have no1:(S.del b2).get b2=none:=by rw[DSt.get_del,if_pos rfl]
     split at h
     ·rename_i hx;cases hd:(Nat.beq 1 k&&aS RD b2)with
      | false=>rw[hd]at h; cases h
      | true=>
       rw[hd]at h; cases h;simp only[Bool.and_eq_true,ai]at hd;obtain⟨rfl,hn2⟩:=hd;obtain⟨o1,o2⟩:=ah ho;obtain⟨o2,o3⟩:=ah o2;simp only[bN,List.all_cons,List.all_nil,id,Bool.and_true,decide_eq_true_eq]at o3;have vx:=V x o1; rw[hx]at vx;simp only[RelV]at vx;have vy:=V y o2; rw[hy]at vy;exact emp (S.del b2) (dY hS b2) (hH.del hn2) rfl no1 sub1 rfl vx (F x o1) (F y o2) vy o3 hK
     ·rename_i b hx;split at h
      ·rename_i T1 T1' t1 l hb;split at h
       ·rename_i ht;subst ht;cases hd:(Nat.beq 1 k&&(Nat.beq T1 T&&(Nat.beq T1' T2'&&(aS RD b2&&(aS RD b&&!Nat.beq b b2)))))with
        | false=>rw[hd]at h; cases h
        | true=>
         rw[hd]at h; cases h;simp only[Bool.and_eq_true,ai,Bool.not_eq_true']at hd;obtain⟨rfl,rfl,rfl,hn2,hn1,hbb⟩:=hd;have hne:b≠b2:=fun e=>by subst e; simp at hbb
         obtain⟨o1,o23⟩:=ah ho;obtain⟨o2,o3⟩:=ah o23;simp only[bN,List.all_cons,List.all_nil,id,Bool.and_true,decide_eq_true_eq]at o3;have vx:=V x o1; rw[hx]at vx;have vy:=V y o2; rw[hy]at vy;have hb1:(S.del b2).get b=some (.rows T1 T1' t' l):=by rw[DSt.get_del,if_neg hne]; exact hb
         obtain⟨xs,f,hR,hel,hown,hc⟩:=pr hS hb vx;rcases hc with⟨ex,rfl⟩ | ⟨b0,c0,ex,hp0,hs0,hin0⟩
         ·refine emp ((S.del b2).del b) (dY (dY hS b2) b) ((hH.del hn2).del hn1) rfl (by rw[DSt.get_del,no1]; split <;> rfl) (fun b3 o3 h3=>sub1 _ _ (by
           rw[DSt.get_del]at h3;split at h3
           ·cases h3
           ·exact h3)) rfl ex (F x o1) (F y o2) vy (by simpa using o3) fun a π1 s1 q1 q2 q3 q4=>hK a π1 s1 q1 q2 (by simpa using q3) (by simpa using q4)
         ·obtain⟨ys,f2,hR2,hel2,hown2,_⟩:=pr hS hb2 vy;refine⟨F x o1,F y o2,hel2 _ ?_⟩;simp only[ex,hs0];refine⟨trivial,trivial,trivial,hR.len.symm,mC hS hH hb hn1 hp0 (.inl rfl),by rw[hR2.len]; exact o3,fun b3 c3 hb3 hR3 hc3=>?_⟩;have hS0:=dY (n7 hS hb hp0 (.inl rfl)) b2;have eS:∀ b4,((S.del b).del b2).get b4=((S.del b2).del b).get b4:=fun b4=>by
           simp only[DSt.get_del];by_cases e1:b4=b <;> by_cases e2:b4=b2 <;> simp[e1,e2]
          have in2:∀ i p,i < l2.length→f2 i=some p→p.1≠b0:=fun i p hi hp e=>by
           obtain⟨lc,hl,hh⟩:=hown2 i p hi hp;exact hne (hS.inj' _ _ _ _ _ _ b0 hb hb2 hp0 hl (.inl rfl) (e▸hh))
          have hRd:RC (del s' b0) T1' t' (l++l2) (xs++ys) (fun i=>if i < l.length then f i else f2 (i-l.length)):=by
           refine RC.app (hR.mono fun i p hi hp=>?_) (hR2.mono fun i p hi hp=>?_) fun i j p q hi hj hp hq e=>?_
           ·unfold del; rw[if_neg (hin0 i p hi hp)]
           ·unfold del; rw[if_neg (in2 i p hi hp)]
           ·obtain⟨lc,hl,hh⟩:=hown i p hi hp;obtain⟨lc2,hl2,hh2⟩:=hown2 j q hj hq;exact hne (hS.inj' _ _ _ _ _ _ p.1 hb hb2 hl hl2 hh (e▸hh2))
          have hlen:l.length+ys.length=(l++l2).length:=by rw[List.length_append,hR2.len]
          have hS1:RelS π Fr ((S.del b2).del b) (del s' b0):=⟨fun b4 o4 h4=>hS0.obj b4 o4 ((eS b4).trans h4),fun b4 b5 o4 o5 l4 l5 x h4 h5=>hS0.inj' _ _ _ _ _ _ _ ((eS b4).trans h4) ((eS b5).trans h5),hS0.frm,fun b4 o4 l4 x h4=>hS0.out' _ _ _ _ ((eS b4).trans h4),hS.nx⟩
          refine hK _ (addP π S.nx (.rls b3 c3 (l++l2).length _)) _ ?_ (hnx _) (gq (S0:=(S.del b2).del b) hS1 hb3 hRd (by rw[← hlen]; exact hc3) fun i p hi hp=>?_) (((hH.del hn2).del hn1).new (hnx _) _)
          ·simp only[RelV]; exact .inl ⟨b3,_,_,_,addP_same _ _ _,by rw[hlen]⟩
          ·have gone:∀ b4 o4,((S.del b2).del b).get b4=some o4→S.get b4=some o4∧b4≠b∧b4≠b2:=fun b4 o4 h4=>by
            rw[DSt.get_del]at h4;split at h4
            ·cases h4
            ·rename_i e1;rw[DSt.get_del]at h4;split at h4
             ·cases h4
             ·rename_i e2; exact⟨h4,e1,e2⟩
           have own:(∃ lc,π b=some lc∧lc.has p.1)∨∃ lc,π b2=some lc∧lc.has p.1:=by
            rw[List.length_append]at hi;by_cases hl:i < l.length
            ·simp only[if_pos hl]at hp; exact .inl (hown i p hl hp)
            ·simp only[if_neg hl]at hp; exact .inr (hown2 _ p (by omega) hp)
           rcases own with⟨lc,hl,hh⟩ | ⟨lc,hl,hh⟩
           ·exact⟨hS.out' _ _ _ _ hb hl hh,fun b4 o4 lc4 h4 p4 hh4=>by
             obtain⟨g1,g2,g3⟩:=gone b4 o4 h4;exact g2 (hS.inj' _ _ _ _ _ _ _ g1 hb p4 hl hh4 hh)⟩
           ·exact⟨hS.out' _ _ _ _ hb2 hl hh,fun b4 o4 lc4 h4 p4 hh4=>by
             obtain⟨g1,g2,g3⟩:=gone b4 o4 h4;exact g3 (hS.inj' _ _ _ _ _ _ _ g1 hb2 p4 hl hh4 hh)⟩
       ·cases h
      ·cases h
     ·cases h
    ·cases h
   ·cases h
  ·rename_i ag t _;cases hd:Nat.beq t.w k with
   | false=>rw[hd]at h; cases h
   | true=>
    rw[hd]at h;obtain rfl:=ai.1 hd;simp only[cond_true]at h;split at h
    ·rename_i ys hys;have emp:∀ S0,RelS π Fr S0 s'→HR π S0 RD R→S0.nx=S.nx→(ρ' x).val = .emp→(ρ' x).df→(ρ' y).df→(∀ xs,lL t ys xs→(∀ K:List (List AV)→Prop,K xs→elems t.w s' (ρ' y).val K)→by_*ys.length≤140737488355328 →
       (∀ a π1 s1,RelV π1 (.slc S.nx) a→Ext π π1→RelS π1 Fr (S0.new (.row T t ys)) s1→HR π1 (S0.new (.row T t ys)) RD R→K a s1)→eff P R (.app T t.w by_ x y) ρ' s' K):=by
      intro S0 hS0 hH0 hn ex fx fy xs hx he hby hk;refine⟨fx,fy,he _ ?_⟩;simp only[ex];refine⟨by rw[hx.1]; exact hby,fun h0=>?_,fun h0 b' c hb hR hc=>?_⟩
      ·have e0:ys=[]:=List.eq_nil_of_length_eq_zero (by rw[← hx.1]; exact h0);subst e0;refine hk _ (addP π S.nx .virt) _ ?_ (hnx _) ?_ ?_
       ·simp only[RelV]; exact .inr ⟨addP_same _ _ _,trivial⟩
       ·rw[← hn]; exact uD hS0 T t
       ·exact hH0.new (hnx _) _
      ·refine hk _ (addP π S.nx (.real b' c ys.length)) _ ?_ (hnx _) ?_ (hH0.new (hnx _) _)
       ·simp only[RelV]; exact .inl ⟨b',_,_,addP_same _ _ _,by rw[hx.1]⟩
       ·rw[← hn];exact cJ hS0 hb _ (.inr ⟨b',c,_,addP_same _ _ _,by rw[← hx.1]; exact hc,upd_same _ _ _,hx⟩)
     split at h
     ·rename_i hx;cases h;obtain⟨o1,o2⟩:=ah ho;obtain⟨o2,o3⟩:=ah o2;simp only[bN,List.all_cons,List.all_nil,id,Bool.and_true,decide_eq_true_eq]at o3;have vx:=V x o1; rw[hx]at vx;simp only[RelV]at vx;obtain⟨xs,g1,g2⟩:=eB hS hys (V y o2);exact emp S hS hH rfl vx (F x o1) (F y o2) xs g1 g2 o3 hK
     ·rename_i b hx;split at h
      ·rename_i T' t' l hb;split at h
       ·rename_i ht;subst ht;cases hd2:(Nat.beq T' T&&aS RD b)with
        | false=>rw[hd2]at h; cases h
        | true=>
         rw[hd2]at h; cases h;simp only[Bool.and_eq_true,ai]at hd2;obtain⟨rfl,hnb⟩:=hd2;obtain⟨o1,o23⟩:=ah ho;obtain⟨o2,o3⟩:=ah o23;simp only[bN,List.all_cons,List.all_nil,id,Bool.and_true,decide_eq_true_eq]at o3;have vx:=V x o1; rw[hx]at vx;simp only[RelV]at vx;obtain⟨xs,g1,g2⟩:=eB hS hys (V y o2);rcases hS.obj _ _ hb with⟨q1,rfl⟩ | ⟨b2,c2,zs,hp2,hcap,hs,hr⟩
         ·rcases vx with⟨b',c,m,hp,e⟩ | ⟨hp,e⟩
          ·rw[q1]at hp; cases hp
          ·exact emp (S.del b) (dY hS b) (hH.del hnb) rfl e (F x o1) (F y o2) xs g1 g2 (by simpa using o3) hK
         ·rcases vx with⟨b',c,m,hp,e⟩ | ⟨hp,_⟩
          ·rw[hp2]at hp; cases hp;refine⟨F x o1,F y o2,g2 _ ?_⟩;simp only[e,hs];refine⟨trivial,trivial,trivial,hr.1.symm,cX hS hH hb hnb hp2,by rw[g1.1]; exact o3,fun b3 c3 hb3 hR3 hc3=>?_⟩;have hS':=n8 hS hb hp2;have hlen:l.length+xs.length=(l++ys).length:=by rw[List.length_append,g1.1]
           refine hK _ (addP π S.nx (.real b3 c3 (l++ys).length)) _ ?_ (hnx _) ?_ ((hH.del hnb).new (hnx _) _)
           ·simp only[RelV]; exact .inl ⟨b3,_,_,addP_same _ _ _,by rw[hlen]⟩
           ·exact cJ hS' hb3 _ (.inr ⟨b3,c3,_,addP_same _ _ _,by rw[← hlen]; exact hc3,upd_same _ _ _,eZ hr g1⟩)
          ·rw[hp2]at hp; cases hp
       ·cases h
      ·cases h
     ·cases h
    ·cases h
  ·cases h
 ·
  rename_i kn m key v;split at h
  ·rename_i b hm;split at h
   ·rename_i kn' ag t es hb;split at h
    ·rename_i k x hk hx;cases hd:(Nat.beq kn' kn&&aS RD b)with
     | false=>rw[hd]at h; cases h
     | true=>
      rw[hd]at h; cases h;simp only[Bool.and_eq_true,ai]at hd;obtain⟨rfl,hnb⟩:=hd;obtain⟨o1,o2⟩:=ah ho;obtain⟨o2,o3⟩:=ah o2;have vm:=V m o1; rw[hm]at vm;simp only[RelV]at vm; obtain⟨b',c,n,hp,e⟩:=vm;obtain⟨b2,c2,n2,es',hp2,he,hs⟩:=hS.obj _ _ hb;rw[hp]at hp2; cases hp2;have hs:s' b'=some (.imap kn' es' none):=hs;refine⟨F m o1,F key o2,F v o3,?_⟩;simp only[e,hs];refine⟨trivial,cX hS hH hb hnb hp,gS hk (V key o2) _ (hK _ π _ (by simp only[RelV]) (Ext.refl _) (cK hS hb hp _ ?_) (hH.set _ _))⟩;exact⟨b',c,n,_,hp,pq k he (ww hx (V v o3)),upd_same _ _ _⟩
    ·cases h
   ·cases h
  ·cases h
 ·
  rename_i kn z m key;split at h
  ·rename_i b hm;split at h
   ·rename_i kn' ag t es hb;split at h
    ·rename_i k hk;cases hd:(Nat.beq kn' kn&&aS RD b&&F6 ag t z)with
     | false=>rw[hd]at h; cases h
     | true=>
      rw[hd]at h; cases h;simp only[Bool.and_eq_true,ai]at hd;obtain⟨⟨rfl,hnb⟩,hz⟩:=hd;obtain⟨o1,o2⟩:=ah ho;have vm:=V m o1; rw[hm]at vm;simp only[RelV]at vm; obtain⟨b',c,n,hp,e⟩:=vm;obtain⟨b2,c2,n2,es',hp2,he,hs⟩:=hS.obj _ _ hb;rw[hp]at hp2; cases hp2;have hs:s' b'=some (.imap kn' es' none):=hs;have hg:MR ag t ((aU es k).getD t.zero) ((bU es' k).getD z):=by
       rcases pp k he with⟨g1,g2⟩ | ⟨x,a,g1,g2,g3⟩
       ·rw[g1,g2]; exact wx hz
       ·rw[g1,g2]; exact g3
      refine⟨F m o1,F key o2,?_⟩;simp only[e,hs];refine⟨trivial,cX hS hH hb hnb hp,gS hk (V key o2) _ fun st=>?_⟩;have h1:=hS.tick' st;have hb1:S.tick.get b=some (.imap kn' ag t es none):=hb;have hp1:=hnx (.tok st) _ _ hp;refine hK _ (addP π S.nx (.tok st)) _ ?_ (hnx _) (cK (S:=S.tick) h1 hb1 hp1 _ (o:=.imap kn' ag t es (some (S.nx,k,(aU es k).getD t.zero))) ?_) ?_
      ·simp only[RelV];refine⟨_,rfl,RelVs_cons (pn hg) (aQ ?_)⟩;simp only[RelV]; exact⟨st,addP_same _ _ _,rfl⟩
      ·exact⟨b',c,n,es',hp1,he,st,_,addP_same _ _ _,hg,upd_same _ _ _⟩
      ·exact(hH.set b (.imap kn' ag t es (some (S.nx,k,(aU es k).getD t.zero)))).mono (hnx _) fun b3 hb3=>by
        obtain⟨o3,ho3,_⟩:=(hH.set b (.imap kn' ag t es (some (S.nx,k,(aU es k).getD t.zero)))).live b3 hb3;exact⟨o3,ho3⟩
    ·cases h
   ·cases h
  ·cases h
 ·
  rename_i m st v;split at h
  ·rename_i b tk hm hst;split at h
   ·rename_i kn ag t es tk' k v0 hb;split at h
    ·rename_i x hx;cases hd:(Nat.beq tk tk'&&aS RD b)with
     | false=>rw[hd]at h; cases h
     | true=>
      rw[hd]at h; cases h;simp only[Bool.and_eq_true,ai]at hd;obtain⟨rfl,hnb⟩:=hd;obtain⟨o1,o2⟩:=ah ho;obtain⟨o2,o3⟩:=ah o2;have vm:=V m o1; rw[hm]at vm;simp only[RelV]at vm; obtain⟨b',c,n,hp,e⟩:=vm;have vs:=V st o2; rw[hst]at vs;simp only[RelV]at vs; obtain⟨y,hy,e2⟩:=vs;obtain⟨b2,c2,n2,es',hp2,he,y2,v0',hy2,hmr,hs⟩:=hS.obj _ _ hb;rw[hp]at hp2; cases hp2;rw[hy]at hy2; cases hy2;refine⟨F m o1,F st o2,F v o3,?_⟩;simp only[e,e2,hs];refine⟨trivial,cX hS hH hb hnb hp,hK _ π _ (by simp only[RelV]) (Ext.refl _) (cK hS hb hp _ ?_) (hH.set _ _)⟩;refine⟨b',c,n,mput es' k (ρ' v).val,hp,pq k he (ww hx (V v o3)),?_⟩;show upd s' b' _ b'=_;rw[upd_same,qj]
    ·cases h
   ·cases h
  ·cases h
 ·
  rename_i p v n;cases hc:(Nat.beq (bu (ρ v).val).length n&&(bu (ρ v).val).all DV.one)with
  | false=>rw[hc]at h; cases h
  | true=>
   rw[hc]at h;simp only[cond_true]at h;simp only[Bool.and_eq_true,ai]at hc;split at h
   ·rename_i b o hp;split at h
    ·rename_i cs hb;cases hd:ee (o+n) cs.length with
     | false=>rw[hd]at h; cases h
     | true=>
      rw[hd]at h; cases h;simp only[ee,Nat.ble_eq]at hd;obtain⟨o1,o2⟩:=ah ho;obtain⟨g1,g2⟩:=bQ (V v o2) hc.2;have vp:=V p o1; rw[hp]at vp;simp only[RelV]at vp;obtain⟨b',c,m,hpb,e⟩:=vp;obtain⟨b2,c2,n2,as,hp2,hs,hr⟩:=hS.obj _ _ hb;rw[hpb]at hp2; cases hp2;refine⟨F p o1,F v o2,(aL g1).trans hc.1,g2,?_⟩;simp only[e,hs];refine⟨by rw[aL hr]; exact hd,hK _ π _ (by simp only[RelV]) (Ext.refl _) (cK hS hb hpb _ ?_) (hH.set _ _)⟩;exact⟨b',c,m,_,hpb,upd_same _ _ _,cO o hr g1⟩
    ·cases h
   ·rename_i b k i j hp;split at h
    ·rename_i T t l hb;cases hd:(Nat.beq t.w k&&ee (j+n) k)with
     | false=>rw[hd]at h; cases h
     | true=>
      rw[hd]at h;simp only[cond_true]at h;split at h
      ·rename_i x hx;cases h;simp only[Bool.and_eq_true,ee,Nat.ble_eq,ai]at hd;obtain⟨rfl,d3⟩:=hd;obtain⟨o1,o2⟩:=ah ho;obtain⟨g1,g2⟩:=bQ (V v o2) hc.2;have vp:=V p o1; rw[hp]at vp;simp only[RelV]at vp;obtain⟨b',c,m,hpb,hi,e⟩:=vp;rcases hS.obj _ _ hb with⟨q1,_⟩ | ⟨b2,c2,xs,hp2,hcap,hs,hr⟩
       ·rw[hpb]at q1; cases q1
       ·rw[hpb]at hp2; cases hp2;have hcr:=bF hx (cO j (bi (π:=π) (hr.2 i hi)) g1);refine⟨F p o1,F v o2,(aL g1).trans hc.1,g2,?_⟩;simp only[e,hs];refine⟨trivial,by rw[hr.1]; exact hi,d3,hK _ π _ (by simp only[RelV]) (Ext.refl _) (cK hS hb hpb _ ?_) (hH.set _ _)⟩;exact .inr ⟨b',c,_,by rw[List.length_set]; exact hpb,by rw[List.length_set]; exact hcap,upd_same _ _ _,lN hr hi hcr⟩
      ·cases h
    ·cases h
   ·rename_i b k i j o hp;split at h
    ·rename_i T T' t l hb;cases hd:(Nat.beq t.w k&&ee (o+n) k)with
     | false=>rw[hd]at h; cases h
     | true=>
      rw[hd]at h;simp only[cond_true]at h;split at h
      ·rename_i x hx;cases h;simp only[Bool.and_eq_true,ee,Nat.ble_eq,ai]at hd;obtain⟨rfl,d3⟩:=hd;obtain⟨o1,o2⟩:=ah ho;obtain⟨g1,g2⟩:=bQ (V v o2) hc.2;have vp:=V p o1; rw[hp]at vp;simp only[RelV]at vp;obtain⟨b',c,m,f,b2,c2,n2,hpb,hi,hf,hj,e⟩:=vp;rcases hS.obj _ _ hb with⟨q1,_⟩ | ⟨b3,c3,f3,hp3,hR⟩
       ·rw[hpb]at q1; cases q1
       ·rw[hpb]at hp3; cases hp3;have hI:=hR.ir i hi;rw[hf]at hI;obtain⟨rfl,hc2,ys,hs,hy⟩:=hI;have hcr:=bF hx (cO o (bi (π:=π) (hy.2 j hj)) g1);have hh:Loc.has (.rls b' c l.length f) b2:=.inr ⟨i,_,hi,hf,rfl⟩;refine⟨F p o1,F v o2,(aL g1).trans hc.1,g2,?_⟩;simp only[e,hs];refine⟨trivial,by rw[hy.1]; exact hj,d3,hK _ π _ (by simp only[RelV]) (Ext.refl _) (fH hS hb hpb hh _ ?_) (hH.set _ _)⟩;exact .inr ⟨b',c,f,by rw[List.length_set]; exact hpb,hR.set hi hf (lN hy hj hcr) (by rw[List.length_set])⟩
      ·cases h
    ·cases h
   ·rename_i b key o hp;split at h
    ·rename_i t es hb;cases hd:(ee (o+n) t.w)with
     | false=>rw[hd]at h; cases h
     | true=>
      rw[hd]at h;simp only[cond_true]at h;split at h
      ·rename_i x hx;cases h;simp only[Bool.and_eq_true,ee,Nat.ble_eq]at hd;have d3:=hd;obtain⟨o1,o2⟩:=ah ho;obtain⟨g1,g2⟩:=bQ (V v o2) hc.2;have vp:=V p o1; rw[hp]at vp;simp only[RelV]at vp;obtain⟨g,y,hpb,hg,e⟩:=vp;obtain⟨g',hp3,hP⟩:=hS.obj _ _ hb;rw[hpb]at hp3; cases hp3;obtain⟨as,hs,hcr0⟩:=hP.ex _ _ hg;have hcr:=bF hx (cO o (bi (π:=π) hcr0) g1);have hh:Loc.has (.pol g) y:=⟨key,hg⟩
       refine⟨F p o1,F v o2,(aL g1).trans hc.1,g2,?_⟩;simp only[e,hs];exact⟨by rw[dJ hcr0]; exact d3,hK _ π _ (by simp only[RelV]) (Ext.refl _) (fH hS hb hpb hh _ ⟨g,hpb,hP.set hg hcr⟩) (hH.set _ _)⟩
      ·cases h
    ·cases h
   ·cases h
 ·
  rename_i T k n z;split at h
  ·rename_i g0 t;cases hc:(Nat.beq t.w k&&lw t z&&ee 1 n)with
   | false=>rw[hc]at h; cases h
   | true=>
    rw[hc]at h; cases h;simp only[Bool.and_eq_true,ai,ee,Nat.ble_eq]at hc;obtain⟨⟨rfl,hz⟩,hn⟩:=hc;have hzc:CR t t.zero z:=by
     unfold lw at hz;split at hz
     ·rename_i he; obtain⟨c,rfl,g⟩:=gn he; simpa using g
     ·cases hz
    intro b' hb hR;refine hK _ (addP π S.nx (.real b' n n)) _ ?_ (hnx _) (cJ hS hb _ ?_) (hH.new (hnx _) _)
    ·simp only[RelV]; exact⟨b',n,n,addP_same _ _ _,hn,rfl⟩
    ·refine .inr ⟨b',n,List.replicate n z,?_,by simp[gj],upd_same _ _ _,jH hzc n⟩;rw[addP_same]; simp[gj]
  ·cases h
 ·
  rename_i p v k n;split at h
  ·rename_i b k' cs hp hv;split at h
   ·rename_i T t l hb;cases hc:(Nat.beq k' k&&Nat.beq t.w k&&aS RD b&&cs.all DV.one)with
    | false=>rw[hc]at h; cases h
    | true=>
     rw[hc]at h;simp only[cond_true]at h;split at h
     ·rename_i l' hl;cases h;simp only[Bool.and_eq_true,ai]at hc;obtain⟨⟨⟨rfl,rfl⟩,hnb⟩,hone⟩:=hc;obtain⟨o1,o2⟩:=ah ho;obtain⟨o2,o3⟩:=ah o2;simp only[List.all_cons,List.all_nil,id,Bool.and_true,ai]at o3;have vp:=V p o1; rw[hp]at vp;simp only[RelV]at vp;obtain⟨b',c,N,hpb,hi,e⟩:=vp;have vv:=V v o2; rw[hv]at vv;simp only[RelV]at vv;obtain⟨as,e2,rv⟩:=vv;obtain⟨q1,q2,q3⟩:=iO hl rv;rcases hS.obj _ _ hb with⟨g1,_⟩ | ⟨b2,c2,xs,hp2,hcap,hs,hr⟩
      ·rw[hpb]at g1; cases g1
      ·rw[hpb]at hp2; cases hp2;refine⟨F p o1,F v o2,?_⟩;simp only[e,e2,hs];refine⟨trivial,trivial,by rw[hr.1]; exact o3,q2,kA rv hone,cX hS hH hb hnb hpb,hK _ π _ (by simp only[RelV]) (Ext.refl _) (cK hS hb hpb _ ?_) (hH.set _ _)⟩;refine .inr ⟨b',c,_,by rw[q1,← o3]; exact hpb,by rw[q1,← o3]; exact hcap,upd_same _ _ _,by rw[iH,q1],fun i hi=>?_⟩;rw[q1]at hi;rw[iZ _ _ hi];exact q3 i hi
     ·cases h
   ·cases h
  ·cases h
 ·
  rename_i x hi;split at h
  ·rename_i b kk z hx hz;split at h
   ·rename_i T t l hb;cases hc:aS RD b with
    | false=>rw[hc]at h; cases h
    | true=>
     rw[hc]at h; cases h;obtain⟨o1,o2⟩:=ah ho;obtain⟨o2,o3⟩:=ah o2;simp only[List.all_cons,List.all_nil,id,Bool.and_true,Bool.and_eq_true,decide_eq_true_eq]at o3;have ei:=aO hz (V hi o2);have v:=V x o1; rw[hx]at v;simp only[RelV]at v;rcases hS.obj _ _ hb with⟨g1,rfl⟩ | ⟨b2,c2,xs,hp2,hcap,hs,hr⟩
     ·simp at o3
     ·rcases v with⟨b',c,m,hp,e⟩ | ⟨hp,_⟩
      ·rw[hp2]at hp; cases hp;refine⟨F x o1,F hi o2,?_⟩;simp only[e,ei,hs];refine⟨trivial,hr.1.symm,cX hS hH hb hc hp2,o3.1,o3.2.1,fun b3 hb3 hR3=>?_⟩;have hS':=n8 hS hb hp2;have hlen:(l.take z.toNat).length=z.toNat:=by simp; omega
       refine hK _ (addP π S.nx (.real b3 c2 z.toNat)) _ ?_ (hnx _) ?_ ((hH.del hc).new (hnx _) _)
       ·simp only[RelV]; exact .inl ⟨b3,_,_,addP_same _ _ _,rfl⟩
       ·exact cJ hS' hb3 _ (.inr ⟨b3,c2,_,by rw[hlen]; exact addP_same _ _ _,by rw[hlen]; omega,upd_same _ _ _,fJ hr _⟩)
      ·rw[hp2]at hp; cases hp
   ·cases h
  ·cases h
 ·
  rename_i T k by_ z x n;split at h
  ·rename_i ag t;split at h
   ·rename_i ki m hx hm;cases hd:(Nat.beq t.w k&&lw t z)with
    | false=>rw[hd]at h; cases h
    | true=>
     rw[hd]at h; cases h;simp only[Bool.and_eq_true,ai]at hd;obtain⟨rfl,hz⟩:=hd;obtain⟨o1,o2⟩:=ah ho;obtain⟨o2,o3⟩:=ah o2;simp only[List.all_cons,List.all_nil,id,Bool.and_true,Bool.and_eq_true,decide_eq_true_eq]at o3;have e:=aO hm (V n o2);have v:=V x o1; rw[hx]at v;simp only[RelV]at v;have hz':CR t t.zero z:=by
      unfold lw at hz;split at hz
      ·rename_i hzz; obtain⟨c,rfl,g⟩:=gn hzz; simpa using g
      ·cases hz
     refine⟨F x o1,F n o2,?_⟩;simp only[v,e];refine⟨o3.1,o3.2,fun b' c hb hR hc=>?_⟩;refine hK _ (addP π S.nx (.real b' c m.toNat)) _ ?_ (hnx _) (cJ hS hb _ ?_) (hH.new (hnx _) _)
     ·simp only[RelV]; exact .inl ⟨b',_,_,addP_same _ _ _,rfl⟩
     ·exact .inr ⟨b',c,_,by simp only[gj,List.length_replicate]; exact addP_same _ _ _,by simp only[gj,List.length_replicate]; exact hc,upd_same _ _ _,jH hz' _⟩
   ·cases h
  ·cases h
 ·
  rename_i x y k;split at h
  ·rename_i b k' p m hx;split at h
   ·rename_i T t l hb;cases hc:(Nat.beq k' k&&(Nat.beq t.w k&&aS RD b))with
    | false=>rw[hc]at h; cases h
    | true=>
     rw[hc]at h; simp only[cond_true]at h;split at h
     ·rename_i ys hys;cases h;simp only[Bool.and_eq_true,ai]at hc;obtain⟨rfl,rfl,hnb⟩:=hc;obtain⟨o1,o2⟩:=ah ho;obtain⟨xs',g1,g2⟩:=eB hS hys (V y o2);have v:=V x o1; rw[hx]at v;simp only[RelV]at v;obtain⟨b',c,N,hp,hle,e⟩:=v;rcases hS.obj _ _ hb with⟨q1,_⟩ | ⟨b2,c2,xs,hp2,hcap,hs,hr⟩
      ·rw[hp]at q1; cases q1
      ·rw[hp]at hp2; cases hp2;have hlen:(nv l p (ys.take (min ys.length m))).length=l.length:=by simp[nv]; omega
       refine⟨F x o1,F y o2,g2 _ ?_⟩;unfold cpyD;simp only[e,hs];refine⟨trivial,trivial,by rw[hr.1]; exact hle,cX hS hH hb hnb hp,?_⟩;have e1:xs'.length=ys.length:=g1.1;rw[e1];refine hK _ π _ (by simp only[gD,RelV,CR]) (Ext.refl _) (cK hS hb hp _ ?_) (hH.set _ _);have e2:(xs'.take (min ys.length m)).length=(ys.take (min ys.length m)).length:=by simp[e1]
       refine .inr ⟨b',c,_,by rw[hlen]; exact hp,by rw[hlen]; exact hcap,upd_same _ _ _,?_⟩;unfold oS nv;rw[e2];exact eZ (fJ hr _) (eZ (fJ g1 _) (mG hr _))
     ·cases h
   ·cases h
  ·rename_i b hx;split at h
   ·rename_i T t l hb;cases hc:(Nat.beq t.w k&&aS RD b)with
    | false=>rw[hc]at h; cases h
    | true=>
     rw[hc]at h; simp only[cond_true]at h;split at h
     ·rename_i ys hys;cases h;simp only[Bool.and_eq_true,ai]at hc;obtain⟨rfl,hnb⟩:=hc;obtain⟨o1,o2⟩:=ah ho;obtain⟨xs',g1,g2⟩:=eB hS hys (V y o2);have v:=V x o1; rw[hx]at v;simp only[RelV]at v;have e1:xs'.length=ys.length:=g1.1;rcases v with⟨b',c,N,hp,e⟩ | ⟨hp,e⟩
      ·rcases hS.obj _ _ hb with⟨q1,_⟩ | ⟨b2,c2,xs,hp2,hcap,hs,hr⟩
       ·rw[hp]at q1; cases q1
       ·rw[hp]at hp2; cases hp2;have hlen:(nv l 0 (ys.take (min ys.length l.length))).length=l.length:=by simp[nv]; omega
        refine⟨F x o1,F y o2,g2 _ ?_⟩;unfold cpyD;simp only[e,hs];refine⟨trivial,by rw[hr.1]; exact Nat.le_refl _,cX hS hH hb hnb hp,?_⟩;rw[e1];refine hK _ π _ (by simp only[gD,RelV,CR]) (Ext.refl _) (cK hS hb hp _ ?_) (hH.set _ _);have e2:(xs'.take (min ys.length l.length)).length=(ys.take (min ys.length l.length)).length:=by simp[e1]
        refine .inr ⟨b',c,_,by rw[hlen]; exact hp,by rw[hlen]; exact hcap,upd_same _ _ _,?_⟩;unfold oS nv;rw[e2];exact eZ (fJ hr _) (eZ (fJ g1 _) (mG hr _))
      ·have hl0:l=[]:=by
        rcases hS.obj _ _ hb with⟨_,q2⟩ | ⟨b2,c2,xs,hp2,_⟩
        ·exact q2
        ·rw[hp]at hp2; cases hp2
       subst hl0;refine⟨F x o1,F y o2,g2 _ ?_⟩;unfold cpyD;simp only[e];have hsame:∀ q,(S.set b (.row T t (nv [] 0 (ys.take (min ys.length ([]:List t.den).length))))).get q=S.get q:=fun q=>by
        rw[DSt.get_set];split
        ·rename_i eq; subst eq; rw[hb]; simp[nv]
        ·rfl
       refine hK _ π _ (by simp[gD,RelV,CR]) (Ext.refl _) ⟨fun q o hq=>hS.obj q o (by rw[← hsame]; exact hq),fun b1 b2 o1 o2 l1 l2 x h1 h2=>hS.inj' b1 b2 o1 o2 l1 l2 x (by rw[← hsame]; exact h1) (by rw[← hsame]; exact h2),hS.frm,fun q o l x hq=>hS.out' q o l x (by rw[← hsame]; exact hq),hS.nx⟩ (hH.set _ _)
     ·cases h
   ·cases h
  ·cases h
 ·
  rename_i x k z;split at h
  ·rename_i b k' p m hx;split at h
   ·rename_i T t l hb;cases hc:(Nat.beq k' k&&Nat.beq t.w k&&aS RD b&&lw t z)with
    | false=>rw[hc]at h; cases h
    | true=>
     rw[hc]at h; cases h;simp only[Bool.and_eq_true,ai]at hc;obtain⟨⟨⟨rfl,rfl⟩,hnb⟩,hz⟩:=hc;have hzc:CR t t.zero z:=by
      unfold lw at hz;split at hz
      ·rename_i he; obtain⟨c,rfl,g⟩:=gn he; simpa using g
      ·cases hz
     have v:=V x ho; rw[hx]at v;simp only[RelV]at v;obtain⟨b',c,N,hp,hle,e⟩:=v;rcases hS.obj _ _ hb with⟨g1,_⟩ | ⟨b2,c2,xs,hp2,hcap,hs,hr⟩
     ·rw[hp]at g1; cases g1
     ·rw[hp]at hp2; cases hp2;have hlen:(E8 l p m t.zero).length=l.length:=by simp[E8]; omega
      refine⟨F x ho,?_⟩;simp only[e,hs];refine⟨trivial,trivial,dJ hzc,by rw[hr.1]; exact hle,cX hS hH hb hnb hp,hK _ π _ (by simp only[RelV]) (Ext.refl _) (cK hS hb hp _ ?_) (hH.set _ _)⟩;exact .inr ⟨b',c,_,by rw[hlen]; exact hp,by rw[hlen]; exact hcap,upd_same _ _ _,eZ (fJ hr _) (eZ (jH hzc m) (mG hr _))⟩
   ·cases h
  ·cases h
 ·cases h
end
end Go.Proofs.Ytjoncejabdjekaa.D

set_option linter.unusedVariables false
set_option linter.unusedSectionVars false
set_option linter.unusedSimpArgs false
namespace Go.Proofs.Ytjoncejabdjekaa.D
open Go Go.Proofs.Ytjoncejabdjekaa.L
variable [YP]
theorem qm {t:Ty}{l:Leaf}{x:t.den}(h:gC t l.t l.x=some x):l=⟨t,x⟩:=by
 obtain⟨t',y⟩:=l;unfold gC at h;split at h
 ·rename_i he; have he:t'=t:=he; subst he; cases h; rfl
 ·cases h
theorem bj:∀ {ts:List Ty} {l:List Leaf} {x:dens ts},dH ts l=some x→ofDens ts x=l
 | [],[],x,h=>rfl
 | [],_::_,x,h=>by simp[dH]at h
 | [t],[],x,h=>by simp[dH]at h
 | [t],[l],x,h=>by
  have h:gC t l.t l.x=some x:=h;rw[qm h]; rfl
 | [t],_::_::_,x,h=>by simp[dH]at h
 | t::u::ts,[],x,h=>by simp[dH]at h
 | t::u::ts,l::ls,x,h=>by
  simp only[dH]at h;split at h
  ·rename_i y hy;split at h
   ·rename_i r hr;cases h;rw[qm hy];simp only[ofDens];rw[bj hr]
   ·cases h
  ·cases h
def fe (π:Pi):Option Nat→Option Loc
 | some b=>π b
 | none=>some .virt
def Mt (π:Pi)(nm:Nm)(π2:Pi)(ρ:Nat→Nat):Prop:=∀ k x,bt nm k=some x→∀ l,fe π x=some l→π2 (ρ k)=some l
def NmLe (nm nm':Nm):Prop:=∀ k x,bt nm k=some x→bt nm' k=some x
theorem NmLe.refl (nm:Nm):NmLe nm nm:=fun _ _ h=>h
theorem NmLe.trans {a b c:Nm}(h:NmLe a b)(k:NmLe b c):NmLe a c:=fun x y hx=>k x y (h x y hx)
theorem Mt.le {π π2:Pi}{nm nm':Nm}{ρ:Nat→Nat}(h:Mt π nm' π2 ρ)(k:NmLe nm nm'):Mt π nm π2 ρ:=fun a x hx=>h a x (k a x hx)
section
variable {π π2:Pi} {ρ:Nat→Nat}
theorem aV {nm nm':Nm}{k b:Nat}(h:fE nm k b=some nm'):NmLe nm nm'∧bt nm' k=some (some b):=by
 unfold fE at h;split at h
 ·rename_i hn;cases h;refine⟨fun a x hx=>?_,by simp[bt]⟩;by_cases e:k=a
  ·subst e; rw[hn]at hx; cases hx
  ·simp[bt,bO e,hx]
 ·rename_i b' hb;cases hc:Nat.beq b' b with
  | false=>rw[hc]at h; cases h
  | true=>rw[hc]at h; cases h; exact⟨NmLe.refl _,by rw[hb,ai.1 hc]⟩
 ·cases h
theorem iq {nm nm':Nm}{k:Nat}(h:sH nm k=some nm'):NmLe nm nm'∧bt nm' k=some none:=by
 unfold sH at h;split at h
 ·rename_i hn;cases h;refine⟨fun a x hx=>?_,by simp[bt]⟩;by_cases e:k=a
  ·subst e; rw[hn]at hx; cases hx
  ·simp[bt,bO e,hx]
 ·rename_i hb; cases h; exact⟨NmLe.refl _,hb⟩
 ·cases h
mutual
theorem wz:∀ (r:RSh) {d:DV} {nm nm':Nm} {l:List Leaf} {a:AV},ca none r d nm=some (l,nm')→RelV π d a →
  NmLe nm nm'∧∀ rest,Mt π nm' π2 ρ→∃ d2,fillV ρ r (l++rest)=some (d2,rest)∧RelV π2 d2 a
 | .v t,d,nm,nm',l,a,h,hr=>by
  simp only[ca]at h;split at h
  ·rename_i x hx;cases h;exact⟨NmLe.refl _,fun rest hm=>⟨.v ⟨t,x⟩,by simp[fillV],by simp only[RelV]; exact bF hx (aQ hr)⟩⟩
  ·cases h
 | .st t,d,nm,nm',l,a,h,hr=>by
  cases d with
  | agg ds=>
   simp only[ca]at h;split at h
   ·rename_i x hx;cases h;simp only[RelV]at hr;obtain⟨as,rfl,hr⟩:=hr;exact⟨NmLe.refl _,fun rest hm=>⟨.agg (bc t x),by simp[fillV],by simp only[RelV]; exact⟨as,rfl,bi (bF hx hr)⟩⟩⟩
   ·cases h
  | _=>simp[ca]at h
 | .elm t,d,nm,nm',l,a,h,hr=>by
  cases d with
  | elm ds=>
   simp only[ca]at h;split at h
   ·rename_i x hx;cases h;simp only[RelV]at hr;obtain⟨as,rfl,hr⟩:=hr;exact⟨NmLe.refl _,fun rest hm=>⟨.elm (bc t x),by simp[fillV],by simp only[RelV]; exact⟨as,rfl,bi (bF hx hr)⟩⟩⟩
   ·cases h
  | ptr b o=>cases o <;> simp[ca]at h
  | _=>simp[ca]at h
 | .ptr k o,d,nm,nm',l,a,h,hr=>by
  cases d with
  | ptr b o'=>
   simp only[ca]at h;cases hc:Nat.beq o o' with
   | false=>rw[hc]at h; cases h
   | true=>
    rw[hc]at h;obtain rfl:=ai.1 hc;simp only[cond_true]at h;split at h
    ·rename_i nm1 hb;cases h;obtain⟨g1,g2⟩:=aV hb;simp only[RelV]at hr;obtain⟨b',c,n,hp,rfl⟩:=hr;exact⟨g1,fun rest hm=>⟨.ptr (ρ k) o,by simp[fillV],by simp only[RelV]; exact⟨b',c,n,hm _ _ g2 _ hp,rfl⟩⟩⟩
    ·cases h
  | _=>simp[ca]at h
 | .slc k,d,nm,nm',l,a,h,hr=>by
  cases d with
  | slc b=>
   simp only[ca]at h;split at h
   ·rename_i nm1 hb;cases h;obtain⟨g1,g2⟩:=aV hb;refine⟨g1,fun rest hm=>⟨.slc (ρ k),by simp[fillV],?_⟩⟩;simp only[RelV]at hr ⊢;rcases hr with⟨b',c,n,hp,rfl⟩ | ⟨hp,rfl⟩
    ·exact .inl ⟨b',c,n,hm _ _ g2 _ hp,rfl⟩
    ·exact .inr ⟨hm _ _ g2 _ hp,rfl⟩
   ·cases h
  | emp=>
   simp only[ca]at h;split at h
   ·rename_i nm1 hb;cases h;obtain⟨g1,g2⟩:=iq hb;refine⟨g1,fun rest hm=>⟨.slc (ρ k),by simp[fillV],?_⟩⟩;simp only[RelV]at hr ⊢;exact .inr ⟨hm _ _ g2 _ rfl,hr⟩
   ·cases h
  | _=>simp[ca]at h
 | .slo k w,d,nm,nm',l,a,h,hr=>by
  cases d with
  | slo b w' o m=>
   simp only[ca]at h;cases hc:Nat.beq w w' with
   | false=>rw[hc]at h; cases h
   | true=>
    rw[hc]at h;obtain rfl:=ai.1 hc
    try simp only[cond_true]at h
    split at h
    ·rename_i nm1 hb;cases h;obtain⟨g1,g2⟩:=aV hb;simp only[RelV]at hr;obtain⟨b',c,n,hp,hle,rfl⟩:=hr;exact⟨g1,fun rest hm=>⟨.slo (ρ k) w o m,by simp[fillV,gC],by simp only[RelV]; exact⟨b',c,n,hm _ _ g2 _ hp,hle,rfl⟩⟩⟩
    ·cases h
  | _=>simp[ca]at h
 | .aptr k w,d,nm,nm',l,a,h,hr=>by
  cases d with
  | rptr b w' i j=>
   cases i with
   | succ i=>simp[ca]at h
   | zero=>
    cases j with
    | succ j=>simp[ca]at h
    | zero=>
     simp only[ca]at h;cases hc:Nat.beq w w' with
     | false=>rw[hc]at h; cases h
     | true=>
      rw[hc]at h;obtain rfl:=ai.1 hc
      try simp only[cond_true]at h
      split at h
      ·rename_i nm1 hb;cases h;obtain⟨g1,g2⟩:=aV hb;simp only[RelV]at hr;obtain⟨b',c,n,hp,hle,rfl⟩:=hr;exact⟨g1,fun rest hm=>⟨.rptr (ρ k) w 0 0,by simp[fillV],by simp only[RelV]; exact⟨b',c,n,hm _ _ g2 _ hp,hle,rfl⟩⟩⟩
      ·cases h
  | _=>simp[ca]at h
 | .mp k,d,nm,nm',l,a,h,hr=>by
  cases d with
  | mp b=>
   simp only[ca]at h;split at h
   ·rename_i nm1 hb;cases h;obtain⟨g1,g2⟩:=aV hb;simp only[RelV]at hr;obtain⟨b',c,n,hp,rfl⟩:=hr;exact⟨g1,fun rest hm=>⟨.mp (ρ k),by simp[fillV],by simp only[RelV]; exact⟨b',c,n,hm _ _ g2 _ hp,rfl⟩⟩⟩
   ·cases h
  | _=>simp[ca]at h
 | .slr k,d,nm,nm',l,a,h,hr=>by
  cases d with
  | slr b=>
   simp only[ca]at h;split at h
   ·rename_i nm1 hb;cases h;obtain⟨g1,g2⟩:=aV hb;refine⟨g1,fun rest hm=>⟨.slr (ρ k),by simp[fillV],?_⟩⟩;simp only[RelV]at hr ⊢;rcases hr with⟨b',c,n,f,hp,rfl⟩ | ⟨hp,rfl⟩
    ·exact .inl ⟨b',c,n,f,hm _ _ g2 _ hp,rfl⟩
    ·exact .inr ⟨hm _ _ g2 _ hp,rfl⟩
   ·cases h
  | emp=>
   simp only[ca]at h;split at h
   ·rename_i nm1 hb;cases h;obtain⟨g1,g2⟩:=iq hb;refine⟨g1,fun rest hm=>⟨.slr (ρ k),by simp[fillV],?_⟩⟩;simp only[RelV]at hr ⊢;exact .inr ⟨hm _ _ g2 _ rfl,hr⟩
   ·cases h
  | _=>simp[ca]at h
 | .irow k,d,nm,nm',l,a,h,hr=>by
  cases d with
  | irow b i=>
   simp only[ca]at h;split at h
   ·rename_i nm1 hb;cases h;obtain⟨g1,g2⟩:=aV hb;simp only[RelV]at hr;obtain⟨b',c,n,f,hp,hi,rfl⟩:=hr;exact⟨g1,fun rest hm=>⟨.irow (ρ k) i,by simp[fillV,gC],by simp only[RelV]; exact⟨b',c,n,f,hm _ _ g2 _ hp,hi,rfl⟩⟩⟩
   ·cases h
  | _=>simp[ca]at h
 | .pel k,d,nm,nm',l,a,h,hr=>by
  cases d with
  | pel b key o=>
   cases o with
   | succ o=>simp[ca]at h
   | zero=>
    simp only[ca]at h;split at h
    ·rename_i nm1 hb;cases h;obtain⟨g1,g2⟩:=aV hb;simp only[RelV]at hr;obtain⟨g,x,hp,hg,rfl⟩:=hr;exact⟨g1,fun rest hm=>⟨.pel (ρ k) key 0,by simp[fillV,gC],by simp only[RelV]; exact⟨g,x,hm _ _ g2 _ hp,hg,rfl⟩⟩⟩
    ·cases h
  | _=>simp[ca]at h
 | .mpl k,d,nm,nm',l,a,h,hr=>by
  cases d with
  | mpl b=>
   simp only[ca]at h;split at h
   ·rename_i nm1 hb;cases h;obtain⟨g1,g2⟩:=aV hb;simp only[RelV]at hr;obtain⟨b',hp,rfl⟩:=hr;exact⟨g1,fun rest hm=>⟨.mpl (ρ k),by simp[fillV],by simp only[RelV]; exact⟨b',hm _ _ g2 _ hp,rfl⟩⟩⟩
   ·cases h
  | _=>simp[ca]at h
 | .nilp,d,nm,nm',l,a,h,hr=>by
  cases d with
  | nilp=>
   simp only[ca]at h;cases h;exact⟨NmLe.refl _,fun rest hm=>⟨.nilp,by simp[fillV],by simp only[RelV]at hr ⊢; exact hr⟩⟩
  | _=>simp[ca]at h
 | .nilm,d,nm,nm',l,a,h,hr=>by
  cases d with
  | nilm=>
   simp only[ca]at h;cases h;exact⟨NmLe.refl _,fun rest hm=>⟨.nilm,by simp[fillV],by simp only[RelV]at hr ⊢; exact hr⟩⟩
  | _=>simp[ca]at h
 | .emp,d,nm,nm',l,a,h,hr=>by
  cases d with
  | emp=>
   simp only[ca]at h;cases h;exact⟨NmLe.refl _,fun rest hm=>⟨.emp,by simp[fillV],by simp only[RelV]at hr ⊢; exact hr⟩⟩
  | _=>simp[ca]at h
 | .any,d,nm,nm',l,a,h,hr=>by
  have h':some (([]:List Leaf),nm)=some (l,nm'):=by cases d <;> simpa only[ca]using h
  cases h';exact⟨NmLe.refl _,fun rest hm=>⟨.undef,by simp[fillV],by simp only[RelV]⟩⟩
 | .agg rs,d,nm,nm',l,a,h,hr=>by
  cases d with
  | agg ds=>
   simp only[ca]at h;simp only[RelV]at hr;obtain⟨as,rfl,hr⟩:=hr;obtain⟨g1,g2⟩:=eE rs h hr;refine⟨g1,fun rest hm=>?_⟩;obtain⟨ds2,k1,k2⟩:=g2 rest hm;exact⟨.agg ds2,by simp[fillV,k1],by simp only[RelV]; exact⟨as,rfl,k2⟩⟩
  | _=>simp[ca]at h
 | .tup rs,d,nm,nm',l,a,h,hr=>by
  cases d with
  | tup ds=>
   simp only[ca]at h;simp only[RelV]at hr;obtain⟨as,rfl,hr⟩:=hr;obtain⟨g1,g2⟩:=eE rs h hr;refine⟨g1,fun rest hm=>?_⟩;obtain⟨ds2,k1,k2⟩:=g2 rest hm;exact⟨.tup ds2,by simp[fillV,k1],by simp only[RelV]; exact⟨as,rfl,k2⟩⟩
  | _=>simp[ca]at h
 | .fn f rs,d,nm,nm',l,a,h,hr=>by
  cases d with
  | fn f' ds=>
   simp only[ca]at h;cases hc:Nat.beq f f' with
   | false=>rw[hc]at h; cases h
   | true=>
    rw[hc]at h;obtain rfl:=ai.1 hc;simp only[cond_true,Option.isSome_none,Bool.false_and,cond_false]at h;simp only[RelV]at hr;obtain⟨as,rfl,hr⟩:=hr;obtain⟨g1,g2⟩:=eE rs h hr;refine⟨g1,fun rest hm=>?_⟩;obtain⟨ds2,k1,k2⟩:=g2 rest hm;exact⟨.fn f ds2,by simp[fillV,k1],by simp only[RelV]; exact⟨as,rfl,k2⟩⟩
  | _=>simp[ca]at h
theorem eE:∀ (rs:List RSh) {ds:List DV} {nm nm':Nm} {l:List Leaf} {as:List AV},iD none rs ds nm=some (l,nm')→RelVs π ds as →
  NmLe nm nm'∧∀ rest,Mt π nm' π2 ρ→∃ ds2,fillVs ρ rs (l++rest)=some (ds2,rest)∧RelVs π2 ds2 as
 | [],ds,nm,nm',l,as,h,hr=>by
  cases ds with
  | nil=>
   simp only[iD]at h;cases h;simp only[RelVs]at hr; subst hr;exact⟨NmLe.refl _,fun rest hm=>⟨[],by simp[fillVs],RelVs_nil⟩⟩
  | cons d ds=>simp[iD]at h
 | r::rs,ds,nm,nm',l,as,h,hr=>by
  cases ds with
  | nil=>simp[iD]at h
  | cons d ds=>
   simp only[iD]at h;simp only[RelVs]at hr;obtain⟨a,as',rfl,hr1,hr2⟩:=hr;split at h
   ·rename_i l1 nm1 h1;split at h
    ·rename_i l2 nm2 h2;cases h;obtain⟨g1,g2⟩:=wz r h1 hr1;obtain⟨g3,g4⟩:=eE rs h2 hr2;refine⟨g1.trans g3,fun rest hm=>?_⟩;obtain⟨d2,k1,k2⟩:=g2 (l2++rest) (hm.le g3);obtain⟨ds2,k3,k4⟩:=g4 rest hm;exact⟨d2::ds2,by simp only[fillVs,List.append_assoc,k1,k3],RelVs_cons k2 k4⟩
    ·cases h
   ·cases h
end
theorem wA {Fr:Store}{S:DSt}{s':Store}(hS:RelS π Fr S s'){o:OSh}{x:Option Nat}{nm nm':Nm}{l:List Leaf}(h:KV S o x nm=some (l,nm')):
  NmLe nm nm'∧(∀ b,x=some b→∃ o,S.get b=some o)∧∀ k rest,Mt π nm' π2 ρ→(∀ lc,fe π x=some lc→π2 (ρ k)=some lc)→∃ o2,cq ρ o (l++rest)=some (o2,rest)∧ObR π2 s' (ρ k) o2:=by
 cases x with
 | none=>
  unfold KV at h;split at h
  ·rename_i T t _;cases h;exact⟨NmLe.refl _,fun b hb=>(by cases hb),fun k rest hm hl=>⟨.row T t [],by simp[cq],.inl ⟨hl _ rfl,rfl⟩⟩⟩
  ·rename_i T T' t _;cases h;exact⟨NmLe.refl _,fun b hb=>(by cases hb),fun k rest hm hl=>⟨.rows T T' t [],by simp[cq],.inl ⟨hl _ rfl,rfl⟩⟩⟩
  ·rename_i he; cases he
  ·cases h
 | some b=>
  unfold KV at h;split at h
  ·rename_i he; cases he
  ·rename_i he; cases he
  ·rename_i o' b' he;cases he;split at h
   ·
    rename_i t cs hb;split at h
    ·rename_i x hx;cases h;refine⟨NmLe.refl _,fun b2 hb2=>by cases hb2; exact⟨_,hb⟩,fun k rest hm hl=>⟨.box (bc t x),by simp[cq],?_⟩⟩;obtain⟨b',c,n,as,h1,h2,h3⟩:=hS.obj _ _ hb;exact⟨b',c,n,as,hl _ h1,h2,bi (bF hx h3)⟩
    ·cases h
   ·
    rename_i rs cs hb;obtain⟨b',c,n,as,h1,h2,h3⟩:=hS.obj _ _ hb;obtain⟨g1,g2⟩:=eE (π2:=π2) (ρ:=ρ) rs h h3;refine⟨g1,fun b2 hb2=>by cases hb2; exact⟨_,hb⟩,fun k rest hm hl=>?_⟩;obtain⟨ds2,k1,k2⟩:=g2 rest hm;exact⟨.box ds2,by simp[cq,k1],b',c,n,as,hl _ h1,h2,k2⟩
   ·
    rename_i T t T' t' l' hb;cases hc:(Nat.beq T T'&&decide (t=t'))with
    | false=>rw[hc]at h; cases h
    | true=>
     rw[hc]at h; cases h;simp only[Bool.and_eq_true,ai,decide_eq_true_eq]at hc;obtain⟨rfl,rfl⟩:=hc;refine⟨NmLe.refl _,fun b2 hb2=>by cases hb2; exact⟨_,hb⟩,fun k rest hm hl=>⟨.row T t l',by simp[cq],?_⟩⟩;rcases hS.obj _ _ hb with⟨q1,q2⟩ | ⟨b2,c2,xs,hp2,hcap,hs,hr⟩
     ·exact .inl ⟨hl _ q1,q2⟩
     ·exact .inr ⟨b2,c2,xs,hl _ hp2,hcap,hs,hr⟩
   ·
    rename_i kn ag t kn' ag' t' es hb;cases hc:(Nat.beq kn kn'&&(decide (ag=ag')&&decide (t=t')))with
    | false=>rw[hc]at h; cases h
    | true=>
     rw[hc]at h; cases h;simp only[Bool.and_eq_true,ai,decide_eq_true_eq]at hc;obtain⟨rfl,rfl,rfl⟩:=hc;refine⟨NmLe.refl _,fun b2 hb2=>by cases hb2; exact⟨_,hb⟩,fun k rest hm hl=>⟨.imap kn ag t es none,by simp[cq],?_⟩⟩;obtain⟨b',c,n,es',h1,h2,h3⟩:=hS.obj _ _ hb;exact⟨b',c,n,es',hl _ h1,h2,h3⟩
   ·
    rename_i T T' t T1 T1' t' l' hb;cases hc:(Nat.beq T T1&&(Nat.beq T' T1'&&decide (t=t')))with
    | false=>rw[hc]at h; cases h
    | true=>
     rw[hc]at h; cases h;simp only[Bool.and_eq_true,ai,decide_eq_true_eq]at hc;obtain⟨rfl,rfl,rfl⟩:=hc;refine⟨NmLe.refl _,fun b2 hb2=>by cases hb2; exact⟨_,hb⟩,fun k rest hm hl=>⟨.rows T T' t l',by simp[cq],?_⟩⟩;rcases hS.obj _ _ hb with⟨q1,q2⟩ | ⟨b2,c2,f,hp2,hR⟩
     ·exact .inl ⟨hl _ q1,q2⟩
     ·exact .inr ⟨b2,c2,f,hl _ hp2,hR⟩
   ·
    rename_i t t' es hb;cases hc:decide (t=t')with
    | false=>rw[hc]at h; cases h
    | true=>
     rw[hc]at h; cases h;have:=of_decide_eq_true hc; subst this;refine⟨NmLe.refl _,fun b2 hb2=>by cases hb2; exact⟨_,hb⟩,fun k rest hm hl=>⟨.pool t es,by simp[cq],?_⟩⟩;obtain⟨g,h1,h2⟩:=hS.obj _ _ hb;exact⟨g,hl _ h1,h2⟩
   ·
    rename_i kp p hb;split at h
    ·rename_i nm1 hn;cases h;obtain⟨g1,g2⟩:=aV hn;refine⟨g1,fun b2 hb2=>by cases hb2; exact⟨_,hb⟩,fun k rest hm hl=>⟨.pmap (ρ kp),by simp[cq],?_⟩⟩;obtain⟨b',c,n,g,h1,h2,h3⟩:=hS.obj _ _ hb;exact⟨b',c,n,g,hl _ h1,hm _ _ g2 _ h2,h3⟩
    ·cases h
   ·
    rename_i k hb;cases h;refine⟨fun _ _ h=>h,fun b2 hb2=>by cases hb2; exact⟨_,hb⟩,fun k' rest hm hl=>⟨.raw k,by simp[cq],?_⟩⟩;obtain⟨b',c,n,h1,h2⟩:=hS.obj _ _ hb;exact⟨b',c,n,hl _ h1,h2⟩
   ·
    rename_i kp p hb;split at h
    ·rename_i nm1 hn;cases h;obtain⟨g1,g2⟩:=aV hn;refine⟨g1,fun b2 hb2=>by cases hb2; exact⟨_,hb⟩,fun k rest hm hl=>⟨.gone (ρ kp),by simp[cq],?_⟩⟩;obtain⟨b',g,h1,h2⟩:=hS.obj _ _ hb;exact⟨b',g,hl _ h1,hm _ _ g2 _ h2⟩
    ·cases h
   ·cases h
  ·cases h
theorem oc {Fr:Store}{S:DSt}{s':Store}(hS:RelS π Fr S s'):∀ (os:List (Nat×OSh)) {nm nm':Nm} {l:List Leaf},wq S os nm=some (l,nm') →
  NmLe nm nm'∧(∀ k o,(k,o)∈os→∃ x,bt nm' k=some x∧∀ b,x=some b→∃ o,S.get b=some o) ∧
  ∀ rest,Mt π nm' π2 ρ→∃ xs,dv ρ os (l++rest)=some (xs,rest)∧∀ b o,(b,o)∈xs→ObR π2 s' b o
 | [],nm,nm',l,h=>by
  cases h;exact⟨NmLe.refl _,fun k o hk=>by simp at hk,fun rest hm=>⟨[],by simp[dv],fun b o hb=>by simp at hb⟩⟩
 | (k,o)::os,nm,nm',l,h=>by
  simp only[wq]at h;split at h
  ·rename_i x hx;split at h
   ·rename_i l1 nm1 h1;split at h
    ·rename_i l2 nm2 h2;cases h;obtain⟨g1,g2,g3⟩:=wA (π2:=π2) (ρ:=ρ) hS h1;obtain⟨k1,k2,k3⟩:=oc hS os h2;refine⟨g1.trans k1,fun k' o' hk'=>?_,fun rest hm=>?_⟩
     ·rcases List.mem_cons.1 hk' with e | hk'
      ·cases e; exact⟨x,(g1.trans k1) _ _ hx,g2⟩
      ·exact k2 k' o' hk'
     ·obtain⟨o2,q1,q2⟩:=g3 k (l2++rest) (hm.le k1) (fun lc hl=>hm k x ((g1.trans k1) _ _ hx) lc hl);obtain⟨xs,q3,q4⟩:=k3 rest hm;refine⟨(ρ k,o2)::xs,by simp only[dv,List.append_assoc,q1,q3],fun b o' hb=>?_⟩;rcases List.mem_cons.1 hb with e | hb
      ·cases e; exact q2
      ·exact q4 b o' hb
    ·cases h
   ·cases h
  ·cases h
end
theorem gT {π:Pi}:∀ {ds ds':List DV} {as:List AV},RelVs π (ds++ds') as→∃ as1 as2,as=as1++as2∧RelVs π ds as1∧RelVs π ds' as2
 | [],ds',as,h=>⟨[],as,rfl,RelVs_nil,h⟩
 | d::ds,ds',as,h=>by
  simp only[List.cons_append,RelVs]at h;obtain⟨a,as',rfl,g,h⟩:=h;obtain⟨as1,as2,rfl,h1,h2⟩:=gT h;exact⟨a::as1,as2,rfl,RelVs_cons g h1,h2⟩
section
variable {π1 π2:Pi} {ρ0 ρ:Nat→Nat}
theorem eM:∀ {t:Ty} {x:t.den} {as:List AV},RelVs π1 (bc t x) as→RelVs π2 (bc t x) as
 | .pair a b,x,as,h=>by
  simp only[bc]at h ⊢;obtain⟨as1,as2,rfl,h1,h2⟩:=gT h;exact dL (eM h1) (eM h2)
 | .es _,x,as,h=>by
  simp only[bc,RelVs]at h ⊢;obtain⟨a,as',rfl,_,rfl⟩:=h;exact⟨a,[],rfl,by simp only[RelV],rfl⟩
 | .int _,x,as,h | .bool,x,as,h | .str,x,as,h | .sl _,x,as,h | .opt _,x,as,h=>by
  simp only[bc,RelVs]at h ⊢;obtain⟨a,as',rfl,g,rfl⟩:=h;exact⟨a,[],rfl,by simp only[RelV]at g ⊢; exact g,rfl⟩
theorem wB {ρ0:Nat→Nat}{k w:Nat}{l l':List Leaf}{d:DV}(h:fillV ρ0 (.slo k w) l=some (d,l')):∃ o m:Int,d = .slo (ρ0 k) w o.toNat m.toNat∧∀ ρ:Nat→Nat,fillV ρ (.slo k w) l=some (.slo (ρ k) w o.toNat m.toNat,l'):=by
 cases l with
 | nil=>simp[fillV]at h
 | cons x l=>
  cases l with
  | nil=>simp[fillV]at h
  | cons y l=>
   simp only[fillV]at h;split at h
   ·rename_i o m h1 h2;cases h;exact⟨o,m,rfl,fun ρ=>by simp only[fillV,h1,h2]⟩
   ·cases h
mutual
theorem uF (hx:∀ k l,π1 (ρ0 k)=some l→π2 (ρ k)=some l):∀ (r:RSh) {l l':List Leaf} {d:DV} {a:AV},fillV ρ0 r l=some (d,l')→RelV π1 d a→∃ d2,fillV ρ r l=some (d2,l')∧RelV π2 d2 a
 | .v t,l,l',d,a,h,hr=>by
  cases l with
  | nil=>simp[fillV]at h
  | cons x l=>
   simp only[fillV]at h ⊢;cases hc:decide (x.t=t)with
   | false=>rw[hc]at h; cases h
   | true=>
    rw[hc]at h;cases h;refine⟨_,rfl,?_⟩;simp only[RelV]at hr ⊢; exact hr
 | .st t,l,l',d,a,h,hr=>by
  cases l with
  | nil=>simp[fillV]at h
  | cons x l=>
   simp only[fillV]at h ⊢;cases hc:decide (x.t=t)with
   | false=>rw[hc]at h; cases h
   | true=>
    rw[hc]at h;cases h;refine⟨_,rfl,?_⟩;simp only[RelV]at hr ⊢;obtain⟨as,rfl,hr⟩:=hr;exact⟨as,rfl,eM hr⟩
 | .elm t,l,l',d,a,h,hr=>by
  cases l with
  | nil=>simp[fillV]at h
  | cons x l=>
   simp only[fillV]at h ⊢;cases hc:decide (x.t=t)with
   | false=>rw[hc]at h; cases h
   | true=>
    rw[hc]at h;cases h;refine⟨_,rfl,?_⟩;simp only[RelV]at hr ⊢;obtain⟨as,rfl,hr⟩:=hr;exact⟨as,rfl,eM hr⟩
 | .ptr k o,l,l',d,a,h,hr=>by
  simp only[fillV]at h ⊢;cases h;simp only[RelV]at hr;obtain⟨b',c,n,hp,rfl⟩:=hr;exact⟨_,rfl,by simp only[RelV]; exact⟨b',c,n,hx _ _ hp,rfl⟩⟩
 | .slc k,l,l',d,a,h,hr=>by
  simp only[fillV]at h ⊢;cases h;refine⟨_,rfl,?_⟩;simp only[RelV]at hr ⊢;rcases hr with⟨b',c,n,hp,rfl⟩ | ⟨hp,rfl⟩
  ·exact .inl ⟨b',c,n,hx _ _ hp,rfl⟩
  ·exact .inr ⟨hx _ _ hp,rfl⟩
 | .slo k w,l,l',d,a,h,hr=>by
  obtain⟨o,m,rfl,hf⟩:=wB h;simp only[RelV]at hr;obtain⟨b',c,n,hp,hle,rfl⟩:=hr;exact⟨.slo (ρ k) w (Int.toNat o) (Int.toNat m),hf ρ,by simp only[RelV]; exact⟨b',c,n,hx _ _ hp,hle,rfl⟩⟩
 | .aptr k w,l,l',d,a,h,hr=>by
  simp only[fillV]at h ⊢;cases h;simp only[RelV]at hr;obtain⟨b',c,n,hp,hle,rfl⟩:=hr;exact⟨_,rfl,by simp only[RelV]; exact⟨b',c,n,hx _ _ hp,hle,rfl⟩⟩
 | .mp k,l,l',d,a,h,hr=>by
  simp only[fillV]at h ⊢;cases h;simp only[RelV]at hr;obtain⟨b',c,n,hp,rfl⟩:=hr;exact⟨_,rfl,by simp only[RelV]; exact⟨b',c,n,hx _ _ hp,rfl⟩⟩
 | .slr k,l,l',d,a,h,hr=>by
  simp only[fillV]at h ⊢;cases h;refine⟨_,rfl,?_⟩;simp only[RelV]at hr ⊢;rcases hr with⟨b',c,n,f,hp,rfl⟩ | ⟨hp,rfl⟩
  ·exact .inl ⟨b',c,n,f,hx _ _ hp,rfl⟩
  ·exact .inr ⟨hx _ _ hp,rfl⟩
 | .irow k,l,l',d,a,h,hr=>by
  cases l with
  | nil=>simp[fillV]at h
  | cons x l=>
   simp only[fillV]at h ⊢;split at h
   ·rename_i i hi;cases h;simp only[RelV]at hr;obtain⟨b',c,n,f,hp,hi,rfl⟩:=hr;exact⟨_,rfl,by simp only[RelV]; exact⟨b',c,n,f,hx _ _ hp,hi,rfl⟩⟩
   ·cases h
 | .pel k,l,l',d,a,h,hr=>by
  cases l with
  | nil=>simp[fillV]at h
  | cons x l=>
   simp only[fillV]at h ⊢;split at h
   ·rename_i i hi;cases h;simp only[RelV]at hr;obtain⟨g,y,hp,hg,rfl⟩:=hr;exact⟨_,rfl,by simp only[RelV]; exact⟨g,y,hx _ _ hp,hg,rfl⟩⟩
   ·cases h
 | .mpl k,l,l',d,a,h,hr=>by
  simp only[fillV]at h ⊢;cases h;simp only[RelV]at hr;obtain⟨b',hp,rfl⟩:=hr;exact⟨_,rfl,by simp only[RelV]; exact⟨b',hx _ _ hp,rfl⟩⟩
 | .nilp,l,l',d,a,h,hr=>by
  simp only[fillV]at h ⊢;cases h;exact⟨_,rfl,by simp only[RelV]at hr ⊢; exact hr⟩
 | .nilm,l,l',d,a,h,hr=>by
  simp only[fillV]at h ⊢;cases h;exact⟨_,rfl,by simp only[RelV]at hr ⊢; exact hr⟩
 | .emp,l,l',d,a,h,hr=>by
  simp only[fillV]at h ⊢;cases h;exact⟨_,rfl,by simp only[RelV]at hr ⊢; exact hr⟩
 | .any,l,l',d,a,h,hr=>by
  simp only[fillV]at h ⊢;cases h;exact⟨_,rfl,by simp only[RelV]⟩
 | .agg rs,l,l',d,a,h,hr=>by
  simp only[fillV]at h ⊢;split at h
  ·rename_i ds l1 h1;cases h;simp only[RelV]at hr;obtain⟨as,rfl,hr⟩:=hr;obtain⟨ds2,k1,k2⟩:=dN hx rs h1 hr;exact⟨.agg ds2,by rw[k1],by simp only[RelV]; exact⟨as,rfl,k2⟩⟩
  ·cases h
 | .tup rs,l,l',d,a,h,hr=>by
  simp only[fillV]at h ⊢;split at h
  ·rename_i ds l1 h1;cases h;simp only[RelV]at hr;obtain⟨as,rfl,hr⟩:=hr;obtain⟨ds2,k1,k2⟩:=dN hx rs h1 hr;exact⟨.tup ds2,by rw[k1],by simp only[RelV]; exact⟨as,rfl,k2⟩⟩
  ·cases h
 | .fn f rs,l,l',d,a,h,hr=>by
  simp only[fillV]at h ⊢;split at h
  ·rename_i ds l1 h1;cases h;simp only[RelV]at hr;obtain⟨as,rfl,hr⟩:=hr;obtain⟨ds2,k1,k2⟩:=dN hx rs h1 hr;exact⟨.fn f ds2,by rw[k1],by simp only[RelV]; exact⟨as,rfl,k2⟩⟩
  ·cases h
theorem dN (hx:∀ k l,π1 (ρ0 k)=some l→π2 (ρ k)=some l):∀ (rs:List RSh) {l l':List Leaf} {ds:List DV} {as:List AV},fillVs ρ0 rs l=some (ds,l')→RelVs π1 ds as→∃ ds2,fillVs ρ rs l=some (ds2,l')∧RelVs π2 ds2 as
 | [],l,l',ds,as,h,hr=>by
  simp only[fillVs]at h ⊢;cases h;simp only[RelVs]at hr; subst hr;exact⟨[],rfl,RelVs_nil⟩
 | r::rs,l,l',ds,as,h,hr=>by
  simp only[fillVs]at h ⊢;split at h
  ·rename_i d l1 h1;split at h
   ·rename_i ds1 l2 h2;cases h;simp only[RelVs]at hr;obtain⟨a,as',rfl,hr1,hr2⟩:=hr;obtain⟨d2,k1,k2⟩:=uF hx r h1 hr1;obtain⟨ds2,k3,k4⟩:=dN hx rs h2 hr2;exact⟨d2::ds2,by simp only[k1,k3],RelVs_cons k2 k4⟩
   ·cases h
  ·cases h
end
theorem uG (hx:∀ k l,π1 (ρ0 k)=some l→π2 (ρ k)=some l){s':Store}{o:OSh}{k:Nat}{l l':List Leaf}{x:DObj}(h:cq ρ0 o l=some (x,l'))(hr:ObR π1 s' (ρ0 k) x):
  ∃ x2,cq ρ o l=some (x2,l')∧ObR π2 s' (ρ k) x2:=by
 cases o with
 | boxT t=>
  cases l with
  | nil=>simp[cq]at h
  | cons y l=>
   simp only[cq]at h ⊢;cases hc:decide (y.t=t)with
   | false=>rw[hc]at h; cases h
   | true=>
    rw[hc]at h;cases h;obtain⟨b',c,n,as,h1,h2,h3⟩:=hr;exact⟨_,rfl,b',c,n,as,hx _ _ h1,h2,eM h3⟩
 | box rs=>
  simp only[cq]at h ⊢;split at h
  ·rename_i ds l1 h1;cases h;obtain⟨b',c,n,as,g1,g2,g3⟩:=hr;obtain⟨ds2,k1,k2⟩:=dN hx rs h1 g3;exact⟨.box ds2,by rw[k1],b',c,n,as,hx _ _ g1,g2,k2⟩
  ·cases h
 | row T t=>
  unfold cq at h ⊢;split at h <;> rename_i he <;> first | (cases he; done) | skip
  ·rename_i t' y l1;cases he;cases hc:decide (t'=t)with
   | false=>rw[hc]at h; cases h
   | true=>
    rw[hc]at h;cases h;refine⟨.row T t' y,by simp only[hc,cond_true],?_⟩;rcases hr with⟨q1,q2⟩ | ⟨b2,c2,xs,hp2,hcap,hs,hr⟩
    ·exact .inl ⟨hx _ _ q1,q2⟩
    ·exact .inr ⟨b2,c2,xs,hx _ _ hp2,hcap,hs,hr⟩
  ·cases h
 | imap kn ag t=>
  unfold cq at h ⊢;split at h <;> rename_i he <;> first | (cases he; done) | skip
  ·rename_i t' y l1;cases he;cases hc:decide (t'=t)with
   | false=>rw[hc]at h; cases h
   | true=>
    rw[hc]at h;cases h;refine⟨.imap kn ag t' y none,by simp only[hc,cond_true],?_⟩;obtain⟨b',c,n,es',h1,h2,h3⟩:=hr;exact⟨b',c,n,es',hx _ _ h1,h2,h3⟩
  ·cases h
 | rows T T' t=>
  unfold cq at h ⊢;split at h <;> rename_i he <;> first | (cases he; done) | skip
  ·rename_i t' y l1;cases he;cases hc:decide (t'=t)with
   | false=>rw[hc]at h; cases h
   | true=>
    rw[hc]at h;cases h;refine⟨.rows T T' t' y,by simp only[hc,cond_true],?_⟩;rcases hr with⟨q1,q2⟩ | ⟨b2,c2,f,hp2,hR⟩
    ·exact .inl ⟨hx _ _ q1,q2⟩
    ·exact .inr ⟨b2,c2,f,hx _ _ hp2,hR⟩
  ·cases h
 | pool t=>
  unfold cq at h ⊢;split at h <;> rename_i he <;> first | (cases he; done) | skip
  ·rename_i t' y l1;cases he;cases hc:decide (t'=t)with
   | false=>rw[hc]at h; cases h
   | true=>
    rw[hc]at h;cases h;refine⟨.pool t' y,by simp only[hc,cond_true],?_⟩;obtain⟨g,h1,h2⟩:=hr;exact⟨g,hx _ _ h1,h2⟩
  ·cases h
 | pmap kp=>
  simp only[cq]at h ⊢;cases h;obtain⟨b',c,n,g,h1,h2,h3⟩:=hr;exact⟨_,rfl,b',c,n,g,hx _ _ h1,hx _ _ h2,h3⟩
 | gone kp=>
  simp only[cq]at h ⊢;cases h;obtain⟨b',g,h1,h2⟩:=hr;exact⟨_,rfl,b',g,hx _ _ h1,hx _ _ h2⟩
 | raw=>
  match l,h with
  | ⟨.int .i64,k⟩::l,h=>
   simp only[cq]at h ⊢;cases h;obtain⟨b',c,n,h1,h2⟩:=hr;exact⟨_,rfl,b',c,n,hx _ _ h1,h2⟩
theorem mH (hx:∀ k l,π1 (ρ0 k)=some l→π2 (ρ k)=some l){s':Store}:∀ (os:List (Nat×OSh)) {l l':List Leaf} {xs:List (Nat×DObj)},dv ρ0 os l=some (xs,l')→(∀ b o,(b,o)∈xs→ObR π1 s' b o) →
  ∃ xs2,dv ρ os l=some (xs2,l')∧∀ b2 o2,(b2,o2)∈xs2→∃ k o,b2=ρ k∧(ρ0 k,o)∈xs∧ObR π2 s' b2 o2
 | [],l,l',xs,h,hr=>by
  simp only[dv]at h ⊢;cases h;exact⟨[],rfl,fun b o hb=>by simp at hb⟩
 | (k,o)::os,l,l',xs,h,hr=>by
  simp only[dv]at h ⊢;split at h
  ·rename_i x l1 h1;split at h
   ·rename_i xs1 l2 h2;cases h;obtain⟨x2,g1,g2⟩:=uG (k:=k) hx h1 (hr _ _ (by simp));obtain⟨xs2,g3,g4⟩:=mH hx os h2 (fun b o hb=>hr b o (by simp[hb]));refine⟨(ρ k,x2)::xs2,by simp only[g1,g3],fun b2 o2 hb=>?_⟩;rcases List.mem_cons.1 hb with e | hb
    ·cases e; exact⟨k,x,rfl,by simp,g2⟩
    ·obtain⟨k',o',q1,q2,q3⟩:=g4 b2 o2 hb;exact⟨k',o',q1,by simp[q2],q3⟩
   ·cases h
  ·cases h
end
end Go.Proofs.Ytjoncejabdjekaa.D

set_option linter.unusedVariables false
set_option linter.unusedSectionVars false
set_option linter.unusedSimpArgs false
namespace Go.Proofs.Ytjoncejabdjekaa.D
open Go Go.Proofs.Ytjoncejabdjekaa.L
variable [YP]
theorem eC {α:Type}:∀ {l:List (Nat×α)} {b:Nat} {o:α},bt l b=some o→(b,o)∈l
 | [],b,o,h=>by simp[bt]at h
 | (c,p)::l,b,o,h=>by
  simp only[bt]at h;by_cases e:c=b
  ·subst e; simp at h; subst h; simp
  ·simp only[bO e,cond_false]at h; simp[eC h]
theorem sP {α:Type}:∀ {l:List (Nat×α)} {b:Nat} {o:α},(b,o)∈l→∃ o',bt l b=some o'
 | (c,p)::l,b,o,h=>by
  by_cases e:c=b
  ·subst e; exact⟨p,by simp[bt]⟩
  ·rcases List.mem_cons.1 h with h | h
   ·cases h; exact absurd rfl e
   ·obtain⟨o',ho⟩:=sP h; exact⟨o',by simp only[bt,bO e,cond_false]; exact ho⟩
theorem cY {l:List Nat}{b:Nat}:l.any (Nat.beq b)=true↔b∈l:=by
 rw[List.any_eq_true];constructor
 ·rintro⟨x,hx,h⟩; rw[ai.1 h]; exact hx
 ·exact fun h=>⟨b,h,Nat.beq_refl b⟩
theorem mem_names:∀ {nm:Nm} {b:Nat},b∈aW nm↔∃ k,(k,some b)∈nm
 | [],b=>by simp[aW]
 | (k,none)::nm,b=>by
  simp only[aW,mem_names (nm:=nm),List.mem_cons,Prod.mk.injEq,reduceCtorEq,and_false,false_or]
 | (k,some c)::nm,b=>by
  simp only[aW,List.mem_cons,mem_names (nm:=nm),Prod.mk.injEq,Option.some.injEq];constructor
  ·rintro(rfl | ⟨k',h⟩)
   ·exact⟨k,.inl ⟨rfl,rfl⟩⟩
   ·exact⟨k',.inr h⟩
  ·rintro⟨k',⟨rfl,rfl⟩ | h⟩
   ·exact .inl rfl
   ·exact .inr ⟨k',h⟩
theorem uH {nm:Nm}{k b:Nat}(h:bt nm k=some (some b)):b∈aW nm:=mem_names.2 ⟨k,eC h⟩
theorem gr {b:Nat}{l:List Nat}(h:b6 (b::l)=true):b∉l∧b6 l=true:=by
 simp only[b6,Bool.and_eq_true,Bool.not_eq_true']at h;refine⟨fun hb=>?_,h.2⟩;rw[cY.2 hb]at h;cases h.1
theorem names_inj:∀ {nm:Nm} {k1 k2 b:Nat},b6 (aW nm)=true→(k1,some b)∈nm→(k2,some b)∈nm→k1=k2
 | (k,none)::nm,k1,k2,b,h,h1,h2=>by
  simp only[List.mem_cons,Prod.mk.injEq,reduceCtorEq,and_false,false_or]at h1 h2;exact names_inj (nm:=nm) h h1 h2
 | (k,some c)::nm,k1,k2,b,h,h1,h2=>by
  obtain⟨g1,g2⟩:=gr (b:=c) (l:=aW nm) h;simp only[List.mem_cons,Prod.mk.injEq,Option.some.injEq]at h1 h2;rcases h1 with⟨rfl,rfl⟩ | h1 <;> rcases h2 with⟨rfl,e2⟩ | h2
  ·rfl
  ·exact absurd (mem_names.2 ⟨_,h2⟩) g1
  ·subst e2; exact absurd (mem_names.2 ⟨_,h1⟩) g1
  ·exact names_inj g2 h1 h2
theorem names_fnd {α:Type}:∀ {nm:List (Nat×α)} {k:Nat} {x:α},b6 (nm.map (·.1))=true→(k,x)∈nm→bt nm k=some x
 | (k',y)::nm,k,x,h,hm=>by
  have h':b6 (k'::nm.map (·.1))=true:=h;obtain⟨g1,g2⟩:=gr h';rcases List.mem_cons.1 hm with e | hm
  ·cases e; simp[bt]
  ·have:k'≠k:=fun e=>by subst e; exact g1 (List.mem_map.2 ⟨_,hm,rfl⟩)
   simp only[bt,bO this,cond_false];exact names_fnd g2 hm
theorem je {os:List (Nat×OSh)}:∀ {nm:Nm} {k:Nat} {x:Option Nat},gP os nm=true→bt nm k=some x→∃ o,(k,o)∈os
 | (k',y)::nm,k,x,h,hf=>by
  simp only[gP,Bool.and_eq_true]at h;by_cases e:k'=k
  ·subst e;obtain⟨⟨k2,o⟩,h1,h2⟩:=List.any_eq_true.1 h.1;obtain rfl:=ai.1 h2;exact⟨o,h1⟩
  ·simp only[bt,bO e,cond_false]at hf;exact je h.2 hf
theorem mI {q:Nat}:∀ {os:List (Nat×OSh)} {k:Nat} {o:OSh},ja q os=true→(k,o)∈os→k < q
 | (k',o')::os,k,o,h,hm=>by
  simp only[ja,Bool.and_eq_true]at h;rcases List.mem_cons.1 hm with e | hm
  ·cases e; have h1:=h.1; simp[Nat.blt,Nat.ble_eq]at h1; omega
  ·exact mI h.2 hm
def cL (π:Pi)(nm:Nm):Pi:=fun k=>match bt nm k with
 | some x=>fe π x
 | none=>none
theorem kC {π:Pi}{nm:Nm}{k:Nat}{l:Loc}{x:Nat}(h:cL π nm k=some l)(hx:l.has x):∃ b,bt nm k=some (some b)∧π b=some l:=by
 unfold cL at h;split at h
 ·rename_i y hy;cases y with
  | none=>simp only[fe,Option.some.injEq]at h; subst h; exact hx.elim
  | some b=>exact⟨b,hy,h⟩
 ·cases h
section
variable {π:Pi} {Fr:Store} {S:DSt} {s':Store}
theorem ff (hS:RelS π Fr S s'){sh:StSh}{q:Nat}{ds:List DV}{nm0 nm:Nm}{l:List Leaf}{as:List AV}(h:nw none S sh q ds nm0=some (l,nm))(hr:RelVs π ds as){Fr1:Store}
  (f1:∀ b' x,Fr1 b'=some x→s' b'=some x) (f2:∀ k b lc x,bt nm k=some (some b)→π b=some lc→lc.has x→Fr1 x=none) :
  NmLe nm0 nm∧b6 (aW nm)=true∧b6 (sh.objs.map (·.1))=true∧(∀ k b,bt nm k=some (some b)→∃ o,S.get b=some o) ∧
  ∃ ds0 os0,fillSt (fun k=>k) sh l=some (ds0,os0)∧RelVs (cL π nm) ds0 as∧RelS (cL π nm) Fr1 ⟨q,os0⟩ s':=by
 unfold nw at h;split at h
 ·rename_i l1 nm1 h1;split at h
  ·rename_i l2 nm2 h2;cases hc:(b6 (aW nm2)&&(b6 (nm2.map (·.1))&&(gP sh.objs nm2&&(ja q sh.objs&&b6 (sh.objs.map (·.1))))))with
   | false=>rw[hc]at h; cases h
   | true=>
    rw[hc]at h;cases h;simp only[Bool.and_eq_true]at hc;obtain⟨c1,c2,c3,c4,c5⟩:=hc;obtain⟨g1,g2⟩:=eE (π2:=cL π nm) (ρ:=fun k=>k) sh.vals h1 hr;obtain⟨g3,g4,g5⟩:=oc (π2:=cL π nm) (ρ:=fun k=>k) hS sh.objs h2;have hM:Mt π nm (cL π nm) (fun k=>k):=fun k x hx lc hl=>by simp only[cL,hx,hl]
    obtain⟨ds0,k1,k2⟩:=g2 (l2++[]) (hM.le g3);obtain⟨os0,k3,k4⟩:=g5 [] hM;have live:∀ k b,bt nm k=some (some b)→∃ o,S.get b=some o:=fun k b hk=>by
     obtain⟨o,ho⟩:=je c3 hk;obtain⟨x,hx,hb⟩:=g4 k o ho;rw[hk]at hx; cases hx;exact hb b rfl
    refine⟨g1.trans g3,c1,c5,live,ds0,os0,?_,k2,?_⟩
    ·simp only[List.append_nil]at k1 k3;simp only[fillSt,k1,k3]
    ·refine⟨fun b o hb=>k4 b o (eC hb),fun b1 b2 o1 o2 l1 l2 x h1 h2 p1 p2 x1 x2=>?_,f1,fun b o lc x hb hp hx=>?_,fun b hb=>?_⟩
     ·obtain⟨d1,q1,q2⟩:=kC p1 x1;obtain⟨d2,q3,q4⟩:=kC p2 x2;obtain⟨o3,h3⟩:=live _ _ q1;obtain⟨o4,h4⟩:=live _ _ q3;have:=hS.inj' _ _ _ _ _ _ _ h3 h4 q2 q4 x1 x2;subst this;exact names_inj c1 (eC q1) (eC q3)
     ·obtain⟨d1,q1,q2⟩:=kC hp hx;exact f2 _ _ _ _ q1 q2 hx
     ·have hb:q≤b:=hb;unfold cL;cases hf:bt nm b with
      | none=>rfl
      | some x=>
       obtain⟨o,ho⟩:=je c3 hf;have:=mI c4 ho;omega
  ·cases h
 ·cases h
open Classical in
noncomputable def dh (π:Pi)(nm:Nm)(s':Store):Store:=fun b'=>if ∃ k b l,bt nm k=some (some b)∧π b=some l∧l.has b' then none else s' b'
theorem lO {nm:Nm}{b':Nat}{x:AObj}(h:dh π nm s' b'=some x):s' b'=some x:=by
 unfold dh at h;split at h
 ·cases h
 ·exact h
theorem iu {nm:Nm}{k b b':Nat}{l:Loc}(h:bt nm k=some (some b))(hp:π b=some l)(hx:l.has b'):dh π nm s' b'=none:=by
 unfold dh;rw[if_pos ⟨k,b,l,h,hp,hx⟩]
theorem jI (hS:RelS π Fr S s'){nm:Nm}(live:∀ k b,bt nm k=some (some b)→∃ o,S.get b=some o){b b':Nat}{l:Loc}{o:DObj}(hb:S.get b=some o)(hn:b∉aW nm)(hp:π b=some l)(hx:l.has b'):dh π nm s' b'=s' b':=by
 unfold dh;rw[if_neg];rintro⟨k,b2,l2,h1,h2,h3⟩;obtain⟨o2,ho2⟩:=live _ _ h1;have:=hS.inj' _ _ _ _ _ _ _ hb ho2 hp h2 hx h3;subst this;exact hn (uH h1)
theorem lP (hS:RelS π Fr S s'){nm:Nm}(live:∀ k b,bt nm k=some (some b)→∃ o,S.get b=some o){b':Nat}{x:AObj}(h:Fr b'=some x):dh π nm s' b'=some x:=by
 unfold dh;rw[if_neg,hS.frm _ _ h];rintro⟨k,b2,l2,h1,h2,h3⟩;obtain⟨o2,ho2⟩:=live _ _ h1;rw[hS.out' _ _ _ _ ho2 h2 h3]at h; cases h
theorem jf:∀ (L:List Nat) (S:DSt) (b:Nat),(gk S L).get b=if b∈L then none else S.get b
 | [],S,b=>by simp[gk]
 | c::L,S,b=>by
  simp only[gk,jf L,DSt.get_del,List.mem_cons];by_cases h1:b=c <;> by_cases h2:b∈L <;> simp[h1,h2]
theorem mJ:∀ (os:List (Nat×DObj)) {m:List (Nat×DObj)} {b:Nat} {o:DObj},bt (ky m os) b=some o→(b,o)∈os∨bt m b=some o
 | [],m,b,o,h=>.inr h
 | (c,p)::os,m,b,o,h=>by
  rcases mJ os h with h | h
  ·exact .inl (by simp[h])
  ·rw[cN]at h;by_cases e:b=c
   ·rw[if_pos e]at h; cases h; exact .inl (by simp[e])
   ·rw[if_neg e]at h; exact .inr h
theorem lf:∀ (os:List (Nat×DObj)) {m:List (Nat×DObj)} {b:Nat} {o:DObj},bt m b=some o→∃ o',bt (ky m os) b=some o'
 | [],m,b,o,h=>⟨o,h⟩
 | (c,p)::os,m,b,o,h=>by
  have:∃ o1,bt (j0 m c p) b=some o1:=by
   rw[cN];split
   ·exact⟨_,rfl⟩
   ·exact⟨_,h⟩
  obtain⟨o1,h1⟩:=this;exact lf os h1
theorem gU {ρ:Nat→Nat}:∀ {os:List (Nat×OSh)} {l l':List Leaf} {xs:List (Nat×DObj)},dv ρ os l=some (xs,l')→xs.map (·.1)=os.map fun x=>ρ x.1
 | [],l,l',xs,h=>by cases h; rfl
 | (k,o)::os,l,l',xs,h=>by
  simp only[dv]at h;split at h
  ·split at h
   ·rename_i hx; cases h; simp[gU hx]
   ·cases h
  ·cases h
theorem dZ (hS:RelS π Fr S s'){nm:Nm}(live:∀ k b,bt nm k=some (some b)→∃ o,S.get b=some o){π1:Pi}{s1:Store}{o:OutSh}{l:List Leaf}{ds:List DV}{os:List (Nat×DObj)}{as:List AV}
  (hf:fillSt (fun k=>k) o.st l=some (ds,os)) (hnd:b6 (o.st.objs.map (·.1))=true) (hr:RelVs π1 ds as) (h1:RelS π1 (dh π nm s') ⟨o.q,os⟩ s1) (hid:∀ k,o.ids.any (Nat.beq k)=true→∀ b,bt nm k=some (some b)→π1 k=π b) :
  ∃ ds2 S2 π2,eL S nm o l=some (ds2,S2)∧Ext π π2∧RelVs π2 ds2 as∧RelS π2 Fr S2 s1 ∧
   (∀ b o,S.get b=some o→b∉aW nm→∃ o',S2.get b=some o')∧(∀ b o l x,S.get b=some o→b∉aW nm→π b=some l→l.has x→s1 x=s' x):=by
 let π2:Pi:=fun b=>if b < S.nx then π b else π1 (b-S.nx)
 have lt:∀ b l,π b=some l→b < S.nx:=fun b l hb=>by
  rcases Nat.lt_or_ge b S.nx with h | h
  ·exact h
  ·rw[hS.nx b h]at hb; cases hb
 have hx:Ext π π2:=fun b l hb=>by show(if b < S.nx then π b else _)=_; rw[if_pos (lt _ _ hb)]; exact hb
 have hx1:∀ k l,π1 k=some l→π2 (wr S.nx nm o.ids k)=some l:=fun k l hk=>by
  have other:π2 (S.nx+k)=some l:=by
   show(if S.nx+k < S.nx then π _ else π1 (S.nx+k-S.nx))=_;rw[if_neg (by omega),Nat.add_sub_cancel_left]; exact hk
  unfold wr;split
  ·rename_i b ha hb;rw[hid k ha b hb]at hk;exact hx _ _ hk
  ·exact other
 unfold fillSt at hf;split at hf
 ·rename_i ds1 l1 hv;split at hf
  ·rename_i os1 ho;cases hf;obtain⟨ds2,g1,g2⟩:=dN (ρ0:=fun k=>k) hx1 o.st.vals hv hr;have hkeys:b6 (os.map (·.1))=true:=by rw[gU ho]; exact hnd
   have hO:∀ b x,(b,x)∈os→ObR π1 s1 b x:=fun b x hb=>h1.obj b x (names_fnd hkeys hb);obtain⟨os2,g3,g4⟩:=mH (ρ0:=fun k=>k) hx1 o.st.objs ho hO;refine⟨ds2,⟨S.nx+o.q,ky (gk S (aW nm)).m os2⟩,π2,?_,hx,g2,?_,?_,?_⟩
   ·simp only[eL,fillSt,g1,g3]
   ·have inv:∀ b x,bt (ky (gk S (aW nm)).m os2) b=some x→(∃ k y,b=wr S.nx nm o.ids k∧(k,y)∈os∧ObR π2 s1 b x)∨(S.get b=some x∧b∉aW nm):=fun b x hb=>by
     rcases mJ os2 hb with h | h
     ·obtain⟨k,y,q1,q2,q3⟩:=g4 b x h; exact .inl ⟨k,y,q1,q2,q3⟩
     ·have h:(gk S (aW nm)).get b=some x:=h;rw[jf]at h;split at h
      ·cases h
      ·rename_i hn; exact .inr ⟨h,hn⟩
    have old:∀ b x l b',S.get b=some x→b∉aW nm→π b=some l→l.has b'→s1 b'=s' b':=fun b x l b' hb hn hp hh=>by
     have e:=jI hS live hb hn hp hh;cases hs:s' b' with
     | none=>exact absurd hs ((hS.obj _ _ hb).some'' hp hh)
     | some z=>rw[hs]at e; exact h1.frm _ _ e
    have p2:∀ b x l,S.get b=some x→π2 b=some l→π b=some l:=fun b x l hb hp=>by
     obtain⟨lc,hl⟩:=(hS.obj _ _ hb).loc;have:=hx _ _ hl;rw[hp]at this; cases this; exact hl
    have p1:∀ k y l,(k,y)∈os→π2 (wr S.nx nm o.ids k)=some l→π1 k=some l:=fun k y l hk hp=>by
     obtain⟨lc,hl⟩:=(hO _ _ hk).loc;have:=hx1 _ _ hl;rw[hp]at this; cases this; exact hl
    refine⟨fun b x hb=>?_,fun b1 b2 x1 x2 l1 l2 y hb1 hb2 hp1 hp2 hh1 hh2=>?_,fun b' x h=>h1.frm _ _ (lP hS live h),fun b x l y hb hp hh=>?_,fun b hb=>?_⟩
    ·rcases inv b x hb with⟨k,y,_,_,h⟩ | ⟨h,hn⟩
     ·exact h
     ·exact(hS.obj _ _ h).mono hx fun l y hp hh=>old b x l y h hn hp hh
    ·rcases inv _ _ hb1 with⟨k1,y1,rfl,m1,_⟩ | ⟨q1,q2⟩ <;> rcases inv _ _ hb2 with⟨k2,y2,rfl,m2,_⟩ | ⟨q3,q4⟩
     ·rw[h1.inj' k1 k2 y1 y2 l1 l2 y (names_fnd hkeys m1) (names_fnd hkeys m2) (p1 _ _ _ m1 hp1) (p1 _ _ _ m2 hp2) hh1 hh2]
     ·have e1:=h1.out' k1 y1 l1 y (names_fnd hkeys m1) (p1 _ _ _ m1 hp1) hh1;have e2:=p2 _ _ _ q3 hp2;rw[jI hS live q3 q4 e2 hh2]at e1;exact absurd e1 ((hS.obj _ _ q3).some'' e2 hh2)
     ·have e1:=h1.out' k2 y2 l2 y (names_fnd hkeys m2) (p1 _ _ _ m2 hp2) hh2;have e2:=p2 _ _ _ q1 hp1;rw[jI hS live q1 q2 e2 hh1]at e1;exact absurd e1 ((hS.obj _ _ q1).some'' e2 hh1)
     ·exact hS.inj' _ _ _ _ _ _ _ q1 q3 (p2 _ _ _ q1 hp1) (p2 _ _ _ q3 hp2) hh1 hh2
    ·rcases inv _ _ hb with⟨k,z,rfl,m1,_⟩ | ⟨h,hn⟩
     ·have e1:=h1.out' k z l y (names_fnd hkeys m1) (p1 _ _ _ m1 hp) hh;cases hfr:Fr y with
      | none=>rfl
      | some w=>rw[lP hS live hfr]at e1; cases e1
     ·exact hS.out' _ _ _ _ h (p2 _ _ _ h hp) hh
    ·have hb:S.nx+o.q≤b:=hb;show(if b < S.nx then π b else π1 (b-S.nx))=none;rw[if_neg (by omega)];exact h1.nx _ (by show o.q≤b-S.nx; omega)
   ·intro b x hb hn;have:(gk S (aW nm)).get b=some x:=by rw[jf,if_neg hn]; exact hb
    exact lf os2 this
   ·intro b x l y hb hn hp hh;have e:=jI hS live hb hn hp hh;cases hs:s' y with
    | none=>exact absurd hs ((hS.obj _ _ hb).some'' hp hh)
    | some z=>rw[hs]at e; exact h1.frm _ _ e
  ·cases hf
 ·cases hf
end
end Go.Proofs.Ytjoncejabdjekaa.D

set_option linter.unusedVariables false
set_option linter.unusedSectionVars false
set_option linter.unusedSimpArgs false
namespace Go.Proofs.Ytjoncejabdjekaa.D
open Go Go.Proofs.Ytjoncejabdjekaa.L
variable [YP]
def In (π:Pi)(Fr:Store)(sh:FSh)(x:dens sh.ts)(as:List AV)(s':Store):Prop:=
 ∃ ds os,fillSt (fun k=>k) sh.ins (ofDens sh.ts x)=some (ds,os)∧RelVs π ds as∧RelS π Fr ⟨sh.m,os⟩ s'
def Ot (π π1:Pi)(Fr:Store)(o:OutSh)(r:dens o.ts)(v:AV)(s1:Store):Prop:=
 ∃ d os,fillSt (fun k=>k) o.st (ofDens o.ts r)=some ([d],os)∧b6 (o.st.objs.map (·.1))=true∧RelV π1 d v∧RelS π1 Fr ⟨o.q,os⟩ s1∧∀ k,o.ids.any (Nat.beq k)=true→π1 k=π k
def DC (P:Program)(f:FuncId)(sh:FSh)(F:dens sh.ts→Option (dens sh.out.ts)):Prop:=
 (f≠YB→lY P f)∧∀ x r,F x=some r→∀ π Fr as s',In π Fr sh x as s'→AC P f as s' (fun v s1=>∃ π1,Ot π π1 Fr sh.out r v s1)
def rG:Store:=fun _=>none
def iP (s s2:Store):Store:=fun b=>match s2 b with
 | some x=>some x
 | none=>s b
theorem sQ:own rG=fun _=>False:=by funext b; simp[own,rG]
theorem zF {P:Program}{f:FuncId}{as asv:List AV}{s:Store}{Q:AV→Store→Prop}(h:AC P f asv rG Q)(hv:∀ w vs,St s w→qW (own s) w as vs→qW (fun _=>False) w asv vs)
  (g1:∀ r s2,Q r s2→∀ o o' w v,RV o w r v→RV o' w r v) (g2:∀ r s2,Q r s2→∀ b x,s2 b=some x→∀ o o' w,ObjR o w b x→ObjR o' w b x):AC P f as s (fun r s1=>∃ s2,Q r s2∧s1=iP s s2∧∀ b x,s2 b=some x→s b=none):=by
 refine⟨h.1,fun vs w hs ha=>?_⟩;refine(h.2 vs w (fun b x hb=>by cases hb) (by rw[sQ]; exact hv w vs hs ha)).mono ?_;rintro en w' ⟨v,r,s2,rfl,hQ,hs2,hr,hm⟩;have hno:∀ b,¬ own rG b:=fun b hb=>hb rfl;have grow:∀ b,own (iP s s2) b→own s b∨w.heap.size≤b:=fun b hb=>by
  cases hc:s2 b with
  | some x=>
   rcases hm.grow b (by unfold own; rw[hc]; simp)with h | h
   ·exact absurd h (hno b)
   ·exact .inr h
  | none=>left; unfold own iP at hb; rw[hc]at hb; exact hb
 have hmv:Mv (own s) (own (iP s s2)) w w':=⟨hm.os,hm.tape,hm.output,hm.size,fun b hb _=>hm.block b hb (hno b),grow⟩
 have hnew:∀ b x,s2 b=some x→s b=none:=fun b x hb=>by
  cases hc:s b with
  | none=>rfl
  | some y=>
   have h1:=(hs b y hc).lt;rcases hm.grow b (by unfold own; rw[hb]; simp)with h | h
   ·exact absurd h (hno b)
   ·omega
 refine⟨v,r,iP s s2,rfl,⟨s2,hQ,rfl,hnew⟩,fun b x hb=>?_,g1 r s2 hQ _ _ _ _ hr,hmv⟩;unfold iP at hb;cases hc:s2 b with
 | some y=>rw[hc]at hb; cases hb; exact g2 r s2 hQ b _ hc _ _ _ (hs2 b _ hc)
 | none=>
  rw[hc]at hb;exact(hs b x hb).mv hmv (hm.block b (hs b x hb).lt (hno b))
theorem Fg {P:Program}{f:FuncId}{as:List AV}{s:Store}{Q Q':AV→Store→Prop}(h:AC P f as s Q)(hq:∀ r s1,Q r s1→∃ s2,Sub s2 s1∧Q' r s2):AC P f as s Q':=by
 refine⟨h.1,fun vs w hs hv=>(h.2 vs w hs hv).mono ?_⟩;rintro en w' ⟨v,r,s1,h1,h2,h3,h4,h5⟩;obtain⟨s2,g1,g2⟩:=hq r s1 h2;have hm:=Mv.less (fun b (hb:own s2 b)=>g1.own hb) w';exact⟨v,r,s2,h1,g2,g1.st h3,h4.mv hm,h5.trans hm⟩
section
variable {π:Pi} {Fr:Store} {S:DSt} {s':Store}
def SV (s':Store)(a av:AV):Prop:=∀ w v,St s' w→RV (own s') w a v→RV (fun _=>False) w av v
def vr (s':Store):List AV→List AV→Prop
 | [],[]=>True
 | a::l,b::m=>SV s' a b∧vr s' l m
 | _,_=>False
theorem sR {o:Nat→Prop}{w:World}{a:AV}{v:Value}(h:RV o w a v):RV (fun _=>False) w a v:=h.mv (Mv.less (fun _ h=>h.elim) w)
theorem dy (a:AV):SV s' a a:=fun w v _ h=>sR h
theorem cH:∀ {l m:List AV},vr s' l m→m.length=l.length
 | [],[],_=>rfl
 | a::l,b::m,h=>by simp[cH h.2]
 | [],_::_,h=>h.elim
 | _::_,[],h=>h.elim
theorem kD:∀ {l m:List AV} {j:Nat},vr s' l m→j < l.length→SV s' (at_ l j) (at_ m j)
 | a::l,b::m,0,h,_=>h.1
 | a::l,b::m,j+1,h,hj=>by
  have:=kD (j:=j) h.2 (by simpa using hj)
  simpa [at_]using this
 | [],_,j,_,hj=>by simp at hj
 | _::_,[],_,h,_=>h.elim
theorem sS:∀ {l m l' m':List AV},vr s' l m→vr s' l' m'→vr s' (l++l') (m++m')
 | [],[],_,_,_,h=>h
 | a::l,b::m,_,_,h,k=>⟨h.1,sS h.2 k⟩
 | [],_::_,_,_,h,_=>h.elim
 | _::_,[],_,_,h,_=>h.elim
theorem wC {l m:List AV}(h:vr s' l m):SV s' (.agg l) (.agg m):=fun w v hs hv=>by
 obtain⟨vs,rfl,h1,h2⟩:=ii hv;exact .agg _ vs (by rw[cH h]; exact h1) fun j hj=>kD h (by rw[← cH h]; exact hj) w _ hs (h2 j (by rw[← cH h]; exact hj))
theorem Fh {l m:List AV}(h:vr s' l m):SV s' (.tup l) (.tup m):=fun w v hs hv=>by
 obtain⟨vs,rfl,h1,h2⟩:=lz hv;exact .tup _ vs (by rw[cH h]; exact h1) fun j hj=>kD h (by rw[← cH h]; exact hj) w _ hs (h2 j (by rw[← cH h]; exact hj))
theorem G4 {f:FuncId}{l m:List AV}(h:vr s' l m):SV s' (.fn f l) (.fn f m):=fun w v hs hv=>by
 obtain⟨vs,rfl,h1,h2⟩:=rc hv;exact .fn _ _ vs (by rw[cH h]; exact h1) fun j hj=>kD h (by rw[← cH h]; exact hj) w _ hs (h2 j (by rw[← cH h]; exact hj))
theorem od (hS:RelS π Fr S s'){t:Ty}{d:DV}{x:t.den}{a:AV}(h:pa (some S) t d=some x)(k:RelV π d a):∃ av,CR t x [av]∧SV s' a av:=by
 unfold pa at h;split at h
 ·rename_i t' y;split at h
  ·rename_i he; subst he; cases h; exact⟨a,by simpa only[RelV]using k,dy a⟩
  ·cases h
 ·split at h
  ·cases h; simp only[RelV]at k; subst k; exact⟨.emp,.inl ⟨rfl,rfl⟩,dy _⟩
  ·cases h
 ·rename_i b;cases t with
  | sl t0=>
   simp only at h;split at h
   ·rename_i T t' l hb;split at h
    ·rename_i he; subst he; cases h;simp only[RelV]at k;rcases hS.obj _ _ hb with⟨g1,rfl⟩ | ⟨b2,c2,xs,hp2,hcap,hs,hr⟩
     ·rcases k with⟨b',c,m,hp,rfl⟩ | ⟨hp,rfl⟩
      ·rw[g1]at hp; cases hp
      ·exact⟨.emp,.inl ⟨rfl,rfl⟩,dy _⟩
     ·rcases k with⟨b',c,m,hp,rfl⟩ | ⟨hp,_⟩
      ·rw[hp2]at hp; cases hp;refine⟨.lst t'.w l.length (fun i=>xs.getD i []),.inr ⟨_,rfl,hr.2⟩,fun w v hw hv=>?_⟩;have hfrz:oY (.row T t'.w c2 xs):=fun l2 hl a ha=>by
        obtain⟨i,hi,rfl⟩:=List.getElem_of_mem hl;have:=hr.2 i (by rw[← hr.1]; exact hi);rw[List.getD_eq_getElem?_getD,List.getElem?_eq_getElem hi]at this;exact bP this a ha
       have:=la (D:=[]) hs hfrz hw hv;simp only[fv,if_true]at this;rw[if_pos ⟨by rw[hr.1]; exact Nat.le_refl _,hcap⟩]at this;exact sR this
      ·rw[hp2]at hp; cases hp
    ·cases h
   ·cases h
  | _=>simp at h
 ·rename_i b kk p m;cases t with
  | sl t0=>
   simp only at h;split at h
   ·rename_i T t' l hb;split at h
    ·rename_i he; subst he;cases hc:Nat.beq kk t'.w with
     | false=>rw[hc]at h; cases h
     | true=>
      rw[hc]at h; cases h;obtain rfl:=ai.1 hc;simp only[RelV]at k;obtain⟨b',c,N,hp,hle,rfl⟩:=k;rcases hS.obj _ _ hb with⟨g1,rfl⟩ | ⟨b2,c2,xs,hp2,hcap,hs,hr⟩
      ·rw[g1]at hp; cases hp
      ·rw[hp2]at hp; cases hp;have hsub:=sO hr hle;have hlen:((l.drop p).take m).length=m:=by simp; omega
       refine⟨.lst t'.w m (fun i=>((xs.drop p).take m).getD i []),.inr ⟨_,by rw[hlen],hsub.2⟩,fun w v hw hv=>?_⟩;obtain⟨ad,cc,e1,e2,e3⟩:=f7 hv;subst e1;rcases Nat.eq_zero_or_pos m with h0 | h0
       ·subst h0; exact .fz _ _ (.lst0 _ _ _ _)
       ·have e3:=e3 h0;subst e3;obtain⟨vs,f1,f2,f3,f3',f4,f5⟩:=hw _ _ hs;have hxl:xs.length=l.length:=hr.1;have hg:∀ i,i < m→((xs.drop p).take m).getD i []=xs.getD (p+i) []:=fun i hi=>by
         simp only[List.getD_eq_getElem?_getD,List.getElem?_take,List.getElem?_drop]; rw[if_pos hi]
        refine .fz _ _ (.lst _ _ _ _ _ (fun i j=>vs.getD ((p+i)*t'.w+j) Go.undef) h0 e2 rfl (fun h=>h) (hw _ _ hs).lt (fun i j hi hj=>?_) (fun i hi=>?_) fun i j hi hj=>?_)
        ·have hlt:(p+i)*t'.w+j < vs.size:=by
          rw[f2];have:(p+i+1)*t'.w≤c*t'.w:=Nat.mul_le_mul_right _ (by omega);rw[Nat.add_mul (p+i) 1]at this;omega
         rw[cr,cell_of_row w b' _ vs T (0,0) f1];have e:p*t'.w+(i*t'.w+j)=(p+i)*t'.w+j:=by rw[Nat.add_mul]; omega
         rw[e]
         simp[Array.getD_eq_getD_getElem?,hlt]
        ·rw[hg i hi]; exact f4 _ (by omega)
        ·rw[hg i hi];have hR:=(f5 (p+i) j (by omega) hj).1;have hcr:=hr.2 (p+i) (by omega);have hj':j < (xs.getD (p+i) []).length:=by rw[f4 _ (by omega)]; exact hj
         exact FV.of_frz (sR hR) (bP hcr _ (i7 hj'))
    ·cases h
   ·cases h
  | _=>simp at h
 ·rename_i b i;cases t with
  | sl t0=>
   simp only at h;split at h
   ·rename_i T T' t' l hb;split at h
    ·rename_i he; subst he; cases h;simp only[RelV]at k;obtain⟨b',c,n,f,hp,hi,rfl⟩:=k;rcases hS.obj _ _ hb with⟨g1,_⟩ | ⟨b2,c2,f2,hp2,hR⟩
     ·rw[g1]at hp; cases hp
     ·rw[hp2]at hp; cases hp;have hI:=hR.ir i hi;cases hf:f i with
      | none=>
       rw[hf]at hI;rw[show l.getD i []=[]from hI];exact⟨.emp,.inl ⟨rfl,rfl⟩,dy _⟩
      | some q=>
       obtain⟨b3,c3,n3⟩:=q;rw[hf]at hI;obtain⟨rfl,hc3,ys,hs,hr⟩:=hI;refine⟨.lst t'.w (l.getD i []).length (fun j=>ys.getD j []),.inr ⟨_,rfl,hr.2⟩,fun w v hw hv=>?_⟩;have hfrz:oY (.row T' t'.w c3 ys):=fun l2 hl a ha=>by
        obtain⟨j,hj,rfl⟩:=List.getElem_of_mem hl;have:=hr.2 j (by rw[← hr.1]; exact hj);have e:ys.getD j []=ys[j]:=by simp[List.getD_eq_getElem?_getD,List.getElem?_eq_getElem hj]
        rw[e]at this;exact bP this a ha
       have:=la (D:=[]) hs hfrz hw hv;simp only[ilv,fv,if_true]at this;rw[if_pos ⟨by rw[hr.1]; exact Nat.le_refl _,hc3⟩]at this;exact sR this
    ·cases h
   ·cases h
  | _=>simp at h
 ·cases h
theorem mK (hS:RelS π Fr S s'):∀ {t:Ty} {ds:List DV} {x:t.den} {rest:List DV} {as:List AV},pb (some S) t ds=some (x,rest)→RelVs π ds as→∃ c as' cv,as=c++as'∧CR t x cv∧vr s' c cv∧RelVs π rest as'
 | .pair a b,ds,x,rest,as,h,k=>by
  simp only[pb]at h;split at h
  ·rename_i y ds1 h1;split at h
   ·rename_i z ds2 h2;cases h;obtain⟨c1,as1,v1,rfl,g1,s1,k1⟩:=mK hS h1 k;obtain⟨c2,as2,v2,rfl,g2,s2,k2⟩:=mK hS h2 k1;exact⟨c1++c2,as2,v1++v2,by simp,⟨v1,v2,rfl,g1,g2⟩,sS s1 s2,k2⟩
   ·cases h
  ·cases h
 | .es _,ds,x,rest,as,h,k=>by simp[pb]at h
 | .opt _,[],x,rest,as,h,k=>by simp[pb]at h
 | .opt t,d::ds,x,rest,as,h,k=>by
  simp only[pb]at h;simp only[RelVs]at k;obtain⟨a,as',rfl,k1,k2⟩:=k;split at h
  ·rename_i es;split at h
   ·rename_i y hy;cases h;simp only[RelV]at k1;obtain⟨bs,rfl,k1⟩:=k1;obtain⟨c,r,rfl,g,g2⟩:=kB hy k1;simp only[RelVs]at g2; subst g2;refine⟨[.elm c],as',[.elm c],by simp,.inr ⟨y,c,rfl,rfl,g⟩,⟨dy _,trivial⟩,k2⟩
   ·cases h
  ·cases h;simp only[RelV]at k1; subst k1;exact⟨[.nilp],as',[.nilp],rfl,.inl ⟨rfl,rfl⟩,⟨dy _,trivial⟩,k2⟩
  ·split at h
   ·rename_i y hy;cases h;obtain⟨av,q1,q2⟩:=od hS hy k1;exact⟨[a],as',[av],rfl,q1,⟨q2,trivial⟩,k2⟩
   ·cases h
 | .int _,[],x,rest,as,h,k | .bool,[],x,rest,as,h,k | .str,[],x,rest,as,h,k | .sl _,[],x,rest,as,h,k=>by simp[pb]at h
 | .int _,d::ds,x,rest,as,h,k | .bool,d::ds,x,rest,as,h,k | .str,d::ds,x,rest,as,h,k | .sl _,d::ds,x,rest,as,h,k=>by
  simp only[pb]at h;split at h
  ·rename_i y hy;cases h;simp only[RelVs]at k;obtain⟨a,as',rfl,k1,k2⟩:=k;obtain⟨av,q1,q2⟩:=od hS hy k1;exact⟨[a],as',[av],rfl,q1,⟨q2,trivial⟩,k2⟩
  ·cases h
theorem gV (hS:RelS π Fr S s'){t:Ty}{ds:List DV}{x:t.den}{as:List AV}(h:ct (some S) t ds=some x)(k:RelVs π ds as):∃ cv,CR t x cv∧vr s' as cv:=by
 unfold ct at h;split at h
 ·rename_i y hy;cases h;obtain⟨c,as',cv,rfl,g,g2,k'⟩:=mK hS hy k;simp only[RelVs]at k';subst k';exact⟨cv,g,by simpa using g2⟩
 ·cases h
variable {π0:Pi}
mutual
theorem wD (hS:RelS π Fr S s'):∀ (r:RSh) {d:DV} {nm:Nm} {l:List Leaf} {a:AV},ca (some S) r d nm=some (l,[])→RelV π d a →
  nm=[]∧∃ av,SV s' a av∧∀ rest,∃ d2,fillV (fun k=>k) r (l++rest)=some (d2,rest)∧RelV π0 d2 av
 | .v t,d,nm,l,a,h,hr=>by
  simp only[ca]at h;split at h
  ·rename_i x hx;cases h;obtain⟨cv,q1,q2⟩:=gV hS hx (aQ hr);cases cv with
   | nil=>exact q2.elim
   | cons av cv=>
    cases cv with
    | nil=>exact⟨rfl,av,q2.1,fun rest=>⟨.v ⟨t,x⟩,by simp[fillV],by simp only[RelV]; exact q1⟩⟩
    | cons _ _=>exact q2.2.elim
  ·cases h
 | .st t,d,nm,l,a,h,hr=>by
  cases d with
  | agg ds=>
   simp only[ca]at h;split at h
   ·rename_i x hx;cases h;simp only[RelV]at hr;obtain⟨as,rfl,hr⟩:=hr;obtain⟨cv,q1,q2⟩:=gV hS hx hr;exact⟨rfl,.agg cv,wC q2,fun rest=>⟨.agg (bc t x),by simp[fillV],by simp only[RelV]; exact⟨cv,rfl,bi q1⟩⟩⟩
   ·cases h
  | _=>simp[ca]at h
 | .elm t,d,nm,l,a,h,hr=>by
  cases d with
  | elm ds=>
   simp only[ca]at h;split at h
   ·rename_i x hx;cases h;simp only[RelV]at hr;obtain⟨as,rfl,hr⟩:=hr;exact⟨rfl,.elm as,dy _,fun rest=>⟨.elm (bc t x),by simp[fillV],by simp only[RelV]; exact⟨as,rfl,bi (bF hx hr)⟩⟩⟩
   ·cases h
  | ptr b o=>
   cases o with
   | succ o=>simp[ca]at h
   | zero=>
    simp only[ca]at h;split at h
    ·rename_i cs hb;split at h
     ·rename_i x hx;cases h;simp only[RelV]at hr;obtain⟨b',c,n,hp,rfl⟩:=hr;obtain⟨b2,c2,n2,as,hp2,hs,hv⟩:=hS.obj _ _ hb;rw[hp]at hp2; cases hp2;obtain⟨cv,q1,q2⟩:=gV hS hx hv;refine⟨rfl,.elm cv,fun w v hw hrv=>?_,fun rest=>⟨.elm (bc t x),by simp[fillV],by simp only[RelV]; exact⟨cv,rfl,bi q1⟩⟩⟩;rw[dR hrv];have hlen:=cH q2;refine .fz _ _ (.elm cv _ (fun j=>(w.cell? ⟨b',0+j,none⟩).getD Go.undef) rfl (fun h=>h) (hw b' _ hs).lt (fun j hj=>?_) (fun j hj=>?_))
      ·obtain⟨u,h1,h2⟩:=eH (hw _ _ hs) (j:=0+j) (by omega);rw[cr,h1]; rfl
      ·obtain⟨u,h1,h2⟩:=eH (hw _ _ hs) (j:=0+j) (by omega);rw[h1];rw[Nat.zero_add]at h2;exact FV.of_frz (kD q2 (by omega) w u hw h2) (bP q1 _ (i7 hj))
     ·cases h
    ·cases h
  | _=>simp[ca]at h
 | .ptr k o,d,nm,l,a,h,hr=>by
  cases d with
  | ptr b o'=>
   simp only[ca]at h;cases hc:Nat.beq o o' with
   | false=>rw[hc]at h; cases h
   | true=>
    rw[hc]at h;simp only[cond_true]at h;split at h
    ·rename_i nm1 hb;cases h;have:=(aV hb).2;cases this
    ·cases h
  | _=>simp[ca]at h
 | .slc k,d,nm,l,a,h,hr=>by
  cases d with
  | slc b=>
   simp only[ca]at h;split at h
   ·rename_i nm1 hb;cases h;have:=(aV hb).2;cases this
   ·cases h
  | emp=>
   simp only[ca]at h;split at h
   ·rename_i nm1 hb;cases h;have:=(iq hb).2;cases this
   ·cases h
  | _=>simp[ca]at h
 | .slo k w,d,nm,l,a,h,hr=>by
  cases d with
  | slo b w' o m=>
   simp only[ca]at h;cases hc:Nat.beq w w' with
   | false=>rw[hc]at h; cases h
   | true=>
    rw[hc]at h;simp only[cond_true]at h;split at h
    ·rename_i nm1 hb;cases h;have:=(aV hb).2;cases this
    ·cases h
  | _=>simp[ca]at h
 | .aptr k w,d,nm,l,a,h,hr=>by
  cases d with
  | rptr b w' i j=>
   cases i with
   | succ i=>simp[ca]at h
   | zero=>
    cases j with
    | succ j=>simp[ca]at h
    | zero=>
     simp only[ca]at h;cases hc:Nat.beq w w' with
     | false=>rw[hc]at h; cases h
     | true=>
      rw[hc]at h
      try simp only[cond_true]at h
      split at h
      ·rename_i nm1 hb;cases h;have:=(aV hb).2;cases this
      ·cases h
  | _=>simp[ca]at h
 | .mp k,d,nm,l,a,h,hr=>by
  cases d with
  | mp b=>
   simp only[ca]at h;split at h
   ·rename_i nm1 hb;cases h;have:=(aV hb).2;cases this
   ·cases h
  | _=>simp[ca]at h
 | .slr k,d,nm,l,a,h,hr=>by
  cases d with
  | slr b=>
   simp only[ca]at h;split at h
   ·rename_i nm1 hb;cases h;have:=(aV hb).2;cases this
   ·cases h
  | emp=>
   simp only[ca]at h;split at h
   ·rename_i nm1 hb;cases h;have:=(iq hb).2;cases this
   ·cases h
  | _=>simp[ca]at h
 | .irow k,d,nm,l,a,h,hr=>by
  cases d with
  | irow b i=>
   simp only[ca]at h;split at h
   ·rename_i nm1 hb;cases h;have:=(aV hb).2;cases this
   ·cases h
  | _=>simp[ca]at h
 | .pel k,d,nm,l,a,h,hr=>by
  cases d with
  | pel b key o=>
   cases o with
   | succ o=>simp[ca]at h
   | zero=>
    simp only[ca]at h;split at h
    ·rename_i nm1 hb;cases h;have:=(aV hb).2;cases this
    ·cases h
  | _=>simp[ca]at h
 | .mpl k,d,nm,l,a,h,hr=>by
  cases d with
  | mpl b=>
   simp only[ca]at h;split at h
   ·rename_i nm1 hb;cases h;have:=(aV hb).2;cases this
   ·cases h
  | _=>simp[ca]at h
 | .nilp,d,nm,l,a,h,hr=>by
  cases d with
  | nilp=>simp only[ca]at h; cases h; exact⟨rfl,a,dy _,fun rest=>⟨.nilp,by simp[fillV],by simp only[RelV]at hr ⊢; exact hr⟩⟩
  | _=>simp[ca]at h
 | .nilm,d,nm,l,a,h,hr=>by
  cases d with
  | nilm=>simp only[ca]at h; cases h; exact⟨rfl,a,dy _,fun rest=>⟨.nilm,by simp[fillV],by simp only[RelV]at hr ⊢; exact hr⟩⟩
  | _=>simp[ca]at h
 | .emp,d,nm,l,a,h,hr=>by
  cases d with
  | emp=>simp only[ca]at h; cases h; exact⟨rfl,a,dy _,fun rest=>⟨.emp,by simp[fillV],by simp only[RelV]at hr ⊢; exact hr⟩⟩
  | _=>simp[ca]at h
 | .any,d,nm,l,a,h,hr=>by
  have h':some (([]:List Leaf),nm)=some (l,[]):=by cases d <;> simpa only[ca]using h
  cases h';exact⟨rfl,a,dy _,fun rest=>⟨.undef,by simp[fillV],by simp only[RelV]⟩⟩
 | .agg rs,d,nm,l,a,h,hr=>by
  cases d with
  | agg ds=>
   simp only[ca]at h;simp only[RelV]at hr;obtain⟨as,rfl,hr⟩:=hr;obtain⟨g1,avs,g2,g3⟩:=fK hS rs h hr;refine⟨g1,.agg avs,wC g2,fun rest=>?_⟩;obtain⟨ds2,k1,k2⟩:=g3 rest;exact⟨.agg ds2,by simp[fillV,k1],by simp only[RelV]; exact⟨avs,rfl,k2⟩⟩
  | _=>simp[ca]at h
 | .tup rs,d,nm,l,a,h,hr=>by
  cases d with
  | tup ds=>
   simp only[ca]at h;simp only[RelV]at hr;obtain⟨as,rfl,hr⟩:=hr;obtain⟨g1,avs,g2,g3⟩:=fK hS rs h hr;refine⟨g1,.tup avs,Fh g2,fun rest=>?_⟩;obtain⟨ds2,k1,k2⟩:=g3 rest;exact⟨.tup ds2,by simp[fillV,k1],by simp only[RelV]; exact⟨avs,rfl,k2⟩⟩
  | _=>simp[ca]at h
 | .fn f rs,d,nm,l,a,h,hr=>by
  cases d with
  | fn f' ds=>
   simp only[ca]at h;cases hc:Nat.beq f f' with
   | false=>rw[hc]at h; cases h
   | true=>
    rw[hc]at h;obtain rfl:=ai.1 hc;cases hne:Nat.beq f YB with
    | true=>simp only[cond_true,Option.isSome_some,Bool.true_and,hne]at h; cases h
    | false=>
    simp only[cond_true,Option.isSome_some,Bool.true_and,hne,cond_false]at h;simp only[RelV]at hr;obtain⟨as,rfl,hr⟩:=hr;obtain⟨g1,avs,g2,g3⟩:=fK hS rs h hr;refine⟨g1,.fn f avs,by rw[mA hne]; exact G4 g2,fun rest=>?_⟩;obtain⟨ds2,k1,k2⟩:=g3 rest;exact⟨.fn f ds2,by simp[fillV,k1],by simp only[RelV]; exact⟨avs,(mA hne).symm,k2⟩⟩
  | _=>simp[ca]at h
theorem fK (hS:RelS π Fr S s'):∀ (rs:List RSh) {ds:List DV} {nm:Nm} {l:List Leaf} {as:List AV},iD (some S) rs ds nm=some (l,[])→RelVs π ds as →
  nm=[]∧∃ avs,vr s' as avs∧∀ rest,∃ ds2,fillVs (fun k=>k) rs (l++rest)=some (ds2,rest)∧RelVs π0 ds2 avs
 | [],ds,nm,l,as,h,hr=>by
  cases ds with
  | nil=>
   simp only[iD]at h;cases h;simp only[RelVs]at hr; subst hr;exact⟨rfl,[],trivial,fun rest=>⟨[],by simp[fillVs],RelVs_nil⟩⟩
  | cons d ds=>simp[iD]at h
 | r::rs,ds,nm,l,as,h,hr=>by
  cases ds with
  | nil=>simp[iD]at h
  | cons d ds=>
   simp only[iD]at h;simp only[RelVs]at hr;obtain⟨a,as',rfl,hr1,hr2⟩:=hr;split at h
   ·rename_i l1 nm1 h1;split at h
    ·rename_i l2 nm2 h2;cases h;obtain⟨g1,avs,g2,g3⟩:=fK hS rs h2 hr2;subst g1;obtain⟨g4,av,g5,g6⟩:=wD hS r h1 hr1;refine⟨g4,av::avs,⟨g5,g2⟩,fun rest=>?_⟩;obtain⟨d2,k1,k2⟩:=g6 (l2++rest);obtain⟨ds2,k3,k4⟩:=g3 rest;exact⟨d2::ds2,by simp only[fillVs,List.append_assoc,k1,k3],RelVs_cons k2 k4⟩
    ·cases h
   ·cases h
end
end
def pt:Ty→Bool
 | .int _ | .bool | .str=>true
 | .pair a b=>pt a&&pt b
 | _=>false
mutual
def jJ:RSh→Bool
 | .v t | .st t=>pt t
 | .slc _ | .emp | .nilp=>true
 | .agg rs | .tup rs=>qn rs
 | _=>false
def qn:List RSh→Bool
 | []=>true
 | r::rs=>jJ r&&qn rs
end
def wE:List (Nat×OSh)→Bool
 | []=>true
 | (_,.row _ t)::l=>pt t&&wE l
 | _=>false
def uI (sh:FSh):Bool:=sh.ins.objs.isEmpty&&sh.out.ids.isEmpty&&qn sh.out.st.vals&&wE sh.out.st.objs
def nz (a:AV):Prop:=∀ o o' w v,RV o w a v→RV o' w a v
theorem gW:∀ {t:Ty} {x:t.den} {cs:List AV},pt t=true→CR t x cs→∀ a∈cs,nz a
 | .int _,_,_,_,h,a,ha=>by cases h; simp at ha; subst ha; intro o o' w v hv; rw[aY hv]; exact .fz _ _ (.int _ _)
 | .bool,_,_,_,h,a,ha=>by cases h; simp at ha; subst ha; intro o o' w v hv; rw[dV hv]; exact .fz _ _ (.bool _)
 | .str,_,_,_,h,a,ha=>by cases h; simp at ha; subst ha; intro o o' w v hv; rw[ig hv]; exact .fz _ _ (.str _)
 | .pair a b,x,_,hg,⟨c1,c2,h,h1,h2⟩,c,hc=>by
  subst h;simp only[pt,Bool.and_eq_true]at hg;rcases List.mem_append.1 hc with hc | hc
  ·exact gW hg.1 h1 c hc
  ·exact gW hg.2 h2 c hc
 | .sl _,_,_,hg,_,_,_=>by cases hg
 | .es _,_,_,hg,_,_,_=>by cases hg
 | .opt _,_,_,hg,_,_,_=>by cases hg
theorem qo {l:List AV}(h:∀ a∈l,nz a):nz (.agg l):=fun o o' w v hv=>by
 obtain⟨vs,rfl,h1,h2⟩:=ii hv;exact .agg _ vs h1 fun j hj=>h _ (i7 hj) _ _ _ _ (h2 j hj)
theorem wF {l:List AV}(h:∀ a∈l,nz a):nz (.tup l):=fun o o' w v hv=>by
 obtain⟨vs,rfl,h1,h2⟩:=lz hv;exact .tup _ vs h1 fun j hj=>h _ (i7 hj) _ _ _ _ (h2 j hj)
theorem qp:nz .emp:=fun o o' w v hv=>by obtain⟨a,rfl⟩:=dp hv; exact .fz _ _ (.emp _)
theorem uJ:nz .nilp:=fun o o' w v hv=>by rw[pJ hv]; exact .fz _ _ .nilp
theorem wG (b n c:Nat):nz (.slc b n c):=fun o o' w v hv=>by have h:=rb hv; rw[dS hv]; exact .slc _ _ _ h
section
variable {π:Pi} {ρ:Nat→Nat}
theorem kE:∀ {t:Ty} {x:t.den} {as:List AV},pt t=true→RelVs π (bc t x) as→CR t x as
 | .pair a b,x,as,hg,h=>by
  simp only[pt,Bool.and_eq_true]at hg;simp only[bc]at h;obtain⟨as1,as2,rfl,h1,h2⟩:=gT h;exact⟨as1,as2,rfl,kE hg.1 h1,kE hg.2 h2⟩
 | .es _,x,as,hg,h=>by cases hg
 | .opt _,x,as,hg,h=>by cases hg
 | .sl _,x,as,hg,h=>by cases hg
 | .int _,x,as,hg,h | .bool,x,as,hg,h | .str,x,as,hg,h=>by
  simp only[bc,RelVs]at h;obtain⟨a,as',rfl,g,rfl⟩:=h
  simpa only[RelV]using g
mutual
theorem uK:∀ (r:RSh) {l l':List Leaf} {d:DV} {a:AV},jJ r=true→fillV ρ r l=some (d,l')→RelV π d a→nz a
 | .v t,l,l',d,a,hg,h,hr=>by
  cases l with
  | nil=>simp[fillV]at h
  | cons x l=>
   obtain⟨t',x⟩:=x;simp only[fillV]at h;cases hc:decide (t'=t)with
   | false=>rw[hc]at h; cases h
   | true=>
    rw[hc]at h; cases h;have:=of_decide_eq_true hc; subst this;simp only[RelV]at hr;exact gW hg hr a (by simp)
 | .st t,l,l',d,a,hg,h,hr=>by
  cases l with
  | nil=>simp[fillV]at h
  | cons x l=>
   obtain⟨t',x⟩:=x;simp only[fillV]at h;cases hc:decide (t'=t)with
   | false=>rw[hc]at h; cases h
   | true=>
    rw[hc]at h; cases h;have:=of_decide_eq_true hc; subst this;simp only[RelV]at hr;obtain⟨as,rfl,hr⟩:=hr;exact qo fun a ha=>gW hg (kE hg hr) a ha
 | .slc k,l,l',d,a,hg,h,hr=>by
  simp only[fillV]at h;cases h;simp only[RelV]at hr;rcases hr with⟨b',c,n,hp,rfl⟩ | ⟨hp,rfl⟩
  ·exact wG _ _ _
  ·exact qp
 | .emp,l,l',d,a,hg,h,hr=>by
  simp only[fillV]at h;cases h;simp only[RelV]at hr; subst hr; exact qp
 | .nilp,l,l',d,a,hg,h,hr=>by
  simp only[fillV]at h;cases h;simp only[RelV]at hr; subst hr; exact uJ
 | .agg rs,l,l',d,a,hg,h,hr=>by
  simp only[fillV]at h;split at h
  ·rename_i ds l1 h1;cases h;simp only[RelV]at hr;obtain⟨as,rfl,hr⟩:=hr;exact qo (gu rs hg h1 hr)
  ·cases h
 | .tup rs,l,l',d,a,hg,h,hr=>by
  simp only[fillV]at h;split at h
  ·rename_i ds l1 h1;cases h;simp only[RelV]at hr;obtain⟨as,rfl,hr⟩:=hr;exact wF (gu rs hg h1 hr)
  ·cases h
 | .elm _,_,_,_,_,hg,_,_=>by simp[jJ]at hg
 | .ptr ..,_,_,_,_,hg,_,_=>by simp[jJ]at hg
 | .mp _,_,_,_,_,hg,_,_=>by simp[jJ]at hg
 | .slr _,_,_,_,_,hg,_,_=>by simp[jJ]at hg
 | .irow _,_,_,_,_,hg,_,_=>by simp[jJ]at hg
 | .pel _,_,_,_,_,hg,_,_=>by simp[jJ]at hg
 | .mpl _,_,_,_,_,hg,_,_=>by simp[jJ]at hg
 | .slo ..,_,_,_,_,hg,_,_=>by simp[jJ]at hg
 | .aptr ..,_,_,_,_,hg,_,_=>by simp[jJ]at hg
 | .nilm,_,_,_,_,hg,_,_=>by simp[jJ]at hg
 | .any,_,_,_,_,hg,_,_=>by simp[jJ]at hg
 | .fn ..,_,_,_,_,hg,_,_=>by simp[jJ]at hg
theorem gu:∀ (rs:List RSh) {l l':List Leaf} {ds:List DV} {as:List AV},qn rs=true→fillVs ρ rs l=some (ds,l')→RelVs π ds as→∀ a∈as,nz a
 | [],l,l',ds,as,hg,h,hr=>by
  simp only[fillVs]at h;cases h;simp only[RelVs]at hr; subst hr;intro a ha; cases ha
 | r::rs,l,l',ds,as,hg,h,hr=>by
  simp only[qn,Bool.and_eq_true]at hg;simp only[fillVs]at h;split at h
  ·rename_i d l1 h1;split at h
   ·rename_i ds1 l2 h2;cases h;simp only[RelVs]at hr;obtain⟨a,as',rfl,hr1,hr2⟩:=hr;intro c hc;rcases List.mem_cons.1 hc with rfl | hc
    ·exact uK r hg.1 h1 hr1
    ·exact gu rs hg.2 h2 hr2 c hc
   ·cases h
  ·cases h
end
theorem qq:∀ {os:List (Nat×OSh)} {l l':List Leaf} {xs:List (Nat×DObj)},wE os=true→dv ρ os l=some (xs,l')→∀ b o,(b,o)∈xs→∃ T t y,o = .row T t y∧pt t=true
 | [],l,l',xs,hg,h,b,o,hb=>by cases h; cases hb
 | (k,o0)::os,l,l',xs,hg,h,b,o,hb=>by
  cases o0 with
  | row T t=>
   simp only[wE,Bool.and_eq_true]at hg;simp only[dv]at h;split at h
   ·rename_i x l1 h1;split at h
    ·rename_i xs1 l2 h2;cases h;rcases List.mem_cons.1 hb with e | hb
     ·cases e;unfold cq at h1;split at h1 <;> rename_i he <;> first | (cases he; done) | skip
      ·rename_i t' y l3;cases he;cases hc:decide (t'=t)with
       | false=>rw[hc]at h1; cases h1
       | true=>
        rw[hc]at h1; cases h1;have:=of_decide_eq_true hc; subst this;exact⟨_,_,_,rfl,hg.1⟩
      ·cases h1
     ·exact qq hg.2 h2 b o hb
    ·cases h
   ·cases h
  | _=>simp[wE]at hg
end
end Go.Proofs.Ytjoncejabdjekaa.D

set_option linter.unusedVariables false
set_option linter.unusedSectionVars false
set_option linter.unusedSimpArgs false
namespace Go.Proofs.Ytjoncejabdjekaa.D
open Go Go.Proofs.Ytjoncejabdjekaa.L
variable [YP]
section
variable {π:Pi} {Fr:Store} {S:DSt} {s':Store} {RD:List Nat} {R:Nat→Prop}
theorem mL {RD L:List Nat}(h:mw RD L=true):∀ b∈L,RD.any (Nat.beq b)=false:=by
 induction L with
 | nil=>intro b hb; cases hb
 | cons c L ih=>
  simp only[mw,Bool.and_eq_true,aS,Bool.not_eq_true']at h;intro b hb;rcases List.mem_cons.1 hb with rfl | hb
  ·exact h.1
  ·exact ih h.2 b hb
theorem uL {P:Program}(hS:RelS π Fr S s'){f:FuncId}{sh:FSh}{F:dens sh.ts→Option (dens sh.out.ts)}(hdc:DC P f sh F)(hv:uI sh=true){ds:List DV}{as:List AV}(hr:RelVs π ds as){l:List Leaf}{nm:Nm}
  (hrd:nw (some S) S sh.ins sh.m ds []=some (l,nm)) {x:dens sh.ts} (htd:dH sh.ts l=some x) {y:dens sh.out.ts} (hF:F x=some y) :
  nm=[]∧AC P f as s' fun v s1=>∃ ds2 S2 π2,eL S [] sh.out (ofDens sh.out.ts y)=some (ds2,S2)∧Ext π π2∧RelVs π2 ds2 [v]∧RelS π2 Fr S2 s1 ∧
   (∀ b o,S.get b=some o→∃ o',S2.get b=some o')∧(∀ b o l x,S.get b=some o→π b=some l→l.has x→s1 x=s' x):=by
 simp only[uI,Bool.and_eq_true,List.isEmpty_iff]at hv;obtain⟨⟨⟨v1,v2⟩,v3⟩,v4⟩:=hv;unfold nw at hrd;split at hrd
 ·rename_i l1 nm1 h1;rw[v1]at hrd;simp only[wq]at hrd;cases hc:(b6 (aW nm1)&&(b6 (nm1.map (·.1))&&(gP [] nm1&&(ja sh.m []&&b6 (([]:List (Nat×OSh)).map (·.1))))))with
  | false=>rw[hc]at hrd; cases hrd
  | true=>
   rw[hc]at hrd;cases hrd;simp only[Bool.and_eq_true]at hc;have hnm:nm=[]:=by
    cases nm with
    | nil=>rfl
    | cons p q=>have:=hc.2.2.1; simp[gP]at this
   subst hnm;refine⟨rfl,?_⟩;obtain⟨_,avs,g2,g3⟩:=fK (π0:=fun _=>none) hS sh.ins.vals h1 hr;obtain⟨ds0,k1,k2⟩:=g3 [];have hl:=bj htd;have hin:In (fun _=>none) rG sh x avs rG:=by
    refine⟨ds0,[],?_,k2,⟨fun b o h=>by simp[DSt.get,bt]at h,fun b1 b2 o1 o2 b' c1 n1 c2 n2 h=>by simp[DSt.get,bt]at h,fun _ _ h=>h,fun b o b' c n h=>by simp[DSt.get,bt]at h,fun _ _=>rfl⟩⟩;rw[hl];simp only[List.append_nil]at k1;simp only[fillSt,v1,List.append_nil,k1,dv]
   let Q:AV→Store→Prop:=fun v s2=>∃ π1 d os,fillSt (fun k=>k) sh.out.st (ofDens sh.out.ts y)=some ([d],os)∧b6 (sh.out.st.objs.map (·.1))=true∧RelV π1 d v∧RelS π1 rG ⟨sh.out.q,os⟩ s2 ∧
    ∀ b z,s2 b=some z→∃ k o l,bt os k=some o∧π1 k=some l∧l.has b
   have hQ:AC P f avs rG Q:=Fg (hdc.2 x y hF _ _ _ _ hin) fun v s1 ⟨π1,d,os,p1,p2,p3,p4,p5⟩=>by
    classical
    let s2:Store:=fun b=>if ∃ k o l,bt os k=some o∧π1 k=some l∧l.has b then s1 b else none
    have yes:∀ b,(∃ k o l,bt os k=some o∧π1 k=some l∧l.has b)→s2 b=s1 b:=fun b hk=>by show(if _ then _ else _)=_; rw[if_pos hk]
    have no:∀ b,¬ (∃ k o l,bt os k=some o∧π1 k=some l∧l.has b)→s2 b=none:=fun b hk=>by show(if _ then _ else _)=_; rw[if_neg hk]
    refine⟨s2,fun b=>?_,π1,d,os,p1,p2,p3,⟨fun b o hb=>?_,p4.inj',fun b' x h=>(by cases h),fun b o l x hb hp hh=>rfl,p4.nx⟩,fun b z hb=>?_⟩
    ·by_cases hk:∃ k o l,bt os k=some o∧π1 k=some l∧l.has b
     ·exact .inr (yes b hk)
     ·exact .inl (no b hk)
    ·exact(p4.obj b o hb).mono (Ext.refl _) fun l x hp hh=>yes x ⟨b,o,l,hb,hp,hh⟩
    ·by_cases hk:∃ k o l,bt os k=some o∧π1 k=some l∧l.has b
     ·exact hk
     ·rw[no b hk]at hb; cases hb
   refine fY ?_ (zF hQ (fun w vs hs ha=>⟨by rw[ha.1,cH g2],fun j hj=>?_⟩) ?_ ?_)
   ·rintro v s1 ⟨s2,⟨π1,d,os,p1,p2,p3,p4,p5⟩,rfl,hnew⟩;have live:∀ k b,bt ([]:Nm) k=some (some b)→∃ o,S.get b=some o:=fun k b h=>by simp[bt]at h
    have hfr:dh π ([]:Nm) s'=s':=by
     funext b
     unfold dh;rw[if_neg];rintro⟨k,b2,l,h,_⟩
     simp[bt]at h
    have join:∀ b,s2 b≠none→iP s' s2 b=s2 b:=fun b hb=>by
     unfold iP;cases hc:s2 b with
     | none=>exact absurd hc hb
     | some z=>rfl
    have h1:RelS π1 (dh π ([]:Nm) s') ⟨sh.out.q,os⟩ (iP s' s2):=by
     rw[hfr];refine⟨fun b o hb=>(p4.obj b o hb).mono (Ext.refl _) fun l x hp hh=>join x ((p4.obj b o hb).some'' hp hh),p4.inj',fun b' z h=>?_,fun b o l b' hb hp hh=>?_,p4.nx⟩
     ·unfold iP;cases hc:s2 b' with
      | none=>exact h
      | some u=>rw[hnew b' u hc]at h; cases h
     ·cases hc:s2 b' with
      | none=>exact absurd hc ((p4.obj b o hb).some'' hp hh)
      | some u=>exact hnew b' u hc
    obtain⟨ds2,S2,π2,a1,a2,a3,a4,a5,a6⟩:=dZ hS live p1 p2 (aQ p3) h1 (fun k hk=>by rw[v2]at hk; simp at hk);exact⟨ds2,S2,π2,a1,a2,a3,a4,fun b o hb=>a5 b o hb (by simp[aW]),fun b o l x hb hp hh=>a6 b o l x hb (by simp[aW]) hp hh⟩
   ·exact kD g2 (by rw[← cH g2]; exact hj) w _ hs (ha.2 j (by rw[← cH g2]; exact hj))
   ·rintro v s2 ⟨π1,d,os,p1,p2,p3,p4,p5⟩;unfold fillSt at p1;split at p1
    ·rename_i ds1 l1 hvs;split at p1
     ·cases p1;exact gu _ v3 hvs (aQ p3) v (by simp)
     ·cases p1
    ·cases p1
   ·rintro v s2 ⟨π1,d,os,p1,p2,p3,p4,p5⟩ b z hb o o' w hO;obtain⟨k,ob,lc,q1,q2,qh⟩:=p5 b z hb;unfold fillSt at p1;split at p1
    ·rename_i ds1 l1 hvs;split at p1
     ·rename_i os1 hos;cases p1;obtain⟨T,t,yy,rfl,hg⟩:=qq v4 hos k ob (eC q1);rcases p4.obj k _ q1 with⟨q3,_⟩ | ⟨b2,c2,xs,q3,q4,q5,q6⟩
      ·rw[q2]at q3; cases q3; exact qh.elim
      ·rw[q2]at q3; cases q3;cases qh;rw[hb]at q5;cases q5;obtain⟨vs,e1,e2,e3,e4,e5,e6⟩:=hO;refine⟨vs,e1,e2,e3,e4,e5,fun i j hi hj=>⟨?_,(e6 i j hi hj).2⟩⟩;have hi':i < yy.length:=by rw[← q6.1]; exact hi
       have hcr:=q6.2 i hi';exact gW hg hcr _ (i7 (by rw[dJ hcr]; exact hj)) _ _ _ _ (e6 i j hi hj).1
     ·cases p1
    ·cases p1
 ·cases hrd
def aw (P:Program)(T:List FEnt):Prop:=∀ ent∈T,DC P ent.f ent.sh ent.F∧(ent.sh.bw=true→uI ent.sh=true)
theorem am {P:Program}:aw P []:=fun e h=>by cases h
theorem uM {P:Program}{ent:FEnt}{T:List FEnt}(h:DC P ent.f ent.sh ent.F)(hv:(!ent.sh.bw||uI ent.sh)=true)(hT:aw P T):aw P (ent::T):=fun e he=>by
 rcases List.mem_cons.1 he with rfl | he
 ·exact⟨h,fun hb=>by rw[hb]at hv; simpa using hv⟩
 ·exact hT e he
theorem lg {P:Program}(hS:RelS π Fr S s')(hH:HR π S RD R){f:FuncId}{ds:List DV}{as:List AV}(hr:RelVs π ds as){α:Type}{k:DV→DSt→Option α}{r:α}:∀ {T:List FEnt} (hT:aw P T) (h:iL RD T f ds S k=some r)
  {K:AV→Store→Prop} (hK:∀ d S1 a π1 s1,k d S1=some r→RelV π1 d a→Ext π π1→RelS π1 Fr S1 s1→HR π1 S1 RD R→K a s1),AC P f as s' fun v s1=>(∀ b,R b→s1 b=s' b)∧K v s1
 | [],hT,h,K,hK=>by simp[iL]at h
 | ent::T,hT,h,K,hK=>by
  simp only[iL]at h;have rest:=fun h=>lg hS hH (f:=f) hr (T:=T) (fun e he=>hT e (by simp[he])) h hK;cases hf:Nat.beq ent.f f with
  | false=>rw[hf]at h; exact rest h
  | true=>
   rw[hf]at h;simp only[cond_true]at h;obtain rfl:=ai.1 hf;split at h
   ·rename_i x nm hin;cases hn:mw RD (aW nm)with
    | false=>rw[hn]at h; cases h
    | true=>
     rw[hn]at h;simp only[cond_true]at h;cases hF:ent.F x with
     | none=>rw[hF]at h; exact rest h
     | some y=>
      rw[hF]at h;simp only[Oq]at h;obtain⟨hdc,hbw⟩:=hT ent (by simp);unfold GU at hin;cases hbwc:ent.sh.bw with
      | true=>
       rw[hbwc]at hin;simp only[E9]at hin;split at hin
       ·rename_i l nm1 hrd;split at hin
        ·rename_i x1 htd;cases hin;obtain⟨rfl,hac⟩:=uL hS hdc (hbw hbwc) hr hrd htd hF;refine fY ?_ hac;rintro v s1 ⟨ds2,S2,π2,a1,a2,a3,a4,a5,a6⟩;rw[a1]at h;split at h
         ·rename_i d2 S2' he;cases he;simp only[RelVs]at a3;obtain⟨a,as',e,a3,e2⟩:=a3;cases e;refine⟨fun b' hR=>?_,hK d2 S2 v π2 s1 h a3 a2 a4 ?_⟩
          ·obtain⟨b,l,h1,h2,h3⟩:=hH.of b' hR;obtain⟨o,ho,_⟩:=hH.live b h1;exact a6 b o l b' ho h2 h3
          ·refine hH.mono a2 fun b hb=>?_;obtain⟨o,ho,_⟩:=hH.live b hb;exact a5 b o ho
         ·cases h
        ·cases hin
       ·cases hin
      | false=>
      rw[hbwc]at hin;simp only[E9]at hin;split at hin
      ·rename_i l nm1 hrd;split at hin
       ·rename_i x1 htd;cases hin;have hl:=bj htd;obtain⟨q1,q2,q3,live,ds0,os0,q4,q5,q6⟩:=ff hS hrd hr (Fr1:=dh π nm s') (fun b' x h=>lO h) (fun k b lc x h1 h2 h3=>iu h1 h2 h3);refine fY ?_ (hdc.2 x y hF (cL π nm) (dh π nm s') as s' ⟨ds0,os0,by rw[hl]; exact q4,q5,q6⟩);rintro v s1 ⟨π1,d,os,p1,p2,p3,p4,p5⟩;obtain⟨ds2,S2,π2,a1,a2,a3,a4,a5,a6⟩:=dZ hS live p1 p2 (aQ p3) p4 (fun k hk b hb=>by rw[p5 k hk]; simp only[cL,hb,fe]);rw[a1]at h;split at h
        ·rename_i d2 S2' he;cases he;simp only[RelVs]at a3;obtain⟨a,as',e,a3,e2⟩:=a3;cases e;refine⟨fun b' hR=>?_,hK d2 S2 v π2 s1 h a3 a2 a4 ?_⟩
         ·obtain⟨b,l,h1,h2,h3⟩:=hH.of b' hR;obtain⟨o,ho,_⟩:=hH.live b h1;exact a6 b o l b' ho (fun hb=>by rw[mL hn b hb]at h1; cases h1) h2 h3
         ·refine hH.mono a2 fun b hb=>?_;obtain⟨o,ho,_⟩:=hH.live b hb;exact a5 b o ho (fun hb2=>by rw[mL hn b hb2]at hb; cases hb)
        ·cases h
       ·cases hin
      ·cases hin
   ·exact rest h
theorem wH {π:Pi}{s1 s2:Store}{b:Nat}{o:DObj}(h:ObR π s1 b o)(he:∀ l x,π b=some l→l.has x→∀ y,s1 x=some y→s2 x=some y):ObR π s2 b o:=
 h.mono (Ext.refl _) fun l x hp hh=>by
  cases hs:s1 x with
  | none=>exact absurd hs (h.some'' hp hh)
  | some y=>exact he l x hp hh y hs
theorem qr {s F:Store}{b:Nat}{x:AObj}(h:s b=some x)(ha:lZ s F):cj s F b=some x:=by
 have:F b=none:=by
  cases hf:F b with
  | none=>rfl
  | some y=>have:=ha b (by rw[hf]; simp); rw[h]at this; cases this
 unfold cj; rw[this]; exact h
theorem RelS.join {Fr F:Store}{S:DSt}{s':Store}(hS:RelS π Fr S s')(ha:lZ s' F):RelS π (cj Fr F) S (cj s' F):=by
 refine⟨fun b o hb=>wH (hS.obj b o hb) fun l x _ _ y hx=>qr hx ha,hS.inj',fun b' x hx=>?_,fun b o l b' hb hp hh=>?_,hS.nx⟩
 ·unfold cj at hx ⊢;cases hf:F b' with
  | some y=>rw[hf]at hx; exact hx
  | none=>rw[hf]at hx; exact hS.frm b' x hx
 ·have h1:=hS.out' b o l b' hb hp hh;have h2:F b'=none:=by
   cases hf:F b' with
   | none=>rfl
   | some y=>
    have h3:=ha b' (by rw[hf]; simp);exact absurd h3 ((hS.obj b o hb).some'' hp hh)
  unfold cj; rw[h2]; exact h1
theorem pu {P:Program}(hS:RelS π Fr S s')(hH:HR π S RD R){f:FuncId}{ds:List DV}{as:List AV}(hr:RelVs π ds as){α:Type}{k:DV→DSt→Option α}{r:α}{T:List FEnt}(hT:aw P T)(h:iL RD T f ds S k=some r)
  {K:AV→Store→Prop} (hK:∀ d S1 a π1 s1,k d S1=some r→RelV π1 d a→Ext π π1→RelS π1 Fr S1 s1→HR π1 S1 RD R→K a s1):ACF P f as s' fun v s1=>(∀ b,R b→s1 b=s' b)∧K v s1:=by
 intro F hF;refine fY ?_ (lg (hS.join hF) hH hr hT h (K:=fun a s1=>∃ s2,lZ s2 F∧s1=cj s2 F∧K a s2) ?_)
 ·rintro v s1 ⟨h1,s2,h2,h3,h4⟩;refine⟨s2,h2,h3,fun b hb=>?_,h4⟩;have h5:=h1 b hb;have hFb:F b=none:=by
   obtain⟨b0,l,h6,h7,h8⟩:=hH.of b hb;obtain⟨o,ho,_⟩:=hH.live b0 h6;cases hf:F b with
   | none=>rfl
   | some y=>exact absurd (hF b (by rw[hf]; simp)) ((hS.obj b0 o ho).some'' h7 h8)
  rw[h3]at h5;unfold cj at h5;rw[hFb]at h5;exact h5
 ·intro d S1 a π1 s1 g1 g2 g3 g4 g5
  let s2:Store:=fun b=>match F b with
   | some _=>none
   | none=>s1 b
  have e1:lZ s2 F:=fun b hb=>by
   show(match F b with | some _=>none | none=>s1 b)=none;cases hf:F b with
   | some y=>rfl
   | none=>exact absurd hf hb
  have e2:s1=cj s2 F:=by
   funext b
   show s1 b=match F b with | some x=>some x | none=>s2 b;cases hf:F b with
   | some y=>exact g4.frm b y (by unfold cj; rw[hf])
   | none=>show s1 b=(match F b with | some _=>none | none=>s1 b); rw[hf]
  refine⟨s2,e1,e2,hK d S1 a π1 s2 g1 g2 g3 ⟨fun b o hb=>wH (g4.obj b o hb) fun l b' hp hh x hx=>?_,g4.inj',fun b' x hx=>?_,fun b o l b' hb hp hh=>?_,g4.nx⟩ g5⟩
  ·have h1:=g4.out' b o l b' hb hp hh;have h2:F b'=none:=by
    cases hf:F b' with
    | none=>rfl
    | some y=>unfold cj at h1; rw[hf]at h1; cases h1
   show(match F b' with | some _=>none | none=>s1 b')=some x;rw[h2]; exact hx
  ·have hFn:F b'=none:=by
    cases hf:F b' with
    | none=>rfl
    | some y=>have:=hF b' (by rw[hf]; simp); rw[hS.frm b' x hx]at this; cases this
   show(match F b' with | some _=>none | none=>s1 b')=some x;rw[hFn];exact g4.frm b' x (by unfold cj; rw[hFn]; exact hx)
  ·have h1:=g4.out' b o l b' hb hp hh;cases hf:F b' with
   | none=>unfold cj at h1; rw[hf]at h1; exact h1
   | some y=>unfold cj at h1; rw[hf]at h1; cases h1
theorem b7 {α:Type}:∀ {ob:List Bool} {k:Option α} {r:α},iC ob k=some r→ob.all id=true∧k=some r
 | [],k,r,h=>⟨rfl,h⟩
 | b::l,k,r,h=>by
  simp only[iC,au]at h;cases b with
  | false=>cases h
  | true=>obtain⟨h1,h2⟩:=b7 (ob:=l) h; exact⟨by simpa using h1,h2⟩
theorem RelE.put {e:DEnv}{e':Env}(hE:RelE π e e'){d:DV}{a:AV}(hr:RelV π d a)(t:Option Nat):RelE π (e.put t d) (Env.put e' t a):=by
 cases t with
 | none=>exact hE
 | some t=>
  intro u x hu;simp only[DEnv.put,cN]at hu;simp only[Env.put,Env.set];split at hu
  ·rename_i e1; rw[if_pos e1]; cases hu; exact hr
  ·rename_i e1; rw[if_neg e1]; exact hE u x hu
theorem RelE.ext {π1:Pi}{e:DEnv}{e':Env}(hE:RelE π e e')(hx:Ext π π1):RelE π1 e e':=fun t d h=>(hE t d h).ext hx
theorem RelE.put1 {e:DEnv}{e':Env}(hE:RelE π e e'){t:Nat}{d:DV}(hr:RelV π d (e' t)):RelE π (e.put (some t) d) e':=by
 intro u x hu;simp only[DEnv.put,cN]at hu;split at hu
 ·rename_i e1; subst e1; cases hu; exact hr
 ·exact hE u x hu
def rH (P:Program)(R:Nat→Prop)(o:AOper)(gd:Bool)(K:Env→Store→Prop)(e':Env)(s':Store):Prop:=match bS o.op with
 | true=>eff P R o.op (opd e') s' fun v s1=>K (Env.put e' o.dst v) s1
 | false=>nop [] R o.op (opd e') s' fun v ob=>ob∧K (Env.put e' o.dst (match gd with | true=>.whn true v | false=>v)) s'
theorem mM {gd:Bool}{d:DV}{a:AV}(h:RelV π d a):RelV π (wv gd d) (match gd with | true=>.whn true a | false=>a):=by
 cases gd with
 | true=>simp only[wv,RelV]; exact⟨a,rfl,fun _=>h⟩
 | false=>exact h
theorem fL {P:Program}{o:AOper}{ann:sI}{gd:Bool}{α:Type}{k:DEnv→DSt→Option α}{r:α}{e:DEnv}{e':Env}(h:Fa RD S e o ann gd k=some r)(hE:RelE π e e')(hS:RelS π Fr S s')(hH:HR π S RD R)
  {K:Env→Store→Prop} (hK:∀ e1 S1 π1 e1' s1,k e1 S1=some r→Ext π π1→RelE π1 e1 e1'→RelS π1 Fr S1 s1→HR π1 S1 RD R→K e1' s1):rH P R o gd K e' s':=by
 have hρ:∀ x,RelV π (ck e x) (opd e' x):=dx hE;unfold rH;unfold Fa at h;cases he:bS o.op with
 | true=>
  rw[he]at h;simp only at h ⊢;split at h
  ·rename_i d S' ob hd;obtain⟨h1,h2⟩:=b7 h;exact uE hS hH hρ hd h1 fun a π1 s1 g1 g2 g3 g4=>hK _ _ π1 _ _ h2 g2 ((hE.ext g2).put g1 _) g3 g4
  ·cases h
 | false=>
  rw[he]at h;simp only at h ⊢;split at h
  ·rename_i d ob hd;obtain⟨h1,h2⟩:=b7 h;obtain⟨a,p,g1,g2,g3⟩:=uC hS hH hρ trivial hd h1;exact g3 _ ⟨g2,hK _ _ π _ _ h2 (Ext.refl _) (hE.put (mM g1) _) hS hH⟩
  ·cases h
theorem oe:∀ (g:List (Int×Nat)) (n:Int),bU (fF g) [n]=(bA g n).map fun x=>.ptr x 0
 | [],n=>rfl
 | (k,x)::g,n=>by
  have ih:=oe g n;by_cases e:k=n
  ·subst e; simp[fF,bU,bA]
  ·have e1:bU (fF ((k,x)::g)) [n]=bU (fF g) [n]:=by simp[fF,bU,e]
   rw[e1,ih,bh,if_neg e]
theorem og:∀ (g:List (Int×Nat)) (n:Int) (y:Nat),bA g n=none→mput (fF g) [n] (.ptr y 0)=fF (g++[(n,y)])
 | [],n,y,_=>rfl
 | (k,x)::g,n,y,h=>by
  rw[bh]at h;by_cases e:k=n
  ·subst e; simp at h
  ·rw[if_neg e]at h;have ih:=og g n y h;have e2:¬ ([k]:List Int)=[n]:=fun h=>e (by simpa using h);show(if([k]:List Int)=[n]then _ else _)=_;rw[if_neg e2];show([k],AV.ptr x 0)::mput (fF g) [n] (.ptr y 0)=_;rw[ih]; rfl
theorem sT {p nb nbL:Nat}{n:Int}{q:Nat}{g:List (Int×Nat)}{c m:Nat}(hx:Ext π (addP π q (.pol (g++[(n,nbL)]))))(hp:π p=some (.pol g))(hn:bA g n=none)(hb:π nb=some (.real nbL c m)){d:DV}{a:AV}(h:RelV π d a):
  RelV (addP π q (.pol (g++[(n,nbL)]))) (qf p q nb n d) a:=by
 cases d with
 | pel b key o=>
  simp only[qf];cases hc:Nat.beq b p with
  | false=>exact h.ext hx
  | true=>
   obtain rfl:=ai.1 hc;simp only[RelV]at h;obtain⟨g',x,h1,h2,rfl⟩:=h;rw[hp]at h1; cases h1;simp only[cond_true,RelV];exact⟨_,x,addP_same _ _ _,by rw[fI,h2]; rfl,rfl⟩
 | ptr b o=>
  simp only[qf];cases hc:Nat.beq b nb with
  | false=>exact h.ext hx
  | true=>
   obtain rfl:=ai.1 hc;simp only[RelV]at h;obtain⟨b',c',n',h1,rfl⟩:=h;rw[hb]at h1; cases h1;simp only[cond_true,RelV];exact⟨_,nbL,addP_same _ _ _,by rw[fI,hn]; simp[bA],rfl⟩
 | _=>exact h.ext hx
theorem jK {p nb nbL:Nat}{n:Int}{q:Nat}{g:List (Int×Nat)}{c m:Nat}(hx:Ext π (addP π q (.pol (g++[(n,nbL)]))))(hp:π p=some (.pol g))(hn:bA g n=none)(hb:π nb=some (.real nbL c m)):∀ {ds:List DV} {as:List AV},RelVs π ds as →
  RelVs (addP π q (.pol (g++[(n,nbL)]))) (ds.map (qf p q nb n)) as
 | [],as,h=>by simp only[RelVs]at h; subst h; exact RelVs_nil
 | d::ds,as,h=>by
  simp only[RelVs]at h;obtain⟨a,as',rfl,h1,h2⟩:=h;exact RelVs_cons (sT hx hp hn hb h1) (jK hx hp hn hb h2)
theorem bx {α β:Type}(f:α→β):∀ (l:List (Nat×α)) (k:Nat),bt (bG f l) k=(bt l k).map f
 | [],k=>rfl
 | (c,x)::l,k=>by
  simp only[bG,bt,bx f l k];cases Nat.beq c k <;> rfl
theorem wI {p nb nbL:Nat}{n:Int}{q:Nat}{g:List (Int×Nat)}{c m:Nat}(hx:Ext π (addP π q (.pol (g++[(n,nbL)]))))(hp:π p=some (.pol g))(hn:bA g n=none)(hb:π nb=some (.real nbL c m)){e:DEnv}{e':Env}(hE:RelE π e e'):
  RelE (addP π q (.pol (g++[(n,nbL)]))) (bG (zt p q nb n) e) e':=by
 intro u d hu;rw[bx]at hu;cases hg:bt e u with
 | none=>rw[hg]at hu; cases hu
 | some d0=>
  rw[hg]at hu;cases hu;have hd:=hE u d0 hg;cases d0 with
  | agg cs=>
   simp only[zt];simp only[RelV]at hd ⊢;obtain⟨as,e1,hd⟩:=hd;exact⟨as,e1,jK hx hp hn hb hd⟩
  | tup cs=>
   simp only[zt];simp only[RelV]at hd ⊢;obtain⟨as,e1,hd⟩:=hd;exact⟨as,e1,jK hx hp hn hb hd⟩
  | _=>exact sT hx hp hn hb hd
theorem rI (hS:RelS π Fr S s'){b p nb:Nat}{n:Int}{t:Ty}{es:List (Int×t.den)}{x:t.den}{cs:List DV}{bL cb nn nbL c m:Nat}{g:List (Int×Nat)}(hb:S.get b=some (.pmap p))(hp:S.get p=some (.pool t es))(hnb:S.get nb=some (.box cs))
  (hx:ct none t cs=some x) (hno:bA es n=none) (hpb:π b=some (.real bL cb nn)) (hpp:π p=some (.pol g)) (hpn:π nb=some (.real nbL c m)) :
  RelS (addP π S.nx (.pol (g++[(n,nbL)]))) Fr (nW S b p nb n t es x) (upd s' bL (.imap 0 (fF (g++[(n,nbL)])) none)):=by
 have hxt:Ext π (addP π S.nx (.pol (g++[(n,nbL)]))):=cA (hS.nx _ (Nat.le_refl _)) _;obtain⟨g2,hg2,hP⟩:=hS.obj _ _ hp;rw[hpp]at hg2; cases hg2;have hgn:bA g n=none:=by
  have:=eD n hP.keys;rw[hno]at this;cases hc:bA g n with
  | none=>rfl
  | some y=>rw[hc]at this; cases this
 obtain⟨b2,c2,n2,as,hp2,hs2,hr2⟩:=hS.obj _ _ hnb;rw[hpn]at hp2; cases hp2;have hbp:b≠p:=fun e=>by rw[e,hp]at hb; cases hb
 have hbn:b≠nb:=fun e=>by rw[e,hnb]at hb; cases hb
 have hpn':p≠nb:=fun e=>by rw[e,hnb]at hp; cases hp
 have lt:∀ {c o},S.get c=some o→c≠S.nx:=fun {c o} h=>by
  obtain⟨l,hl⟩:=(hS.obj _ _ h).loc;exact hS.lt hl
 have get:∀ c,(nW S b p nb n t es x).get c=if c=S.nx then some (.pool t (es++[(n,x)]))else if c=b then some (.pmap S.nx)else(if c=nb then none else if c=p then none else S.get c).map (Fb p S.nx nb n):=fun c=>by
  show bt (j0 (j0 (bG _ (gi (gi S.m p) nb)) b _) S.nx _) c=_;rw[cN,cN,bx,cW,cW]; rfl
 have inv:∀ c o,(nW S b p nb n t es x).get c=some o→(c=S.nx∧o = .pool t (es++[(n,x)]))∨(c≠S.nx∧c=b∧o = .pmap S.nx)∨(c≠S.nx∧c≠b∧c≠nb∧c≠p∧∃ o0,S.get c=some o0∧o=Fb p S.nx nb n o0):=fun c o h=>by
  rw[get]at h;split at h
  ·rename_i e; cases h; exact .inl ⟨e,rfl⟩
  ·rename_i e1;split at h
   ·rename_i e2; cases h; exact .inr (.inl ⟨e1,e2,rfl⟩)
   ·rename_i e2;split at h
    ·cases h
    ·rename_i e3;split at h
     ·cases h
     ·rename_i e4;cases hc:S.get c with
      | none=>rw[hc]at h; cases h
      | some o0=>rw[hc]at h; cases h; exact .inr (.inr ⟨e1,e2,e3,e4,o0,rfl,rfl⟩)
 have live:∀ c o,(nW S b p nb n t es x).get c=some o→c≠S.nx→c≠p∧c≠nb∧∃ o0,S.get c=some o0:=fun c o h hne=>by
  rcases inv c o h with⟨e,_⟩ | ⟨_,e,_⟩ | ⟨_,_,e3,e4,o0,h0,_⟩
  ·exact absurd e hne
  ·subst e; exact⟨hbp,hbn,_,hb⟩
  ·exact⟨e4,e3,o0,h0⟩
 have nhas:∀ y,Loc.has (.pol (g++[(n,nbL)])) y→Loc.has (.pol g) y∨y=nbL:=fun y ⟨k,hk⟩=>by
  rw[fI]at hk;split at hk
  ·exact .inl ⟨k,hk⟩
  ·rw[bh]at hk;split at hk
   ·cases hk; exact .inr rfl
   ·simp[bA]at hk
 have nn':∀ y,Loc.has (.pol (g++[(n,nbL)])) y→y≠bL:=fun y hy e=>by
  subst e;rcases nhas _ hy with h | h
  ·exact hbp (hS.inj' _ _ _ _ _ _ _ hb hp hpb hpp rfl h)
  ·exact hbn (hS.inj' _ _ _ _ _ _ _ hb hnb hpb hpn rfl h)
 have apart:∀ c o l y,(nW S b p nb n t es x).get c=some o→c≠S.nx→π c=some l→l.has y→¬ Loc.has (.pol (g++[(n,nbL)])) y:=fun c o l y h hne hl hh hy=>by
  obtain⟨e1,e2,o0,h0⟩:=live c o h hne;rcases nhas _ hy with h | h
  ·exact e1 (hS.inj' _ _ _ _ _ _ _ h0 hp hl hpp hh h)
  ·exact e2 (hS.inj' _ _ _ _ _ _ _ h0 hnb hl hpn hh h)
 refine⟨fun c o h=>?_,fun c1 c2 o1 o2 l1 l2 y h1 h2 p1 p2 q1 q2=>?_,fun y z h=>?_,fun c o l y h hl hh=>?_,fun c h=>?_⟩
 ·rcases inv c o h with⟨rfl,rfl⟩ | ⟨hne,rfl,rfl⟩ | ⟨hne,e2,e3,e4,o0,h0,rfl⟩
  ·refine⟨_,addP_same _ _ _,by rw[List.map_append,List.map_append,hP.keys]; rfl,?_,fun k y hk=>?_,fun k1 k2 y h1 h2=>?_⟩
   ·rw[List.map_append,List.nodup_append];refine⟨hP.nd,by simp,fun a ha b hb e=>?_⟩;simp only[List.map_cons,List.map_nil,List.mem_singleton]at hb;rw[e,hb]at ha;exact oa hgn ha
   ·have hyb:=nn' y ⟨k,hk⟩;rw[aD _ _ hyb];rw[fI]at hk ⊢;have e5:=eD k hP.keys;split at hk
    ·rename_i hsome;rw[e5,hsome];simp only[if_true];exact hP.ex k y hk
    ·rename_i hsome;rw[bh]at hk;split at hk
     ·rename_i e6;cases hk;rw[e5,if_neg hsome,bh,if_pos e6];exact⟨as,hs2,bF hx hr2⟩
     ·simp[bA]at hk
   ·have sep:∀ k y,bA g k=some y→y≠nbL:=fun k y hk e=>by
     subst e;exact hpn' (hS.inj' _ _ _ _ _ _ _ hp hnb hpp hpn ⟨k,hk⟩ rfl)
    have inv2:∀ k,bA (g++[(n,nbL)]) k=some y→bA g k=some y∨(k=n∧y=nbL):=fun k hk=>by
     rw[fI]at hk;split at hk
     ·exact .inl hk
     ·rw[bh]at hk;split at hk
      ·rename_i e; cases hk; exact .inr ⟨e.symm,rfl⟩
      ·simp[bA]at hk
    rcases inv2 k1 h1 with a1 | ⟨a1,b1⟩ <;> rcases inv2 k2 h2 with a2 | ⟨a2,b2⟩
    ·exact hP.dj k1 k2 y a1 a2
    ·exact absurd b2 (sep _ _ a1)
    ·exact absurd b1 (sep _ _ a2)
    ·rw[a1,a2]
  ·exact⟨bL,cb,nn,_,hxt _ _ hpb,addP_same _ _ _,upd_same _ _ _⟩
  ·have hO:=hS.obj _ _ h0;have same:∀ l y,π c=some l→l.has y→upd s' bL (.imap 0 (fF (g++[(n,nbL)])) none) y=s' y:=fun l y hl hh=>aD _ _ fun e=>by
    subst e;exact e2 (hS.inj' _ _ _ _ _ _ _ h0 hb hl hpb hh rfl)
   cases o0 with
   | box ds=>
    obtain⟨b3,c3,n3,as3,k1,k2,k3⟩:=hO;exact⟨b3,c3,n3,as3,hxt _ _ k1,(same _ _ k1 rfl).trans k2,jK hxt hpp hgn hpn k3⟩
   | _=>exact hO.mono hxt same
 ·by_cases e1:c1=S.nx <;> by_cases e2:c2=S.nx
  ·rw[e1,e2]
  ·rw[e1,addP_same]at p1; cases p1;rw[addP_ne _ _ e2]at p2;exact absurd q1 (apart _ _ _ _ h2 e2 p2 q2)
  ·rw[e2,addP_same]at p2; cases p2;rw[addP_ne _ _ e1]at p1;exact absurd q2 (apart _ _ _ _ h1 e1 p1 q1)
  ·rw[addP_ne _ _ e1]at p1;rw[addP_ne _ _ e2]at p2;obtain⟨_,_,o3,h3⟩:=live _ _ h1 e1;obtain⟨_,_,o4,h4⟩:=live _ _ h2 e2;exact hS.inj' _ _ _ _ _ _ _ h3 h4 p1 p2 q1 q2
 ·have:y≠bL:=fun e=>by subst e; rw[hS.out' _ _ _ _ hb hpb rfl]at h; cases h
  rw[aD _ _ this]; exact hS.frm _ _ h
 ·by_cases e1:c=S.nx
  ·rw[e1,addP_same]at hl; cases hl;rcases nhas _ hh with h | h
   ·exact hS.out' _ _ _ _ hp hpp h
   ·exact hS.out' _ _ _ _ hnb hpn h
  ·rw[addP_ne _ _ e1]at hl;obtain⟨_,_,o3,h3⟩:=live _ _ h e1;exact hS.out' _ _ _ _ h3 hl hh
 ·have h':S.nx+1≤c:=h;rw[addP_ne _ _ (by omega)]; exact hS.nx _ (by omega)
theorem mN {P:Program}{T:List FEnt}(hT:aw P T){o:AOper}{ann:sI}{gd:Bool}{α:Type}{k:DEnv→DSt→Option α}{r:α}{e:DEnv}{e':Env}(h:zx RD T S e o ann gd k=some r)(hE:RelE π e e')(hS:RelS π Fr S s')(hH:HR π S RD R)
  {K:Env→Store→Prop} (hK:∀ e1 S1 π1 e1' s1,k e1 S1=some r→Ext π π1→RelE π1 e1 e1'→RelS π1 Fr S1 s1→HR π1 S1 RD R→K e1' s1):rH P R o gd K e' s':=by
 have hρ:∀ x,RelV π (ck e x) (opd e' x):=dx hE;have call:∀ (f:FuncId) (ds:List DV) (as:List AV),RelVs π ds as→iL RD T f ds S (fun d S'=>k (e.put o.dst d) S')=some r→ACF P f as s' fun v s1=>(∀ b,R b→s1 b=s' b)∧K (Env.put e' o.dst v) s1:=by
  intro f ds as hr h2;exact pu hS hH hr hT h2 (K:=fun v s1=>K (Env.put e' o.dst v) s1) fun d S1 a π1 s1 g1 g2 g3 g4 g5=>hK _ _ π1 _ _ g1 g3 ((hE.ext g3).put g2 _) g4 g5
 unfold zx at h;unfold rH;split at h
 ·rename_i f xs ho;obtain⟨h1,h2⟩:=b7 h;obtain⟨d1,d2⟩:=db hρ h1;rw[ho];exact⟨d2,call f _ _ d1 h2⟩
 ·rename_i g xs ho;split at h
  ·rename_i f caps hg;obtain⟨h1,h2⟩:=b7 h;obtain⟨o1,o2⟩:=ah h1;have v:=bv (hρ g) o1;rw[hg]at v;simp only[RelV]at v;obtain⟨as,e1,v⟩:=v;obtain⟨d1,d2⟩:=db hρ o2;rw[ho];refine⟨bE (hρ g) o1,d2,?_⟩;rw[e1];cases hne:Nat.beq f YB with
   | false=>
    rw[hne]at h2;simp only[mA hne];exact⟨fun e=>by rw[e]at hne; exact absurd hne (by decide),call f _ _ (dL d1 v) h2⟩
   | true=>
    rw[hne]at h2;obtain rfl:=ai.1 hne;simp only[fnA_yb];exact call YB _ _ (dL d1 (aQ (by simp only[RelV]; exact⟨as,fnA_yb.symm,v⟩))) h2
  ·cases h
 ·rename_i c x y ho;split at h
  ·rename_i g hg;obtain⟨h1,h2⟩:=b7 h;have e1:=cV hg (bv (hρ c) h1);have fc:=bE (hρ c) h1;rw[ho];simp only[bS,nop,e1];cases g with
   | true=>
    simp only[cond_true]at h2 ⊢;obtain⟨h3,h4⟩:=b7 h2;exact⟨⟨fc,fun _=>bE (hρ x) h3,fun h=>(by cases h)⟩,hK _ _ π _ _ h4 (Ext.refl _) (hE.put (mM (bv (hρ x) h3)) _) hS hH⟩
   | false=>
    simp only[cond_false]at h2 ⊢;obtain⟨h3,h4⟩:=b7 h2;exact⟨⟨fc,fun h=>(by cases h),fun _=>bE (hρ y) h3⟩,hK _ _ π _ _ h4 (Ext.refl _) (hE.put (mM (bv (hρ y) h3)) _) hS hH⟩
  ·cases h
 ·rename_i ne x ho;split at h
  ·rename_i b hb;obtain⟨h1,h2⟩:=b7 h;have hv:=bv (hρ x) h1;rw[ho];refine⟨bE (hρ x) h1,?_⟩;have val:∀ b,RelV π (uA ne b) (.bool (if ne then !b else b)):=fun b=>by cases ne <;> exact aR _
   have go:∀ b,k (e.put o.dst (uA ne b)) S=some r→K (Env.put e' o.dst (.bool (if ne then !b else b))) s':=fun b hk=>hK _ _ π _ _ hk (Ext.refl _) (hE.put (val b) _) hS hH;have both:b=true→∀ b,k (e.put o.dst (uA ne b)) S=some r:=fun e1 b'=>by
    subst e1;simp only[zw]at h2;split at h2
    ·rename_i he; cases b' with
     | true=>rw[he]; exact h2
     | false=>exact h2
    ·cases h2
   have kf:k (e.put o.dst (uA ne false)) S=some r:=by
    cases b with
    | true=>exact both rfl false
    | false=>exact h2
   unfold GW at hb;split at hb
   ·rename_i t l hx;cases hb;rw[hx]at hv;simp only[RelV,CR]at hv;rcases hv with⟨e1,rfl⟩ | ⟨get,e1,hv⟩
    ·simp only[List.cons.injEq,and_true]at e1;rw[e1];exact fun b=>go b (both (by simp) b)
    ·simp only[List.cons.injEq,and_true]at e1;rw[e1];intro b' hb';cases b' with
     | false=>exact go false kf
     | true=>exact go true (both (by simpa using hb' rfl) true)
   ·rename_i b0 hx;split at hb
    ·rename_i T0 t0 l hg;cases hb;rw[hx]at hv;simp only[RelV]at hv;rcases hv with⟨b',c,n,hp,e1⟩ | ⟨hp,e1⟩
     ·rw[e1]; exact go false kf
     ·rw[e1];rcases hS.obj _ _ hg with⟨q1,rfl⟩ | ⟨b2,c2,xs,hp2,_⟩
      ·exact fun b=>go b (both (by simp) b)
      ·rw[hp]at hp2; cases hp2
    ·cases hb
   ·rename_i hx;cases hb;rw[hx]at hv;simp only[RelV]at hv;rw[hv];exact fun b=>go b (both rfl b)
   ·cases hb
  ·cases h
 ·rename_i kn ok z m key fr ho;split at h
  ·rename_i b hm;split at h
   ·rename_i p hb;split at h
    ·rename_i n t es hk hp;cases hc:(!fr&&(Nat.beq kn 0&&rA z))with
     | false=>rw[hc]at h; cases h
     | true=>
      rw[hc]at h;simp only[cond_true]at h;simp only[Bool.and_eq_true,Bool.not_eq_true',ai]at hc;obtain⟨rfl,rfl,hz⟩:=hc;obtain rfl:z = .nilp:=by cases z <;> simp[rA]at hz; rfl
      obtain⟨h1,h2⟩:=b7 h;obtain⟨o1,o2⟩:=ah h1;have vm:=bv (hρ m) o1;rw[hm]at vm;simp only[RelV]at vm;obtain⟨b',c,nn,hpb,em⟩:=vm;obtain⟨b2,c2,n2,g,hp2,hpp,hs⟩:=hS.obj _ _ hb;rw[hpb]at hp2; cases hp2;obtain⟨g2,hg2,hP⟩:=hS.obj _ _ hp;rw[hpp]at hg2; cases hg2;rw[ho];simp only[bS,nop,em,hs];refine⟨trivial,gS hk (bv (hρ key) o2) _ ?_⟩;rw[oe];have e5:=eD n hP.keys;cases hg:bA g n with
      | none=>
       rw[hg]at e5;rw[e5]at h2;refine⟨⟨bE (hρ m) o1,bE (hρ key) o2,fun h=>by cases h⟩,hK _ _ π _ _ h2 (Ext.refl _) (hE.put (mM ?_) _) hS hH⟩;cases ok with
       | true=>
        simp only[GV,if_true,RelV];exact⟨_,rfl,RelVs_cons (by simp only[RelV]; rfl) (aQ (aR _))⟩
       | false=>simp only[GV,RelV]; rfl
      | some x=>
       rw[hg]at e5;rw[e5]at h2;have rp:RelV π (.pel p n 0) (.ptr x 0):=by simp only[RelV]; exact⟨g,x,hpp,hg,rfl⟩
       refine⟨⟨bE (hρ m) o1,bE (hρ key) o2,fun h=>by cases h⟩,hK _ _ π _ _ h2 (Ext.refl _) (hE.put (mM ?_) _) hS hH⟩;cases ok with
       | true=>
        simp only[GV,if_true,RelV];exact⟨_,rfl,RelVs_cons rp (aQ (aR _))⟩
       | false=>exact rp
    ·cases h
   ·exact fL h hE hS hH hK
  ·exact fL h hE hS hH hK
 ·rename_i kn m key v ho;split at h
  ·rename_i b hm;split at h
   ·rename_i p hb;split at h
    ·rename_i n t es nb hk hp hv;split at h
     ·rename_i cs hnb;split at h
      ·rename_i x hx;cases hc:(Nat.beq kn 0&&(aS RD b&&(aS RD p&&aS RD nb)))with
       | false=>rw[hc]at h; cases h
       | true=>
        rw[hc]at h;simp only[cond_true]at h;simp only[Bool.and_eq_true,ai]at hc;obtain⟨rfl,hn1,hn2,hn3⟩:=hc;obtain⟨h1,h2⟩:=b7 h;obtain⟨o1,h1⟩:=ah h1;obtain⟨o2,h1⟩:=ah h1;obtain⟨o3,h1⟩:=ah h1;simp only[List.all_cons,List.all_nil,id,Bool.and_true,Bool.not_eq_true']at h1;have hno:bA es n=none:=by
         cases hq:bA es n with
         | none=>rfl
         | some y=>rw[hq]at h1; cases h1
        have vm:=bv (hρ m) o1;rw[hm]at vm;simp only[RelV]at vm;obtain⟨b',c,nn,hpb,em⟩:=vm;obtain⟨b2,c2,n2,g,hp2,hpp,hs⟩:=hS.obj _ _ hb;rw[hpb]at hp2; cases hp2;have vv:=bv (hρ v) o3;rw[hv]at vv;simp only[RelV]at vv;obtain⟨nbL,c3,n3,hpn,ev⟩:=vv;have hgn:bA g n=none:=by
         obtain⟨g2,hg2,hP⟩:=hS.obj _ _ hp;rw[hpp]at hg2; cases hg2;have:=eD n hP.keys;rw[hno]at this;cases hq:bA g n with
         | none=>rfl
         | some y=>rw[hq]at this; cases this
        rw[ho];refine⟨bE (hρ m) o1,bE (hρ key) o2,bE (hρ v) o3,?_⟩;simp only[em,hs];refine⟨trivial,cX hS hH hb hn1 hpb,gS hk (bv (hρ key) o2) _ ?_⟩;rw[ev,og g n nbL hgn];have hxt:Ext π (addP π S.nx (.pol (g++[(n,nbL)]))):=cA (hS.nx _ (Nat.le_refl _)) _;refine hK _ _ (addP π S.nx (.pol (g++[(n,nbL)]))) _ _ h2 hxt ((wI hxt hpp hgn hpn hE).put (by simp only[RelV]) _) (rI hS hb hp hnb hx hno hpb hpp hpn) (hH.mono hxt fun b4 h4=>?_);obtain⟨o4,ho4,_⟩:=hH.live b4 h4;have ne:∀ q,aS RD q=true→b4≠q:=fun q hq e=>by subst e; simp[aS,h4]at hq
        show ∃ o,bt (j0 (j0 (bG _ (gi (gi S.m p) nb)) b _) S.nx _) b4=some o;rw[cN,cN,bx,cW,cW,if_neg (ne b hn1),if_neg (ne nb hn3),if_neg (ne p hn2)];split
        ·exact⟨_,rfl⟩
        ·rw[show bt S.m b4=some o4 from ho4]; exact⟨_,rfl⟩
      ·cases h
     ·cases h
    ·cases h
   ·exact fL h hE hS hH hK
  ·exact fL h hE hS hH hK
 ·exact fL h hE hS hH hK
theorem oh {P:Program}{T:List FEnt}(hT:aw P T){o:AOper}{ann:sI}{α:Type}{k:DEnv→DSt→Option α}{r:α}{e:DEnv}{e':Env}(h:KW RD T o ann k e S=some r)(hE:RelE π e e')(hS:RelS π Fr S s')(hH:HR π S RD R)
  {K:Env→Store→Prop} (hK:∀ e1 S1 π1 e1' s1,k e1 S1=some r→Ext π π1→RelE π1 e1 e1'→RelS π1 Fr S1 s1→HR π1 S1 RD R→K e1' s1):xo P [] R o K e' s':=by
 have skip:∀ (e0:DEnv),RelE π e0 e'→k (e0.put o.dst (sJ o)) S=some r→(match bS o.op with
   | true=>K (Env.put e' o.dst .undef) s'
   | false=>K (Env.put e' o.dst (.whn false .undef)) s'):=fun e0 h0 hk=>by
  unfold sJ at hk;cases he:bS o.op with
  | true=>rw[he]at hk; exact hK _ _ π _ _ hk (Ext.refl _) (h0.put (by simp only[RelV]) _) hS hH
  | false=>rw[he]at hk; exact hK _ _ π _ _ hk (Ext.refl _) (h0.put (by simp only[RelV]; exact⟨_,rfl,fun hc=>by cases hc⟩) _) hS hH
 have no:∀ (g:Nat) (want:Bool),o.grd=some (g,want)→gB want (e' g)=some false→(match bS o.op with
   | true=>K (Env.put e' o.dst .undef) s'
   | false=>K (Env.put e' o.dst (.whn false .undef)) s')→xo P [] R o K e' s':=fun g want hg hq hk=>by
  unfold xo;rw[hg];simp only[hq];cases he:bS o.op with
  | true=>rw[he]at hk; exact⟨fun h=>(by cases h),fun _=>hk⟩
  | false=>rw[he]at hk; exact hk
 have yes:∀ (g:Nat) (want:Bool),o.grd=some (g,want)→gB want (e' g)=some true→rH P R o true K e' s'→xo P [] R o K e' s':=fun g want hg hq hk=>by
  unfold xo;rw[hg];simp only[hq];unfold rH at hk;cases he:bS o.op with
  | true=>rw[he]at hk; exact⟨fun _=>hk,fun h=>(by cases h)⟩
  | false=>rw[he]at hk; exact hk
 have br:∀ (g:Nat) (want b:Bool) (e0:DEnv),o.grd=some (g,want)→gB want (e' g)=some (gb want b)→RelE π e0 e'→F7 RD T o ann k e0 S want b=some r→xo P [] R o K e' s':=fun g want b e0 hg hq h0 hk=>by
  unfold F7 at hk;cases hb:gb want b with
  | true=>rw[hb]at hk hq; exact yes g want hg hq (mN hT hk h0 hS hH hK)
  | false=>rw[hb]at hk hq; exact no g want hg hq (skip e0 h0 hk)
 unfold KW at h;split at h
 ·rename_i hg;have:=mN hT h hE hS hH hK;unfold rH at this;unfold xo;rw[hg];simp only;cases he:bS o.op with
  | true=>rw[he]at this; exact this
  | false=>rw[he]at this; exact this
 ·rename_i g want hg;have hr:RelV π (e.get g) (e' g):=dx hE (.t g);split at h
  ·rename_i c hc;rw[hc]at hr;have e1:=cV (d:=.v ⟨.bool,c⟩) rfl hr;cases c with
   | true=>exact br g want true _ hg (by rw[e1]; rfl) (hE.put1 (by rw[e1]; exact aR _)) h
   | false=>exact br g want false _ hg (by rw[e1]; rfl) (hE.put1 (by rw[e1]; exact aR _)) h
  ·rename_i c hc;rw[hc]at hr;simp only[RelV]at hr;obtain⟨a',e1,hr⟩:=hr;have e2:=hr trivial;simp only[CR,List.cons.injEq,and_true]at e2;rw[e2]at e1;cases c with
   | true=>exact br g want true _ hg (by rw[e1]; rfl) (hE.put1 (by rw[e1]; simp only[RelV]; exact⟨_,rfl,fun _=>aR _⟩)) h
   | false=>exact br g want false _ hg (by rw[e1]; rfl) (hE.put1 (by rw[e1]; simp only[RelV]; exact⟨_,rfl,fun _=>aR _⟩)) h
  ·rename_i d hc;rw[hc]at hr;simp only[RelV]at hr;obtain⟨a',e1,hr⟩:=hr;exact no g want hg (by rw[e1]; rfl) (skip e hE h)
  ·cases h
end
end Go.Proofs.Ytjoncejabdjekaa.D
