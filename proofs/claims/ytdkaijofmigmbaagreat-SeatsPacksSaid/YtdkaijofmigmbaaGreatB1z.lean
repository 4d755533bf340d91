import Derived.Test.YtdkaijofmigmbaaGreatB0z
import Derived.Maps.RangeRun
set_option linter.unusedVariables false
set_option linter.unusedSimpArgs false
namespace Go.Proofs.YtdkaijofmigmbaaGreat.L
open Go
def lH:List Opd→List Nat
 | []=>[]
 | .t n::l=>n::lH l
 | .c _::l=>lH l
def kx (o:AOper):List Nat:=(match o.grd with
 | some (g,_)=>[g]
 | none=>[])++lH (opnds o.op)
theorem jH {n:Nat}:∀ {l:List Opd},Opd.t n∈l→n∈lH l
 | .t m::l,h=>by
  simp only[List.mem_cons,Opd.t.injEq]at h;rcases h with rfl | h
  ·simp[lH]
  ·simp[lH,jH h]
 | .c a::l,h=>by
  have h':Opd.t n∈l:=by simpa using h
  exact(show n∈lH l from jH h')
def Agr (o:AOper)(e e':Env):Prop:=∀ t∈kx o,e' t=e t
theorem Agr.refl (o:AOper)(e:Env):Agr o e e:=fun _ _=>rfl
theorem Agr.opd {o:AOper}{e e':Env}(h:Agr o e e'):∀ x∈opnds o.op,opd e' x=opd e x:=fun x hx=>by
 cases x with
 | t n=>exact h n (by unfold kx; exact List.mem_append_right _ (jH hx))
 | c a=>rfl
theorem Agr.grd {o:AOper}{e e':Env}(h:Agr o e e'){g:Nat}{c:Bool}(hg:o.grd=some (g,c)):e' g=e g:=h g (by simp[kx,hg])
theorem Agr.put {o:AOper}{e e':Env}(h:Agr o e e'){d:Option Nat}{v:AV}(hd:∀ x,d=some x→x∉kx o):Agr o e (Env.put e' d v):=fun t ht=>by
 cases d with
 | none=>exact h t ht
 | some d=>
  have:t≠d:=fun e=>hd d rfl (e▸ht);simp only[Env.put,Env.set,if_neg this];exact h t ht
theorem fj (e:Env){d d':Option Nat}(v v':AV)(h:∀ x,d=some x→d'≠some x):Env.put (Env.put e d v) d' v'=Env.put (Env.put e d' v') d v:=by
 cases d with
 | none=>rfl
 | some d=>cases d' with
  | none=>rfl
  | some d'=>
   have hne:d≠d':=fun e=>h d rfl (e▸rfl)
   funext t
   simp only[Env.put,Env.set];by_cases h1:t=d
   ·subst h1; simp[hne]
   ·by_cases h2:t=d'
    ·subst h2; simp[h1]
    ·simp[h1,h2]
section
variable {P:Program} {T:Tbl} {R:Nat→Prop}
theorem eb {kn:Nat}{v:AV}{K K':List Int→Prop}(h:∀ k,K k→K' k)(hk:keyOf kn v K):keyOf kn v K':=by
 unfold keyOf at hk;split at hk
 ·exact h _ hk
 ·split at hk
  ·rename_i l hl; simp only[keyOf,hl]; exact⟨hk.1,h _ hk.2⟩
  ·exact hk.elim
 ·exact hk.elim
theorem ee {k:Nat}{s:Store}{v:AV}{K K':List (List AV)→Prop}(h:∀ l,K l→K' l)(hk:elems k s v K):elems k s v K':=by
 unfold elems at hk;split at hk
 ·exact h _ hk
 ·exact⟨hk.1,h _ hk.2⟩
 ·split at hk
  ·rename_i b n c T k' c' xs hb; simp only[elems,hb]; exact⟨hk.1,hk.2.1,hk.2.2.1,h _ hk.2.2.2⟩
  ·exact hk.elim
 ·split at hk
  ·rename_i b k1 p n T k' c' xs hb; simp only[elems,hb]; exact⟨hk.1,hk.2.1,hk.2.2.1,h _ hk.2.2.2⟩
  ·exact hk.elim
 ·exact hk.elim
theorem uO {k:Nat}{s s':Store}(hs:∀ b x,s b=some x→s' b=some x){v:AV}{K:List (List AV)→Prop}(hk:elems k s v K):elems k s' v K:=by
 unfold elems at hk;split at hk
 ·exact hk
 ·exact hk
 ·split at hk
  ·rename_i b n c T k' c' xs hb; simp only[elems,hs _ _ hb]; exact hk
  ·exact hk.elim
 ·split at hk
  ·rename_i b k1 p n T k' c' xs hb; simp only[elems,hs _ _ hb]; exact hk
  ·exact hk.elim
 ·exact hk.elim
theorem dP (o:AOper)(he:bA o.op=false)(e:Env)(s:Store):
  (∀ K e',Agr o e e'→¬ xo P T R o K e' s)∨∃ v q,∀ K e',Agr o e e'→(xo P T R o K e' s↔q∧K (Env.put e' o.dst v) s):=by
 cases hg:o.grd with
 | none=>
  rcases rm T R o.op (opd e) s with hd | ⟨v,p,hd⟩
  ·left;intro K e' ha h;unfold xo at h;simp only[hg,he]at h;rw[kY (ρ':=opd e) o.op ha.opd]at h;exact hd _ h
  ·right;refine⟨v,p,fun K e' ha=>?_⟩;unfold xo;simp only[hg,he];rw[kY (ρ':=opd e) o.op ha.opd];exact hd _
 | some x=>
  obtain⟨g,c⟩:=x;cases hb:ga c (e g)with
  | some cb=>
   cases cb with
   | true=>
    rcases rm T R o.op (opd e) s with hd | ⟨v,p,hd⟩
    ·left;intro K e' ha h;have hb':e' g=e g:=ha.grd hg;unfold xo at h;simp only[hg,he,hb',hb]at h;rw[kY (ρ':=opd e) o.op ha.opd]at h;exact hd _ h
    ·right;refine⟨.whn true v,p,fun K e' ha=>?_⟩;have hb':e' g=e g:=ha.grd hg;unfold xo;simp only[hg,he,hb',hb];rw[kY (ρ':=opd e) o.op ha.opd];exact hd _
   | false=>
    right;refine⟨.whn false .undef,True,fun K e' ha=>?_⟩;have hb':e' g=e g:=ha.grd hg;unfold xo;simp only[hg,he,hb',hb,true_and]
  | none=>
   left;intro K e' ha h;have hb':e' g=e g:=ha.grd hg;unfold xo at h;simp only[hg,he,hb',hb]at h
theorem mU {v:AV}{K K':Bool→Prop}(h:∀ b,K b→K' b)(hk:uE v K):uE v K':=by
 cases v <;> simp only[uE]at hk ⊢ <;> first
  | exact fun b hb=>h b (hk b hb)
  | exact fun b=>h b (hk b)
  | exact h _ hk
theorem cY (o:AOp)(ρ:Opd→AV)(s:Store){Q Q':AV→Store→Prop}(h:∀ r s',Q r s'→Q' r s')(he:eff P R o ρ s Q):eff P R o ρ s Q':=by
 cases o with
 | alc z=>exact fun b h1 h2=>h _ _ (he b h1 h2)
 | box x=>exact⟨he.1,he.2.1,fun b h1 h2=>h _ _ (he.2.2 b h1 h2)⟩
 | sto p v n=>
  simp only[eff]at he ⊢;refine⟨he.1,he.2.1,he.2.2.1,he.2.2.2.1,?_⟩;have he:=he.2.2.2.2;split
  ·split
   ·simp only[*]at he; exact⟨he.1,he.2.1,h _ _ he.2.2⟩
   ·simp only[*]at he
  ·split
   ·simp only[*]at he; exact⟨he.1,he.2.1,he.2.2.1,he.2.2.2.1,h _ _ he.2.2.2.2⟩
   ·simp only[*]at he
  ·simp only[*]at he
 | mkm kn T0=>exact fun b h1 h2=>h _ _ (he b h1 h2)
 | mks T k b z n=>
  simp only[eff]at he ⊢;refine⟨he.1,?_⟩;have he:=he.2;split
  ·simp only[*]at he; exact⟨he.1,he.2.1,fun b h1 h2=>h _ _ (he.2.2 b h1 h2)⟩
  ·simp only[*]at he
 | bsr T k xs=>exact⟨he.1,he.2.1,fun b h1 h2=>h _ _ (he.2.2 b h1 h2)⟩
 | app T k b x y=>
  simp only[eff]at he ⊢;refine⟨he.1,he.2.1,?_⟩;have he:=he.2.2;refine ee (fun ys hq=>?_) he;split
  ·simp only[*]at hq; exact⟨hq.1,fun h0=>h _ _ (hq.2.1 h0),fun h0 b c h1 h2 h3=>h _ _ (hq.2.2 h0 b c h1 h2 h3)⟩
  ·split
   ·simp only[*]at hq; exact⟨hq.1,hq.2.1,hq.2.2.1,hq.2.2.2.1,hq.2.2.2.2.1,hq.2.2.2.2.2.1,fun b c h1 h2 h3=>h _ _ (hq.2.2.2.2.2.2 b c h1 h2 h3)⟩
   ·simp only[*]at hq
  ·simp only[*]at hq
 | mup kn m key v=>
  simp only[eff]at he ⊢;refine⟨he.1,he.2.1,he.2.2.1,?_⟩;have he:=he.2.2.2;split
  ·split
   ·simp only[*]at he;exact⟨he.1,he.2.1,eb (fun k hk=>h _ _ hk) he.2.2⟩
   ·simp only[*]at he
  ·simp only[*]at he
 | men kn z m key=>
  simp only[eff]at he ⊢;refine⟨he.1,he.2.1,?_⟩;have he:=he.2.2;split
  ·split
   ·simp only[*]at he;exact⟨he.1,he.2.1,eb (fun k hk st=>h _ _ (hk st)) he.2.2⟩
   ·simp only[*]at he
  ·simp only[*]at he
 | ens m st v=>
  simp only[eff]at he ⊢;refine⟨he.1,he.2.1,he.2.2.1,?_⟩;have he:=he.2.2.2;split
  ·split
   ·simp only[*]at he; exact⟨he.1,he.2.1,h _ _ he.2.2⟩
   ·simp only[*]at he
  ·simp only[*]at he
 | isn ne x=>exact⟨he.1,mU (fun b=>h _ _) he.2⟩
 | xcall f xs=>exact⟨he.1,dB (fun r s' hr=>⟨hr.1,h _ _ hr.2⟩) he.2⟩
 | xcallv f xs=>
  simp only[eff]at he ⊢;refine⟨he.1,he.2.1,?_⟩;have he:=he.2.2;split
  ·simp only[*]at he; exact⟨he.1,dB (fun r s' hr=>⟨hr.1,h _ _ hr.2⟩) he.2⟩
  ·simp only[*]at he; exact dB (fun r s' hr=>⟨hr.1,h _ _ hr.2⟩) he
  ·simp only[*]at he
 | alcr T k n z=>exact fun b h1 h2=>h _ _ (he b h1 h2)
 | stl p v n=>
  simp only[eff]at he ⊢;refine⟨he.1,he.2.1,he.2.2.1,he.2.2.2.1,?_⟩;have he:=he.2.2.2.2;split
  ·split
   ·simp only[*]at he; exact⟨he.1,h _ _ he.2⟩
   ·simp only[*]at he
  ·split
   ·simp only[*]at he; exact⟨he.1,he.2.1,he.2.2.1,h _ _ he.2.2.2⟩
   ·simp only[*]at he
  ·simp only[*]at he
 | stoa p v k n=>
  simp only[eff]at he ⊢;refine⟨he.1,he.2.1,?_⟩;have he:=he.2.2;split
  ·split
   ·simp only[*]at he; exact⟨he.1,he.2.1,he.2.2.1,he.2.2.2.1,he.2.2.2.2.1,he.2.2.2.2.2.1,h _ _ he.2.2.2.2.2.2⟩
   ·simp only[*]at he
  ·simp only[*]at he
 | trn x hi=>
  simp only[eff]at he ⊢;refine⟨he.1,he.2.1,?_⟩;have he:=he.2.2;split
  ·split
   ·simp only[*]at he; exact⟨he.1,he.2.1,he.2.2.1,he.2.2.2.1,he.2.2.2.2.1,fun b h1 h2=>h _ _ (he.2.2.2.2.2 b h1 h2)⟩
   ·simp only[*]at he
  ·simp only[*]at he
 | apz T k b z x n=>
  simp only[eff]at he ⊢;refine⟨he.1,he.2.1,?_⟩;have he:=he.2.2;split
  ·simp only[*]at he; exact⟨he.1,he.2.1,fun b c h1 h2 h3=>h _ _ (he.2.2 b c h1 h2 h3)⟩
  ·simp only[*]at he
 | clr x k z=>
  simp only[eff]at he ⊢;refine⟨he.1,?_⟩;have he:=he.2;split
  ·split
   ·simp only[*]at he; exact⟨he.1,he.2.1,he.2.2.1,he.2.2.2.1,he.2.2.2.2.1,h _ _ he.2.2.2.2.2⟩
   ·simp only[*]at he
  ·simp only[*]at he
 | cpy x y k=>
  simp only[eff]at he ⊢;exact⟨he.1,he.2.1,ee (fun ys hk=>mM (fun r b x _ hk=>h _ _ hk) (fun r hk=>h _ _ hk) hk) he.2.2⟩
 | _=>simp only[eff]at he
def iE:AOp→Bool
 | .stl ..=>true
 | _=>false
theorem th (o:AOp)(hl:iE o=false)(ρ:Opd→AV)(s:Store){Q:AV→Store→Prop}(he:eff P R o ρ s Q):eff P R o ρ s (fun r s'=>Q r s'∧∀ b,R b→s' b=s b):=by
 have u:∀ {b:Nat} (x:AObj),¬ R b→∀ c,R c→upd s b x c=s c:=fun x hb c hc=>ay _ _ fun e=>hb (e▸hc);have ud:∀ {b b':Nat} (x:AObj),¬ R b→¬ R b'→∀ c,R c→upd (del s b) b' x c=s c:=fun {b b'} x hb hb' c hc=>by
  have h1:c≠b':=fun e=>hb' (e▸hc);have h2:c≠b:=fun e=>hb (e▸hc);rw[ay _ _ h1];unfold del;rw[if_neg h2]
 cases o with
 | alc z=>exact fun b h1 h2=>⟨he b h1 h2,u _ h2⟩
 | box x=>exact⟨he.1,he.2.1,fun b h1 h2=>⟨he.2.2 b h1 h2,u _ h2⟩⟩
 | sto p v n=>
  simp only[eff]at he ⊢;refine⟨he.1,he.2.1,he.2.2.1,he.2.2.2.1,?_⟩;have he:=he.2.2.2.2;split
  ·split
   ·simp only[*]at he; exact⟨he.1,he.2.1,he.2.2,u _ he.1⟩
   ·simp only[*]at he
  ·split
   ·simp only[*]at he; exact⟨he.1,he.2.1,he.2.2.1,he.2.2.2.1,he.2.2.2.2,u _ he.2.1⟩
   ·simp only[*]at he
  ·simp only[*]at he
 | mkm kn T0=>exact fun b h1 h2=>⟨he b h1 h2,u _ h2⟩
 | mks T k b z n=>
  simp only[eff]at he ⊢;refine⟨he.1,?_⟩;have he:=he.2;split
  ·simp only[*]at he; exact⟨he.1,he.2.1,fun b h1 h2=>⟨he.2.2 b h1 h2,u _ h2⟩⟩
  ·simp only[*]at he
 | bsr T k xs=>exact⟨he.1,he.2.1,fun b h1 h2=>⟨he.2.2 b h1 h2,u _ h2⟩⟩
 | app T k b x y=>
  simp only[eff]at he ⊢;refine⟨he.1,he.2.1,?_⟩;have he:=he.2.2;refine ee (fun ys hq=>?_) he;split
  ·simp only[*]at hq; exact⟨hq.1,fun h0=>⟨hq.2.1 h0,fun _ _=>trivial⟩,fun h0 b c h1 h2 h3=>⟨hq.2.2 h0 b c h1 h2 h3,u _ h2⟩⟩
  ·split
   ·simp only[*]at hq; exact⟨hq.1,hq.2.1,hq.2.2.1,hq.2.2.2.1,hq.2.2.2.2.1,hq.2.2.2.2.2.1,fun b c h1 h2 h3=>⟨hq.2.2.2.2.2.2 b c h1 h2 h3,ud _ hq.2.2.2.2.1 h2⟩⟩
   ·simp only[*]at hq
  ·simp only[*]at hq
 | mup kn m key v=>
  simp only[eff]at he ⊢;refine⟨he.1,he.2.1,he.2.2.1,?_⟩;have he:=he.2.2.2;split
  ·split
   ·simp only[*]at he;exact⟨he.1,he.2.1,eb (fun k hk=>⟨hk,u _ he.2.1⟩) he.2.2⟩
   ·simp only[*]at he
  ·simp only[*]at he
 | men kn z m key=>
  simp only[eff]at he ⊢;refine⟨he.1,he.2.1,?_⟩;have he:=he.2.2;split
  ·split
   ·simp only[*]at he;exact⟨he.1,he.2.1,eb (fun k hk st=>⟨hk st,u _ he.2.1⟩) he.2.2⟩
   ·simp only[*]at he
  ·simp only[*]at he
 | ens m st v=>
  simp only[eff]at he ⊢;refine⟨he.1,he.2.1,he.2.2.1,?_⟩;have he:=he.2.2.2;split
  ·split
   ·simp only[*]at he; exact⟨he.1,he.2.1,he.2.2,u _ he.2.1⟩
   ·simp only[*]at he
  ·simp only[*]at he
 | isn ne x=>exact⟨he.1,mU (fun b hk=>⟨hk,fun _ _=>rfl⟩) he.2⟩
 | xcall f xs=>exact⟨he.1,dB (fun r s' hr=>⟨hr.1,hr.2,hr.1⟩) he.2⟩
 | xcallv f xs=>
  simp only[eff]at he ⊢;refine⟨he.1,he.2.1,?_⟩;have he:=he.2.2;split
  ·simp only[*]at he; exact⟨he.1,dB (fun r s' hr=>⟨hr.1,hr.2,hr.1⟩) he.2⟩
  ·simp only[*]at he; exact dB (fun r s' hr=>⟨hr.1,hr.2,hr.1⟩) he
  ·simp only[*]at he
 | stl p v n=>simp[iE]at hl
 | alcr T k n z=>exact fun b h1 h2=>⟨he b h1 h2,u _ h2⟩
 | stoa p v k n=>
  simp only[eff]at he ⊢;refine⟨he.1,he.2.1,?_⟩;have he:=he.2.2;split
  ·split
   ·simp only[*]at he; exact⟨he.1,he.2.1,he.2.2.1,he.2.2.2.1,he.2.2.2.2.1,he.2.2.2.2.2.1,he.2.2.2.2.2.2,u _ he.2.2.2.2.2.1⟩
   ·simp only[*]at he
  ·simp only[*]at he
 | trn x hi=>
  simp only[eff]at he ⊢;refine⟨he.1,he.2.1,?_⟩;have he:=he.2.2;split
  ·split
   ·simp only[*]at he; exact⟨he.1,he.2.1,he.2.2.1,he.2.2.2.1,he.2.2.2.2.1,fun b h1 h2=>⟨he.2.2.2.2.2 b h1 h2,ud _ he.2.2.1 h2⟩⟩
   ·simp only[*]at he
  ·simp only[*]at he
 | apz T k b z x n=>
  simp only[eff]at he ⊢;refine⟨he.1,he.2.1,?_⟩;have he:=he.2.2;split
  ·simp only[*]at he; exact⟨he.1,he.2.1,fun b c h1 h2 h3=>⟨he.2.2 b c h1 h2 h3,u _ h2⟩⟩
  ·simp only[*]at he
 | clr x k z=>
  simp only[eff]at he ⊢;refine⟨he.1,?_⟩;have he:=he.2;split
  ·split
   ·simp only[*]at he; exact⟨he.1,he.2.1,he.2.2.1,he.2.2.2.1,he.2.2.2.2.1,he.2.2.2.2.2,u _ he.2.2.2.2.1⟩
   ·simp only[*]at he
  ·simp only[*]at he
 | cpy x y k=>
  simp only[eff]at he ⊢;exact⟨he.1,he.2.1,ee (fun ys hk=>mM (fun r b x hR hk=>⟨hk,u _ hR⟩) (fun r hk=>⟨hk,fun _ _=>rfl⟩) hk) he.2.2⟩
 | _=>simp only[eff]at he
def mV:AOp→Bool
 | .alc _ | .box _ | .mkm .. | .bsr .. | .mks .. | .alcr ..=>true
 | _=>false
theorem wN (o:AOp)(h:mV o=true)(ρ:Opd→AV)(s:Store){Q:AV→Store→Prop}(he:eff P R o ρ s Q):eff P R o ρ s (fun r s'=>Q r s'∧∀ b,s b≠none→s' b=s b):=by
 have u:∀ {b:Nat} (x:AObj),s b=none→∀ c,s c≠none→upd s b x c=s c:=fun x hb c hc=>ay _ _ fun e=>hc (e▸hb);cases o with
 | alc z=>exact fun b h1 h2=>⟨he b h1 h2,u _ h1⟩
 | box x=>exact⟨he.1,he.2.1,fun b h1 h2=>⟨he.2.2 b h1 h2,u _ h1⟩⟩
 | mkm kn T0=>exact fun b h1 h2=>⟨he b h1 h2,u _ h1⟩
 | alcr T k n z=>exact fun b h1 h2=>⟨he b h1 h2,u _ h1⟩
 | mks T k b z n=>
  simp only[eff]at he ⊢;refine⟨he.1,?_⟩;have he:=he.2;split
  ·simp only[*]at he; exact⟨he.1,he.2.1,fun b h1 h2=>⟨he.2.2 b h1 h2,u _ h1⟩⟩
  ·simp only[*]at he
 | bsr T k xs=>exact⟨he.1,he.2.1,fun b h1 h2=>⟨he.2.2 b h1 h2,u _ h1⟩⟩
 | _=>simp[mV]at h
def MenR (z:AV)(x y:Option AObj):Prop:=y=x∨∃ kn es pd es' pd',x=some (.imap kn es pd)∧y=some (.imap kn es' pd')∧∀ k,(bK es' k).getD z=(bK es k).getD z
def uP:AOp→Option AV
 | .men _ z _ _=>some z
 | _=>none
theorem mW:∀ (es:List (List Int×AV)) (k k':List Int) (v:AV),bK (mput es k v) k'=if k'=k then some v else bK es k'
 | [],k,k',v=>by
  by_cases h:k'=k
  ·subst h; simp[mput,bK]
  ·simp[mput,bK,h,Ne.symm h]
 | (k1,u)::l,k,k',v=>by
  have ih:=mW l k k' v;by_cases h1:k1=k
  ·subst h1;by_cases h:k'=k1
   ·subst h; simp[mput,bK]
   ·simp[mput,bK,h,Ne.symm h]
  ·simp only[mput,if_neg h1];by_cases h2:k1=k'
   ·subst h2; simp[bK,h1]
   ·have e1:bK ((k1,u)::mput l k v) k'=bK (mput l k v) k':=by simp[bK,h2]
    have e2:bK ((k1,u)::l) k'=bK l k':=by simp[bK,h2]
    rw[e1,e2,ih]
theorem wO (o:AOp){z:AV}(h:uP o=some z)(ρ:Opd→AV)(s:Store){Q:AV→Store→Prop}(he:eff P R o ρ s Q):eff P R o ρ s (fun r s'=>Q r s'∧∀ b,MenR z (s b) (s' b)):=by
 cases o with
 | men kn z' m key=>
  cases h;simp only[eff]at he ⊢;refine⟨he.1,he.2.1,?_⟩;have he:=he.2.2;split
  ·rename_i b0 hb0;simp only[hb0]at he;split
   ·rename_i kn' es pd hsb;simp only[hsb]at he;obtain rfl:=he.1;refine⟨he.1,he.2.1,eb (fun k hk st=>⟨hk st,fun c=>?_⟩) he.2.2⟩;by_cases hc:c=b0
    ·subst hc;exact .inr ⟨_,_,_,_,_,hsb,upd_same _ _ _,fun k'=>by
      rw[mW];split
      ·rename_i e; rw[e]; rfl
      ·rfl⟩
    ·exact .inl (ay _ _ hc)
   ·rename_i hne;split at he
    ·rename_i h1; exact absurd h1 (hne _ _ _)
    ·exact he.elim
  ·rename_i hne;split at he
   ·rename_i h1; exact absurd h1 (hne _)
   ·exact he.elim
 | _=>simp[uP]at h
structure Frm (R:Nat→Prop) (o:AOp) (s s':Store):Prop where
 keep:iE o=false→∀ b,R b→s' b=s b
 new:mV o=true→∀ b,s b≠none→s' b=s b
 men:∀ z,uP o=some z→∀ b,MenR z (s b) (s' b)
theorem Frm.refl (R:Nat→Prop)(o:AOp)(s:Store):Frm R o s s:=⟨fun _ _ _=>rfl,fun _ _ _=>rfl,fun _ _ _=>.inl rfl⟩
theorem rn (o:AOp)(ρ:Opd→AV)(s:Store){Q:AV→Store→Prop}(he:eff P R o ρ s Q):eff P R o ρ s (fun r s'=>Q r s'∧Frm R o s s'):=by
 have h1:eff P R o ρ s (fun r s'=>Q r s'∧(iE o=false→∀ b,R b→s' b=s b)):=by
  cases hl:iE o with
  | true=>exact cY _ _ _ (fun r s' h=>⟨h,fun h=>by cases h⟩) he
  | false=>exact cY _ _ _ (fun r s' h=>⟨h.1,fun _=>h.2⟩) (th (P:=P) (R:=R) o hl ρ s he)
 have h2:eff P R o ρ s (fun r s'=>(Q r s'∧(iE o=false→∀ b,R b→s' b=s b))∧(mV o=true→∀ b,s b≠none→s' b=s b)):=by
  cases hn:mV o with
  | true=>exact cY _ _ _ (fun r s' h=>⟨h.1,fun _=>h.2⟩) (wN o hn ρ s h1)
  | false=>exact cY _ _ _ (fun r s' h=>⟨h,fun h=>by cases h⟩) h1
 cases hz:uP o with
 | some z=>exact cY _ _ _ (fun r s' h=>⟨h.1.1.1,h.1.1.2,h.1.2,fun z' hz'=>by rw[hz]at hz'; cases hz'; exact h.2⟩) (wO o hz ρ s h2)
 | none=>exact cY _ _ _ (fun r s' h=>⟨h.1.1,h.1.2,h.2,fun z' hz'=>by rw[hz]at hz'; cases hz'⟩) h2
theorem lI (o:AOper)(he:bA o.op=true)(e:Env)(s:Store):∃ Φ:(AV→Store→Prop)→Prop,(∀ Q Q',(∀ r s',Q r s'→Q' r s')→Φ Q→Φ Q')∧(∀ Q,Φ Q→Φ fun r s'=>Q r s'∧Frm R o.op s s') ∧
  ∀ K e',Agr o e e'→(xo P T R o K e' s↔Φ fun r s'=>K (Env.put e' o.dst r) s'):=by
 cases hg:o.grd with
 | none=>
  refine⟨fun Q=>eff P R o.op (opd e) s Q,fun Q Q' h h1=>cY _ _ _ h h1,fun Q h=>rn _ _ _ h,fun K e' ha=>?_⟩;unfold xo;simp only[hg,he];rw[jd (ρ':=opd e) o.op ha.opd]
 | some x=>
  obtain⟨g,c⟩:=x;cases hb:ga c (e g)with
  | some cb=>
   refine⟨fun Q=>(cb=true→eff P R o.op (opd e) s Q)∧(cb=false→Q .undef s),fun Q Q' h h1=>⟨fun hc=>cY _ _ _ h (h1.1 hc),fun hc=>h _ _ (h1.2 hc)⟩,fun Q h=>⟨fun hc=>rn _ _ _ (h.1 hc),fun hc=>⟨h.2 hc,Frm.refl _ _ _⟩⟩,fun K e' ha=>?_⟩;have hb':e' g=e g:=ha.grd hg;unfold xo;simp only[hg,he,hb',hb];rw[jd (ρ':=opd e) o.op ha.opd]
  | none=>
   refine⟨fun _=>False,fun _ _ _ h=>h,fun _ h=>h,fun K e' ha=>⟨fun h=>?_,fun h=>h.elim⟩⟩;have hb':e' g=e g:=ha.grd hg;unfold xo at h;simp only[hg,he,hb',hb]at h
theorem kZ {o:AOper}{K K':Env→Store→Prop}(h:∀ e s,K e s→K' e s){e:Env}{s:Store}(hx:xo P T R o K e s):xo P T R o K' e s:=by
 cases he:bA o.op with
 | true=>
  obtain⟨Φ,m,_,f⟩:=lI (P:=P) (T:=T) (R:=R) o he e s;rw[f _ _ (Agr.refl _ _)]at hx ⊢;exact m _ _ (fun r s'=>h _ _) hx
 | false=>
  rcases dP (P:=P) (T:=T) (R:=R) o he e s with f | ⟨v,q,f⟩
  ·exact absurd hx (f _ _ (Agr.refl _ _))
  ·rw[f _ _ (Agr.refl _ _)]at hx ⊢;exact⟨hx.1,h _ _ hx.2⟩
def lJ:AOp→Bool
 | .ld1 .. | .ldn .. | .lkp .. | .lenm .. | .call .. | .callv ..=>true
 | _=>false
def Kg:AOp→Bool
 | .ld1 _ fr | .ldn _ _ fr | .lkp _ _ _ _ _ fr | .lenm _ fr=>fr
 | _=>false
theorem mX (o:AOp)(h:lJ o=false)(ρ:Opd→AV)(s s':Store)(K:AV→Prop→Prop):nop T R o ρ s K=nop T R o ρ s' K:=by
 cases o <;> first
  | (simp[lJ]at h; done)
  | simp only[nop]
theorem Dq (o:AOp)(h:Kg o=true)(ρ:Opd→AV)(s s':Store)(hs:∀ b,R b→s' b=s b){Q:AV→Prop}(hn:nop T R o ρ s fun v ob=>ob∧Q v):nop T R o ρ s' fun v ob=>ob∧Q v:=by
 cases o with
 | ld1 x fr=>
  obtain rfl:fr=true:=h;simp only[nop]at hn ⊢;split at hn
  ·exact hn
  ·rename_i b o' hx;split at hn
   ·rename_i cs hb; simp only[hs b (hn.1.2.2 trivial),hb]; exact hn
   ·exact hn.elim
  ·rename_i b k i j hx;split at hn
   ·rename_i T' k' c xs hb; simp only[hs b (hn.2.1.2.2.2 trivial),hb]; exact hn
   ·exact hn.elim
  ·exact hn.elim
 | ldn x n fr=>
  obtain rfl:fr=true:=h;simp only[nop]at hn ⊢;split at hn
  ·exact hn
  ·rename_i b o' hx;split at hn
   ·rename_i cs hb; simp only[hs b (hn.1.2.2 trivial),hb]; exact hn
   ·exact hn.elim
  ·rename_i b k i j hx;split at hn
   ·rename_i T' k' c xs hb; simp only[hs b (hn.2.1.2.2.2 trivial),hb]; exact hn
   ·exact hn.elim
  ·exact hn.elim
 | lkp kn ok z m key fr=>
  obtain rfl:fr=true:=h;simp only[nop]at hn ⊢;split at hn
  ·rename_i b hb;split at hn
   ·rename_i ag es pd hsb;have hRb:R b:=by
     obtain⟨k,hk,_⟩:=fI hn.2;exact hk.1.2.2 trivial
    simp only[hs b hRb,hsb]; exact hn
   ·exact hn.elim
  ·exact hn.elim
 | lenm m fr=>
  obtain rfl:fr=true:=h;simp only[nop]at hn ⊢;split at hn
  ·rename_i b hb;split at hn
   ·rename_i ag es pd hsb; simp only[hs b (hn.1.2 trivial),hsb]; exact hn
   ·exact hn.elim
  ·exact hn.elim
 | _=>simp[Kg]at h
def Dr:AOp→Bool
 | .ld1 .. | .ldn .. | .lkp .. | .lenm ..=>true
 | _=>false
theorem Ds (o:AOp)(h:Dr o=true)(ρ:Opd→AV)(s s':Store)(hs:∀ b,s b≠none→s' b=s b){Q:AV→Prop→Prop}(hn:nop T R o ρ s Q):nop T R o ρ s' Q:=by
 have hs':∀ {b x},s b=some x→s' b=some x:=fun {b x} hb=>by rw[hs b (by rw[hb]; simp),hb]
 cases o with
 | ld1 x fr=>
  simp only[nop]at hn ⊢;split at hn
  ·exact hn
  ·rename_i b o' hx;split at hn
   ·rename_i cs hb; simp only[hs' hb]; exact hn
   ·exact hn.elim
  ·rename_i b k i j hx;split at hn
   ·rename_i T' k' c xs hb; simp only[hs' hb]; exact hn
   ·exact hn.elim
  ·exact hn.elim
 | ldn x n fr=>
  simp only[nop]at hn ⊢;split at hn
  ·exact hn
  ·rename_i b o' hx;split at hn
   ·rename_i cs hb; simp only[hs' hb]; exact hn
   ·exact hn.elim
  ·rename_i b k i j hx;split at hn
   ·rename_i T' k' c xs hb; simp only[hs' hb]; exact hn
   ·exact hn.elim
  ·exact hn.elim
 | lkp kn ok z m key fr=>
  simp only[nop]at hn ⊢;split at hn
  ·rename_i b hb;split at hn
   ·rename_i ag es pd hsb;simp only[hs' hsb]; exact hn
   ·exact hn.elim
  ·exact hn.elim
 | lenm m fr=>
  simp only[nop]at hn ⊢;split at hn
  ·rename_i b hb;split at hn
   ·rename_i ag es pd hsb; simp only[hs' hsb]; exact hn
   ·exact hn.elim
  ·exact hn.elim
 | _=>simp[Dr]at h
def Jl:AOp→Option AV
 | .lkp _ false z _ _ false=>some z
 | _=>none
theorem Dt (o:AOp){z:AV}(h:Jl o=some z)(ρ:Opd→AV)(s s':Store)(hs:∀ b,MenR z (s b) (s' b)){Q:AV→Prop→Prop}(hn:nop T R o ρ s Q):nop T R o ρ s' Q:=by
 cases o with
 | lkp kn ok z' m key fr=>
  cases ok <;> cases fr <;> simp only[Jl,Option.some.injEq]at h <;> try (cases h; done)
  subst h;simp only[nop]at hn ⊢;split at hn
  ·rename_i b hb;split at hn
   ·rename_i ag es pd hsb;rcases hs b with e | ⟨kn2,es2,pd2,es',pd',e1,e2,e3⟩
    ·rw[e,hsb]; exact hn
    ·rw[hsb]at e1;cases e1;simp only[e2,e3];exact hn
   ·exact hn.elim
  ·exact hn.elim
 | _=>simp[Jl]at h
def Du:Option AV→Option AV→Bool
 | some (.int k n),some (.int k' n')=>decide (k=k')&&decide (n=n')
 | some (.bool b),some (.bool b')=>decide (b=b')
 | _,_=>false
theorem wP {x y:Option AV}(h:Du x y=true):∃ z,x=some z∧y=some z:=by
 unfold Du at h;split at h
 ·simp only[Bool.and_eq_true,decide_eq_true_eq]at h; obtain⟨rfl,rfl⟩:=h; exact⟨_,rfl,rfl⟩
 ·simp only[decide_eq_true_eq]at h; subst h; exact⟨_,rfl,rfl⟩
 ·cases h
def uQ:AOp→Bool
 | .alc _ | .box _ | .mkm .. | .bsr .. | .alcr ..=>true
 | _=>false
def qp:AOp→Bool
 | .alc _ | .mkm .. | .alcr ..=>true
 | _=>false
theorem uR (o:AOp)(h:uQ o=true)(ρ:Opd→AV):∃ (c:Prop) (mk:Nat→AV) (x:AObj),∀ s Q,eff P R o ρ s Q↔c∧∀ b,s b=none→¬ R b→Q (mk b) (upd s b x):=by
 cases o with
 | alc z=>exact⟨True,fun b=>.ptr b 0,.box z,fun s Q=>by simp[eff]⟩
 | box x=>exact⟨(ρ x).df∧(cellsOf (ρ x).val).all AV.one=true,fun b=>.ptr b 0,.box (cellsOf (ρ x).val),fun s Q=>by simp only[eff,and_assoc]⟩
 | mkm kn T0=>exact⟨True,fun b=>.mp b,.imap kn [] none,fun s Q=>by simp[eff]⟩
 | alcr T k n z=>exact⟨True,fun b=>.rptr b k 0 0,.row T k n (List.replicate n z),fun s Q=>by simp[eff]⟩
 | bsr T k xs=>exact⟨ko ρ xs∧eM AV.one k (vals ρ xs),fun b=>.slc b xs.length xs.length,.row T k xs.length ((vals ρ xs).map cellsOf),fun s Q=>by simp only[eff,and_assoc]⟩
 | _=>simp[uQ]at h
theorem jI (o:AOp)(h:qp o=true)(ρ:Opd→AV):∃ (mk:Nat→AV) (x:AObj),∀ s Q,eff P R o ρ s Q↔∀ b,s b=none→¬ R b→Q (mk b) (upd s b x):=by
 cases o with
 | alc z=>exact⟨fun b=>.ptr b 0,.box z,fun s Q=>by simp[eff]⟩
 | mkm kn T0=>exact⟨fun b=>.mp b,.imap kn [] none,fun s Q=>by simp[eff]⟩
 | alcr T k n z=>exact⟨fun b=>.rptr b k 0 0,.row T k n (List.replicate n z),fun s Q=>by simp[eff]⟩
 | _=>simp[qp]at h
def ti:AOp→Bool
 | .xcall ..=>true
 | _=>false
theorem uS {P:Program}{f:FuncId}{as:List AV}{s:Store}{b0:Nat}{x:AObj}{Q:AV→Store→Prop}(h:ACF P f as s Q)(hb:s b0=none):ACF P f as (upd s b0 x) (fun r s'=>∃ s2,s'=upd s2 b0 x∧s2 b0=none∧Q r s2):=by
 intro F hF;have hF0:F b0=none:=by
  cases hf:F b0 with
  | none=>rfl
  | some y=>
   have:=hF b0 (by rw[hf]; simp);rw[upd_same]at this; cases this
 have ap:lu s (upd F b0 x):=fun b hb'=>by
  by_cases e:b=b0
  ·rw[e]; exact hb
  ·rw[ay _ _ e]at hb';have:=hF b hb'
   rwa [ay _ _ e]at this
 have e1:bW s (upd F b0 x)=bW (upd s b0 x) F:=by
  funext b
  unfold bW;by_cases e:b=b0
  ·rw[e,upd_same,hF0,upd_same]
  ·rw[ay _ _ e,ay _ _ e]
 have:=h (upd F b0 x) ap;rw[e1]at this;refine fE ?_ this;rintro r s1 ⟨s2,h1,h2,h3⟩;have h0:s2 b0=none:=h1 b0 (by rw[upd_same]; simp);refine⟨upd s2 b0 x,fun b hb'=>?_,?_,s2,rfl,h0,h3⟩
 ·by_cases e:b=b0
  ·rw[e]at hb'; exact absurd hF0 hb'
  ·rw[ay _ _ e]; exact h1 b (by rw[ay _ _ e]; exact hb')
 ·rw[h2]
  funext b
  unfold bW;by_cases e:b=b0
  ·rw[e,upd_same,hF0,upd_same]
  ·rw[ay _ _ e,ay _ _ e]
theorem oU (s:Store){b c:Nat}(x y:AObj)(h:b≠c):upd (upd s b x) c y=upd (upd s c y) b x:=by
 funext d
 unfold upd;by_cases h1:d=c
 ·subst h1; simp[Ne.symm h]
 ·by_cases h2:d=b
  ·subst h2; simp[h1]
  ·simp[h1,h2]
def uT:AOp→Bool
 | .app ..=>true
 | _=>false
theorem wQ {o:AOp}(ho:uT o=true){ρ:Opd→AV}{s:Store}{b0:Nat}{x:AObj}{Q:AV→Store→Prop}(h:eff P R o ρ s Q)(hb:s b0=none):eff P R o ρ (upd s b0 x) (fun r s'=>∃ s2,s'=upd s2 b0 x∧s2 b0=none∧Q r s2):=by
 cases o with
 | app T k by_ y z=>
  simp only[eff]at h ⊢;refine⟨h.1,h.2.1,?_⟩;have hup:∀ b y,s b=some y→upd s b0 x b=some y:=fun b y hy=>by
   rw[ay _ _ (fun e=>by rw[e,hb]at hy; cases hy)]; exact hy
  refine ee (fun ys hq=>?_) (uO hup h.2.2);split
  ·simp only[*]at hq;refine⟨hq.1,fun h0=>⟨s,rfl,hb,hq.2.1 h0⟩,fun h0 b c h1 h2 h3=>?_⟩;have hne:b≠b0:=fun e=>by rw[e,upd_same]at h1; cases h1
   rw[ay _ _ hne]at h1;exact⟨_,oU _ _ _ (Ne.symm hne),by rw[ay _ _ (Ne.symm hne)]; exact hb,hq.2.2 h0 b c h1 h2 h3⟩
  ·rename_i b n c he;cases hsb:s b with
   | none=>simp only[he,hsb]at hq
   | some y=>
    rw[hup _ _ hsb];have hbb:b≠b0:=fun e=>by rw[e,hb]at hsb; cases hsb
    cases y with
    | row T' k' c' xs=>
     simp only[he,hsb]at hq ⊢;refine⟨hq.1,hq.2.1,hq.2.2.1,hq.2.2.2.1,hq.2.2.2.2.1,hq.2.2.2.2.2.1,fun b' c'' h1 h2 h3=>?_⟩;have hne:b'≠b0:=fun e=>by
      rw[e]at h1;unfold del at h1;rw[if_neg (Ne.symm hbb),upd_same]at h1;cases h1
     have h1':del s b b'=none:=by
      unfold del at h1 ⊢;split
      ·rfl
      ·rename_i hh; rw[if_neg hh,ay _ _ hne]at h1; exact h1
     refine⟨_,?_,?_,hq.2.2.2.2.2.2 b' c'' h1' h2 h3⟩
     ·funext q
      unfold upd del;by_cases e1:q=b'
      ·subst e1; simp[hne]
      ·by_cases e2:q=b0
       ·subst e2; simp[e1,Ne.symm hbb]
       ·simp[e1,e2]
     ·unfold upd del
      simp[Ne.symm hne,Ne.symm hbb,hb]
    | _=>simp only[he,hsb]at hq
  ·simp only[*]at hq
 | _=>simp[uT]at ho
def lK (a b : AOper) : Bool :=
 (match a.dst with
  | some d => !(kx b).contains d && b.dst != some d
  | none => true) &&
 (match b.dst with
  | some d => !(kx a).contains d
  | none => true)
def Jm (a b:AOper):Bool:=lK a b &&
 (if bA a.op then bA b.op&&(uQ a.op||ti a.op||uT a.op)&&a.grd.isNone&&qp b.op&&b.grd.isNone
  else !bA b.op||!lJ a.op||(Kg a.op&&(a.grd.isNone&&!iE b.op))||(Dr a.op&&mV b.op&&a.grd.isNone)||(Du (Jl a.op) (uP b.op)&&a.grd.isNone))
theorem ky {a b:AOper}(h:lK a b=true):(∀ d,a.dst=some d→d∉kx b)∧(∀ d,a.dst=some d→b.dst≠some d)∧(∀ d,b.dst=some d→d∉kx a):=by
 refine⟨fun d hd=>?_,fun d hd=>?_,fun d hd=>?_⟩ <;> simp[lK,hd]at h
 ·exact h.1.1
 ·exact h.1.2
 ·exact h.2
def lL (ck:Option Nat)(e:Env):Prop:=match ck with
 | none=>True
 | some n=>(opd e (.t n)).df∧sZ 8 (opd e (.t n)).val
theorem oV {ck:Option Nat}{e:Env}(h:lL ck e){d:Option Nat}(hd:∀ n,ck=some n→d≠some n)(v:AV):lL ck (Env.put e d v):=by
 cases ck with
 | none=>trivial
 | some n=>
  have:opd (Env.put e d v) (.t n)=opd e (.t n):=by
   show Env.put e d v n=e n;cases d with
   | none=>rfl
   | some m=>
    have:n≠m:=fun e=>hd n rfl (e▸rfl);simp only[Env.put,Env.set,if_neg this]
  unfold lL;simp only[this];exact h
theorem wR {o:AOper}{ck:Option Nat}{K:Env→Store→Prop}(hd:∀ n,ck=some n→o.dst≠some n){e:Env}{s:Store}(hc:lL ck e)(hx:xo P T R o K e s):xo P T R o (fun e' s'=>lL ck e'∧K e' s') e s:=by
 cases he:bA o.op with
 | true=>
  obtain⟨Φ,m,_,f⟩:=lI (P:=P) (T:=T) (R:=R) o he e s;rw[f _ _ (Agr.refl _ _)]at hx ⊢;exact m _ _ (fun r s' h=>⟨oV hc hd _,h⟩) hx
 | false=>
  rcases dP (P:=P) (T:=T) (R:=R) o he e s with f | ⟨v,q,f⟩
  ·exact absurd hx (f _ _ (Agr.refl _ _))
  ·rw[f _ _ (Agr.refl _ _)]at hx ⊢;exact⟨hx.1,oV hc hd _,hx.2⟩
theorem wS {a b:AOper}(hap:lK a b=true)(hga:a.grd=none)(hgb:b.grd=none)(ha1:ti a.op=true)(heb:bA b.op=true){K:Env→Store→Prop}{e:Env}{s:Store}{c:Prop}{mk':Nat→AV}{x':AObj}
  (f2:∀ s Q,eff P R b.op (opd e) s Q↔c∧∀ b,s b=none→¬ R b→Q (mk' b) (upd s b x')) (hc:c) (hx:xo P T R a (xo P T R b K) e s):xo P T R b (xo P T R a K) e s:=by
 obtain⟨p1,p2,p3⟩:=ky hap;have agb:∀ {e:Env} (v:AV),Agr b e (Env.put e a.dst v):=fun v=>(Agr.refl b _).put p1;have aga:∀ {e:Env} (v:AV),Agr a e (Env.put e b.dst v):=fun v=>(Agr.refl a _).put p3;have hea:bA a.op=true:=by
  cases hop:a.op with
  | xcall f xs=>rfl
  | _=>rw[hop]at ha1; simp[ti]at ha1
 unfold xo at hx ⊢;simp only[hga,hgb,hea,heb]at hx ⊢;have exb:∀ r s1 Q,eff P R b.op (opd (Env.put e a.dst r)) s1 Q=eff P R b.op (opd e) s1 Q:=fun r s1 Q=>jd b.op (agb r).opd Q;cases hop:a.op with
 | xcall f xs=>
  rw[hop]at hx;obtain⟨hx1,hx2⟩:=(show ko (opd e) xs∧ACF P f (vals (opd e) xs) s (fun r s'=>(∀ d,R d→s' d=s d)∧eff P R b.op (opd (Env.put e a.dst r)) s' fun v s1=>K (Env.put (Env.put e a.dst r) b.dst v) s1)from hx);rw[f2];refine⟨hc,fun b2 h2 hR2=>?_⟩;have ev:vals (opd (Env.put e b.dst (mk' b2))) xs=vals (opd e) xs:=cM xs fun y hy=>(aga (mk' b2)).opd y (by rw[hop]; exact hy);have ed:ko (opd (Env.put e b.dst (mk' b2))) xs=ko (opd e) xs:=dfs_ext xs fun y hy=>(aga (mk' b2)).opd y (by rw[hop]; exact hy);show ko (opd (Env.put e b.dst (mk' b2))) xs∧ACF P f (vals (opd (Env.put e b.dst (mk' b2))) xs) _ _;rw[ev,ed];refine⟨hx1,dB ?_ (uS (x:=x') hx2 h2)⟩;rintro r s1 ⟨s2,rfl,h3,hk,h4⟩;refine⟨fun d hd=>?_,?_⟩
  ·have hne:d≠b2:=fun e=>hR2 (e▸hd);rw[ay _ _ hne,ay _ _ hne]; exact hk d hd
  ·rw[exb,f2]at h4;have:=h4.2 b2 h3 hR2;rw[fj e r (mk' b2) p2]at this;exact this
 | _=>rw[hop]at ha1; simp[ti]at ha1
def Kh (n:Nat)(a b:AOper):Bool:=lK a b&&(ti a.op&&(a.grd.isNone&&(b.grd.isNone&&(match b.op with
 | .mks _ _ by2 _ (.t n2)=>Nat.beq 8 by2&&Nat.beq n n2
 | _=>false))))
theorem uU {n:Nat}{a b:AOper}(h:Kh n a b=true){K:Env→Store→Prop}{e:Env}{s:Store}(hc:lL (some n) e)(hx:xo P T R a (xo P T R b K) e s):xo P T R b (xo P T R a K) e s:=by
 simp only[Kh,Bool.and_eq_true]at h;obtain⟨h1,h2,h3,h4,h5⟩:=h;split at h5
 ·rename_i T' k by2 z n2 hop;simp only[Bool.and_eq_true]at h5;obtain rfl:=Nat.eq_of_beq_eq_true h5.1;obtain rfl:=Nat.eq_of_beq_eq_true h5.2;have hc':(opd e (.t n)).df∧sZ 8 (opd e (.t n)).val:=hc;cases hv:(opd e (.t n)).val with
  | int ki m=>
   rw[hv]at hc';exact wS (c:=(opd e (.t n)).df∧0≤m∧((8:Nat):Int)*m≤140737488355328) (mk':=fun b=>.slc b m.toNat m.toNat) (x':=.row T' k m.toNat (List.replicate m.toNat z)) h1 (by simpa using h3) (by simpa using h4) h2 (by rw[hop]; rfl)
    (fun s Q=>by rw[hop]; simp only[eff,hv,and_assoc]) hc' hx
  | _=>rw[hv]at hc'; exact absurd hc'.2 (by simp[sZ])
 ·cases h5
theorem rq {a b:AOper}(h:Jm a b=true){K:Env→Store→Prop}{e:Env}{s:Store}(hx:xo P T R a (xo P T R b K) e s):xo P T R b (xo P T R a K) e s:=by
 simp only[Jm,Bool.and_eq_true]at h;obtain⟨hap,hc⟩:=h;obtain⟨p1,p2,p3⟩:=ky hap;have agb:∀ {e:Env} (v:AV),Agr b e (Env.put e a.dst v):=fun v=>(Agr.refl b _).put p1;have aga:∀ {e:Env} (v:AV),Agr a e (Env.put e b.dst v):=fun v=>(Agr.refl a _).put p3;cases hea:bA a.op with
 | false=>
  rcases dP (P:=P) (T:=T) (R:=R) a hea e s with fa | ⟨va,qa,fa⟩
  ·exact absurd hx (fa _ _ (Agr.refl _ _))
  rw[fa _ _ (Agr.refl _ _)]at hx;obtain⟨hqa,hx⟩:=hx;cases heb:bA b.op with
  | false=>
   rcases dP (P:=P) (T:=T) (R:=R) b heb e s with fb | ⟨vb,qb,fb⟩
   ·exact absurd hx (fb _ _ (agb _))
   rw[fb _ _ (agb _)]at hx;rw[fb _ _ (Agr.refl _ _)];refine⟨hx.1,?_⟩;rw[fa _ _ (aga _)];exact⟨hqa,by rw[← fj e va vb p2]; exact hx.2⟩
  | true=>
   obtain⟨Φ,m,fr,fb⟩:=lI (P:=P) (T:=T) (R:=R) b heb e s;rw[fb _ _ (agb _)]at hx;rw[fb _ _ (Agr.refl _ _)];refine m _ _ ?_ (fr _ hx);rintro r s' ⟨hk,hs'⟩;have h1:xo P T R a (fun e1 _=>K e1 s') (Env.put e b.dst r) s:=by
    rw[fa _ _ (aga _)];exact⟨hqa,by rw[← fj e va r p2]; exact hk⟩
   rw[hea,heb]at hc;simp only[Bool.false_eq_true,if_false,Bool.not_true,Bool.false_or,Bool.or_eq_true,Bool.and_eq_true,Bool.not_eq_true']at hc;have plain:a.grd.isNone=true→(∀ Q:AV→Prop→Prop,nop T R a.op (opd (Env.put e b.dst r)) s (fun v ob=>ob∧Q v ob)→nop T R a.op (opd (Env.put e b.dst r)) s' (fun v ob=>ob∧Q v ob))→xo P T R a K (Env.put e b.dst r) s':=fun hg hn=>by
    have hg:a.grd=none:=by simpa using hg
    unfold xo at h1 ⊢;simp only[hg,hea]at h1 ⊢;exact hn (fun v _=>K (Env.put (Env.put e b.dst r) a.dst v) s') h1
   rcases hc with((hc | ⟨hc1,hc2,hlate⟩) | ⟨⟨hc1,hc2⟩,hc3⟩) | ⟨hc1,hc2⟩
   ·unfold xo at h1 ⊢;cases hg:a.grd with
    | none=>
     simp only[hg,hea]at h1 ⊢;rw[mX a.op hc _ s s']at h1;exact h1
    | some x=>
     obtain⟨g,c⟩:=x;simp only[hg,hea]at h1 ⊢;cases hcb:ga c (Env.put e b.dst r g)with
     | some cb=>
      cases cb with
      | true=>
       simp only[hcb]at h1 ⊢;rw[mX a.op hc _ s s']at h1;exact h1
      | false=>simp only[hcb]at h1 ⊢; exact h1
     | none=>simp only[hcb]at h1
   ·have hg:a.grd=none:=by simpa using hc2
    unfold xo at h1 ⊢;simp only[hg,hea]at h1 ⊢;exact Dq a.op hc1 _ s s' (hs'.keep hlate) h1
   ·exact plain hc3 fun Q hn=>Ds a.op hc1 _ s s' (hs'.new hc2) hn
   ·obtain⟨z,z1,z2⟩:=wP hc1;exact plain hc2 fun Q hn=>Dt a.op z1 _ s s' (hs'.men z z2) hn
 | true=>
  rw[hea]at hc;simp only[if_true,Bool.and_eq_true]at hc;obtain⟨⟨⟨⟨heb,ha1⟩,ha2⟩,hb1⟩,hb2⟩:=hc;have hga:a.grd=none:=by simpa using ha2
  have hgb:b.grd=none:=by simpa using hb2
  unfold xo at hx ⊢;simp only[hga,hgb,hea,heb]at hx ⊢;have exa:∀ r s1 Q,eff P R a.op (opd (Env.put e b.dst r)) s1 Q=eff P R a.op (opd e) s1 Q:=fun r s1 Q=>jd a.op (aga r).opd Q;have exb:∀ r s1 Q,eff P R b.op (opd (Env.put e a.dst r)) s1 Q=eff P R b.op (opd e) s1 Q:=fun r s1 Q=>jd b.op (agb r).opd Q;simp only[Bool.or_eq_true]at ha1;rcases ha1 with(ha1 | ha1) | ha1
  rotate_left
  ·obtain⟨mk',x',f2⟩:=jI (P:=P) (R:=R) b.op hb1 (opd e);cases hop:a.op with
   | xcall f xs=>
    rw[hop]at hx;obtain⟨hx1,hx2⟩:=(show ko (opd e) xs∧ACF P f (vals (opd e) xs) s (fun r s'=>(∀ d,R d→s' d=s d)∧eff P R b.op (opd (Env.put e a.dst r)) s' fun v s1=>K (Env.put (Env.put e a.dst r) b.dst v) s1)from hx);rw[f2];intro b2 h2 hR2;have ev:vals (opd (Env.put e b.dst (mk' b2))) xs=vals (opd e) xs:=cM xs fun y hy=>(aga (mk' b2)).opd y (by rw[hop]; exact hy);have ed:ko (opd (Env.put e b.dst (mk' b2))) xs=ko (opd e) xs:=dfs_ext xs fun y hy=>(aga (mk' b2)).opd y (by rw[hop]; exact hy);show ko (opd (Env.put e b.dst (mk' b2))) xs∧ACF P f (vals (opd (Env.put e b.dst (mk' b2))) xs) _ _;rw[ev,ed];refine⟨hx1,dB ?_ (uS (x:=x') hx2 h2)⟩;rintro r s1 ⟨s2,rfl,h3,hk,h4⟩;refine⟨fun d hd=>?_,?_⟩
    ·have hne:d≠b2:=fun e=>hR2 (e▸hd);rw[ay _ _ hne,ay _ _ hne]; exact hk d hd
    ·rw[exb,f2]at h4;have:=h4 b2 h3 hR2;rw[fj e r (mk' b2) p2]at this;exact this
   | _=>rw[hop]at ha1; simp[ti]at ha1
  ·obtain⟨mk',x',f2⟩:=jI (P:=P) (R:=R) b.op hb1 (opd e);rw[f2];intro b2 h2 hR2;rw[exa];refine cY a.op _ _ ?_ (wQ (x:=x') ha1 hx h2);rintro r s1 ⟨s2,rfl,h3,h4⟩;rw[exb,f2]at h4;have:=h4 b2 h3 hR2;rw[fj e r (mk' b2) p2]at this;exact this
  obtain⟨c,mk,x,f1⟩:=uR (P:=P) (R:=R) a.op ha1 (opd e);obtain⟨mk',x',f2⟩:=jI (P:=P) (R:=R) b.op hb1 (opd e);rw[f1]at hx;rw[f2];intro b2 h2 hR2;rw[exa,f1];refine⟨hx.1,fun b1 h1 hR1=>?_⟩;have hne:b1≠b2:=fun e=>by rw[e,upd_same]at h1; cases h1
  rw[ay _ _ hne]at h1;have:=hx.2 b1 h1 hR1;rw[exb,f2]at this;have:=this b2 (by rw[ay _ _ (Ne.symm hne)]; exact h2) hR2;rw[fj e (mk b1) (mk' b2) p2,oU _ _ _ hne]at this;exact this
end
end Go.Proofs.YtdkaijofmigmbaaGreat.L

set_option linter.unusedVariables false
set_option linter.unusedSimpArgs false
namespace Go.Proofs.YtdkaijofmigmbaaGreat.L
open Go
inductive Reach (ops:Array Oper):Nat→Nat→Prop
 | one {j:Nat} {o:Oper} {d:Edge}:ops[j]?=some o→d∈o.after→Region.binds .any d=true→Reach ops j d.on
 | step {j i:Nat} {o:Oper} {d:Edge}:ops[j]?=some o→d∈o.after→Region.binds .any d=true→Reach ops d.on i→Reach ops j i
def Closed (ops:Array Oper)(listed:Array Bool):Prop:=∀ (k:Nat) (o:Oper),ops[k]?=some o→listed.getD k false=true→∀ d∈o.after,Region.binds .any d=true→listed.getD d.on false=true
theorem Closed.reach {ops:Array Oper}{listed:Array Bool}(h:Closed ops listed){k i:Nat}(hr:Reach ops k i):listed.getD k false=true→listed.getD i false=true:=by
 induction hr with
 | one h1 h2 h3=>exact fun hk=>h _ _ h1 hk _ h2 h3
 | step h1 h2 h3 _ ih=>exact fun hk=>ih (h _ _ h1 hk _ h2 h3)
theorem oW {ops:Array Oper}{listed:Array Bool}(h:Closed ops listed){j i:Nat}(hj:j∈Region.ready .any ops listed)(hr:Reach ops j i):listed.getD i false=true:=by
 obtain⟨_,o,ho,ha⟩:=mem_ready.1 hj;cases hr with
 | one h1 h2 h3=>rw[ho]at h1; cases h1; exact ha _ h2 h3
 | step h1 h2 h3 h4=>rw[ho]at h1; cases h1; exact h.reach h4 (ha _ h2 h3)
theorem mY {listed:Array Bool}{i:Nat}(h:listed.getD i true=false):i < listed.size:=by
 rcases Nat.lt_or_ge i listed.size with h' | h'
 ·exact h'
 ·simp[Array.getElem?_eq_none h']at h
theorem oX {listed:Array Bool}{i:Nat}(h:listed.getD i true=false)(h':listed.getD i false=true):False:=by
 have:=mY h
 simp[this]at h h'
 rw[h]at h'; cases h'
theorem Closed.put {ops:Array Oper}{listed:Array Bool}(h:Closed ops listed){i:Nat}(hi:i∈Region.ready .any ops listed):Closed ops (listed.setIfInBounds i true):=by
 intro k o ho hk d hd hb;by_cases hki:i=k
 ·subst hki;obtain⟨_,o',ho',ha⟩:=mem_ready.1 hi;rw[ho]at ho'; cases ho';exact getD_set_true (ha d hd hb)
 ·rw[getD_set_ne false hki]at hk;exact getD_set_true (h k o ho hk d hd hb)
theorem nY (ops:Array Oper)(j i:Nat)(h:((Region.before ops).getD j 0).testBit i=true):Reach ops j i:=by
 have key:(Region.before ops).size=ops.size∧∀ j i,((Region.before ops).getD j 0).testBit i=true→Reach ops j i:=by
  unfold Region.before;refine Array.foldl_induction (motive:=fun k (acc:Array Nat)=>acc.size=k∧∀ j i,(Array.getD acc j 0).testBit i=true→Reach ops j i) ⟨rfl,fun j i h=>by simp at h⟩ ?_;rintro k acc ⟨hs,ih⟩;have hk:ops[k.1]?=some ops[k.1]:=Array.getElem?_eq_getElem k.2;refine⟨by simp[hs],fun j i hj=>?_⟩;by_cases hjk:j=acc.size
  ·subst hjk;simp only[Array.getD_eq_getD_getElem?,Array.getElem?_push_size,Option.getD_some]at hj;have inner:∀ i,(Array.foldl (fun s e=>if Region.binds .any e then s ||| 2^e.on ||| acc.getD e.on 0 else s) 0 (ops[k.1]).after).testBit i=true→Reach ops k.1 i:=by
    refine Array.foldl_induction (motive:=fun _ s=>∀ i,Nat.testBit s i=true→Reach ops k.1 i) (fun i h=>by simp at h) ?_;intro m s hi i h;split at h
    ·rename_i hb;simp only[Nat.testBit_or,Bool.or_eq_true]at h;rcases h with(h | h) | h
     ·exact hi i h
     ·have:((ops[k.1]).after[m]).on=i:=by
       rw[Nat.testBit_two_pow]at h
       simpa using h
      rw[← this];exact .one hk (Array.getElem_mem _) hb
     ·exact .step hk (Array.getElem_mem _) hb (ih _ _ h)
    ·exact hi i h
   rw[hs];exact inner i (by simpa [Array.getD_eq_getD_getElem?]using hj)
  ·have:(acc.push (Array.foldl (fun s e=>if Region.binds .any e then s ||| 2^e.on ||| acc.getD e.on 0 else s) 0 (ops[k.1]).after)).getD j 0=acc.getD j 0:=by
    simp only[Array.getD_eq_getD_getElem?,Array.getElem?_push,if_neg hjk]
   exact ih j i (by rw[← this]; exact hj)
 exact key.2 j i h
section
variable {P:Program} {T:Tbl} {R:Nat→Prop} {ops:Array Oper} {aops:Array AOper} {K:Env→Store→Prop}
theorem mZ {i:Nat}{K K':Env→Store→Prop}(h:∀ e s,K e s→K' e s){e:Env}{s:Store}(hx:dO P T R aops i K e s):dO P T R aops i K' e s:=by
 unfold dO at *;split
 ·simp only[*]at hx; exact kZ h hx
 ·simp only[*]at hx; exact h _ _ hx
theorem tj {i:Nat}{ck:Option Nat}{K:Env→Store→Prop}(hd:∀ a n,aops[i]?=some a→ck=some n→a.dst≠some n){e:Env}{s:Store}(hc:lL ck e)(hx:dO P T R aops i K e s):dO P T R aops i (fun e' s'=>lL ck e'∧K e' s') e s:=by
 unfold dO at *;split
 ·rename_i a ha;simp only[ha]at hx;exact wR (fun n hn=>hd a n ha hn) hc hx
 ·rename_i ha;simp only[ha]at hx;exact⟨hc,hx⟩
def Dv (ck:Option Nat)(a b:AOper):Bool:=match ck with
 | none=>Jm a b
 | some n=>(Jm a b||Kh n a b)&&b.dst !=some n
theorem qq {ck:Option Nat}{i j:Nat}(h:∀ a b,aops[i]?=some a→aops[j]?=some b→Dv ck a b=true){e:Env}{s:Store}(hc:lL ck e)(hx:dO P T R aops i (dO P T R aops j K) e s):dO P T R aops j (dO P T R aops i K) e s:=by
 cases hi:aops[i]? with
 | none=>
  have f:∀ K:Env→Store→Prop,dO P T R aops i K=K:=fun K=>by funext e s; simp[dO,hi]
  rw[f]at hx ⊢; exact hx
 | some a=>cases hj:aops[j]? with
  | none=>
   have f:∀ K:Env→Store→Prop,dO P T R aops j K=K:=fun K=>by funext e s; simp[dO,hj]
   rw[f]at hx ⊢; exact hx
  | some b=>
   have f:∀ K:Env→Store→Prop,dO P T R aops i K=xo P T R a K:=fun K=>by funext e s; simp[dO,hi]
   have g:∀ K:Env→Store→Prop,dO P T R aops j K=xo P T R b K:=fun K=>by funext e s; simp[dO,hj]
   rw[g,f]at hx ⊢;have hab:=h a b hi hj;cases ck with
   | none=>exact rq hab hx
   | some n=>
    simp only[Dv,Bool.and_eq_true,Bool.or_eq_true]at hab;rcases hab.1 with h1 | h1
    ·exact rq h1 hx
    ·exact uU h1 hc hx
theorem wT {ck:Option Nat}{a b:AOper}(h:Dv ck a b=true){n:Nat}(hn:ck=some n):b.dst≠some n:=by
 subst hn;simp only[Dv,Bool.and_eq_true]at h
 simpa using h.2
def Left (ops:Array Oper)(listed:Array Bool)(l:List Nat):Prop:=∀ i,i < ops.size→listed.getD i true=false→i∈l
theorem Left.put {listed:Array Bool}{l:List Nat}(h:Left ops listed l)(i:Nat):Left ops (listed.setIfInBounds i true) (l.erase i):=by
 intro k hk hu;by_cases hik:i=k
 ·subst hik;have:=mY hu
  simp at this
  simp[this]at hu
 ·rw[getD_set_ne true hik]at hu;exact(List.mem_erase_of_ne (Ne.symm hik)).2 (h k hk hu)
theorem ci {listed:Array Bool}{i:Nat}(hi:i∈Region.ready .any ops listed):i < ops.size∧listed.getD i true=false:=by
 obtain⟨h,o,ho,_⟩:=mem_ready.1 hi;exact⟨(Array.getElem?_eq_some_iff.1 ho).1,h⟩
theorem kz {i:Nat}{ck:Option Nat}(hai:∃ a,aops[i]?=some a):∀ (fuel:Nat) (listed:Array Bool) (l:List Nat) (e:Env) (s:Store),Left ops listed l→l.length≤fuel+1→Closed ops listed →
  (∀ j,j < ops.size→j≠i→listed.getD j true=false→¬ Reach ops j i→∀ a b,aops[i]?=some a→aops[j]?=some b→Dv ck a b=true) →
  i∈Region.ready .any ops listed→lL ck e→dO P T R aops i (lF P T R ops aops K fuel (listed.setIfInBounds i true)) e s→lF P T R ops aops K (fuel+1) listed e s
 | 0,listed,l,e,s,hl,hlen,hc,hf,hi,hck,hx=>by
  refine⟨fun h=>(by rw[h]at hi; cases hi),fun j hj=>?_⟩;by_cases hji:j=i
  ·subst hji; exact hx
  ·have h1:=hl i (ci hi).1 (ci hi).2;have h2:=hl j (ci hj).1 (ci hj).2
   match l,hlen,h1,h2 with
   | [x],_,h1,h2=>simp at h1 h2; omega
 | fuel+1,listed,l,e,s,hl,hlen,hc,hf,hi,hck,hx=>by
  refine⟨fun h=>(by rw[h]at hi; cases hi),fun j hj=>?_⟩;by_cases hji:j=i
  ·subst hji; exact hx
  ·have hj':=ready_mono hj hji;have h1:dO P T R aops i (dO P T R aops j (lF P T R ops aops K fuel ((listed.setIfInBounds i true).setIfInBounds j true))) e s:=
    mZ (fun e s h=>h.2 j hj') hx
   have hnr:¬ Reach ops j i:=fun hr=>oX (ci hi).2 (oW hc hj hr);have hfj:=hf j (ci hj).1 hji (ci hj).2 hnr;have h2:=qq hfj hck h1;obtain⟨ai,hai'⟩:=hai;refine mZ (fun e' s' h3=>kz ⟨ai,hai'⟩ fuel (listed.setIfInBounds j true) (l.erase j) e' s' (hl.put j) ?_ (hc.put hj) ?_ (ready_mono hi (Ne.symm hji)) h3.1 ?_) (tj (ck:=ck) (fun b n hb hn=>wT (hfj ai b hai' hb) hn) hck h2)
   ·have:=List.length_erase_of_mem (hl j (ci hj).1 (ci hj).2);omega
   ·intro k hk hki hu hnr a b;refine hf k hk hki ?_ hnr a b;by_cases hjk:j=k
    ·subst hjk; exact(ci hj).2
    ·rw[getD_set_ne true hjk]at hu; exact hu
   ·rw[Array.setIfInBounds_comm _ _ hji]; exact h3.2
def rt (ck:Option Nat)(bm:Array Nat)(aops:Array AOper)(listed:Array Bool)(i:Nat)(a:AOper):List Nat→Bool
 | []=>true
 | j::l=>(j==i||listed.getD j true||(bm.getD j 0).testBit i||(match aops[j]? with
  | some b=>Dv ck a b
  | none=>false))&&rt ck bm aops listed i a l
def lM (ops:Array Oper)(bm:Array Nat)(aops:Array AOper):Option Nat→List Nat→Array Bool→Bool
 | _,[],listed=>(Region.ready .any ops listed).isEmpty
 | ck,i::l,listed=>match Nat.ble 65536 i with
  | true=>lM ops bm aops (some (i-65536)) l listed
  | false=>(Region.ready .any ops listed).contains i&&(match aops[i]? with
   | some a=>rt ck bm aops listed i a (List.range ops.size)
   | none=>false)&&lM ops bm aops none l (listed.setIfInBounds i true)
def rx (ops:Array Oper)(bm:Array Nat)(aops:Array AOper)(π:List Nat)(listed:Array Bool):Bool:=lM ops bm aops none π listed
theorem lN {ck:Option Nat}{bm:Array Nat}{listed:Array Bool}{i:Nat}{a:AOper}:∀ {l:List Nat},rt ck bm aops listed i a l=true→∀ j∈l,j≠i→listed.getD j true=false→(bm.getD j 0).testBit i=false→∀ b,aops[j]?=some b→Dv ck a b=true
 | k::l,h,j,hj,hji,hu,hb,b,hab=>by
  simp only[rt,Bool.and_eq_true]at h;rcases List.mem_cons.1 hj with rfl | hj
  ·have h1:=h.1;rw[hu,hb,hab]at h1
   simpa [hji]using h1
  ·exact lN h.2 j hj hji hu hb b hab
def Ki (n:Nat):AOper:={dst:=none,op:=.szk 8 (.t n),grd:=none }
def gq (aops:Array AOper):List Nat→List AOper
 | []=>[]
 | i::l=>match Nat.ble 65536 i with
  | true=>Ki (i-65536)::gq aops l
  | false=>match aops[i]? with
   | some a=>a::gq aops l
   | none=>[]
theorem gr:∀ (π:List Nat) (ck:Option Nat) (fuel:Nat) (listed:Array Bool) (l:List Nat) (e:Env) (s:Store),Left ops listed l→l.length≤fuel→Closed ops listed →
  lM ops (Region.before ops) aops ck π listed=true→lL ck e→xr P T R (gq aops π) K e s→lF P T R ops aops K fuel listed e s
 | [],ck,fuel,listed,l,e,s,hl,hlen,hc,hp,hck,hx=>by
  have h0:Region.ready .any ops listed=[]:=by simpa [lM]using hp
  cases fuel with
  | zero=>exact⟨h0,hx⟩
  | succ m=>exact⟨fun _=>hx,fun i hi=>by rw[h0]at hi; cases hi⟩
 | i::π,ck,fuel,listed,l,e,s,hl,hlen,hc,hp,hck,hx=>by
  cases hm:Nat.ble 65536 i with
  | true=>
   simp only[lM,hm]at hp;simp only[gq,hm,xr]at hx;have hx':((opd e (.t (i-65536))).df∧sZ 8 (opd e (.t (i-65536))).val)∧xr P T R (gq aops π) K e s:=hx;exact gr π (some (i-65536)) fuel listed l e s hl hlen hc hp hx'.1 hx'.2
  | false=>
  simp only[lM,hm,Bool.and_eq_true]at hp;obtain⟨⟨h1,h2⟩,h3⟩:=hp;have hi:i∈Region.ready .any ops listed:=by simpa using h1
  cases ha:aops[i]? with
  | none=>rw[ha]at h2; cases h2
  | some a=>
   simp only[ha]at h2;have hmem:=hl i (ci hi).1 (ci hi).2;have hlen':=List.length_erase_of_mem hmem;have hpos:0 < l.length:=List.length_pos_of_mem hmem;cases fuel with
   | zero=>omega
   | succ m=>
    refine kz (ck:=ck) ⟨a,ha⟩ m listed l e s hl hlen hc ?_ hi hck ?_
    ·intro j hj hji hu hnr a' b hab hb;rw[ha]at hab; cases hab;refine lN h2 j (List.mem_range.2 hj) hji hu ?_ b hb;cases hbit:((Region.before ops).getD j 0).testBit i with
     | false=>rfl
     | true=>exact absurd (nY ops j i hbit) hnr
    ·simp only[dO,ha];simp only[gq,hm,ha,xr]at hx;exact kZ (fun e' s' h=>gr π none m _ (l.erase i) e' s' (hl.put i) (by omega) (hc.put hi) h3 trivial h) hx
theorem qr (π:List Nat)(fuel:Nat)(listed:Array Bool)(l:List Nat)(e:Env)(s:Store)(hl:Left ops listed l)(hlen:l.length≤fuel)(hc:Closed ops listed)
  (hp:rx ops (Region.before ops) aops π listed=true) (hx:xr P T R (gq aops π) K e s):lF P T R ops aops K fuel listed e s:=
 gr π none fuel listed l e s hl hlen hc hp trivial hx
end
theorem OkOpers.at {P:Program}{n:Nat}{ops:Array Oper}:∀ {l:List Oper} {l':List AOper},OkOpers P n ops l l'→l'.length=l.length∧∀ (i:Nat) (o:Oper) (ao:AOper),l[i]?=some o→l'[i]?=some ao→OkOper P n ops o ao
 | [],[],_=>⟨rfl,fun i o ao h=>by simp at h⟩
 | o::l,a::l',h=>by
  obtain⟨h1,h2⟩:=OkOpers.at h.2;refine⟨by simp[h1],fun i o' ao ho ha=>?_⟩;cases i with
  | zero=>simp at ho ha; subst ho; subst ha; exact h.1
  | succ i=>exact h2 i o' ao (by simpa using ho) (by simpa using ha)
 | [],_::_,h=>h.elim
 | _::_,[],h=>h.elim
theorem lO {P:Program}{T:Tbl}{R:Nat→Prop}(hT:fg P T)(hm:P.follows .mixedOrders=true){n id:Nat}{ops:Array Oper}{l' l'':List AOper}{π:List Nat}{K:Exit→Env→Store→Prop}{e:Env}{s:Store}(hk:OkOpers P n ops ops.toList l')
  (hp:rx ops (Region.before ops) l'.toArray π (Array.replicate ops.size false)=true) (hl:gq l'.toArray π=l'') (hR:∀ b,R b→own s b) (h:xr P T R l'' (fun e s=>K .normal e s) e s) :
  jt P n (.region id ops true) K e s:=by
 subst hl;intro ro a w hf;obtain⟨h1,h2⟩:=hk.at;have hmv:Mv (own s) (own s) w {w with drawn:=w.drawn+1 }:=⟨rfl,rfl,rfl,Nat.le_refl _,fun _ _ _=>rfl,fun _ h=>.inl h⟩
 refine my hm (jc hT (aops:=l'.toArray) (by simpa using h1) (fun i o ao ho ha=>h2 i o ao (by simpa using ho) (by simpa using ha)) ops.size _ e s a _ ro ⟨hf.sz,?_,?_⟩ (fun b hb=>hf.st.lt (hR b hb)) ?_
  (qr π ops.size _ (List.range ops.size) e s (fun i hi _=>List.mem_range.2 hi) (by simp) ?_ hp h))
 ·exact fun b x hx=>(hf.st b x hx).mv hmv rfl
 ·exact fun t=>(hf.env t).mv hmv
 ·exact hmv
 ·intro k o ho hk;have hlt:=(Array.getElem?_eq_some_iff.1 ho).1
  simp[hlt]at hk
end Go.Proofs.YtdkaijofmigmbaaGreat.L

set_option linter.unusedVariables false
set_option linter.unusedSimpArgs false
namespace Go.Proofs.YtdkaijofmigmbaaGreat.L
open Go
def Wk (s:Store)(e:Env)(s':Store)(e':Env):Prop:=
 ∀ (w:World) (vs:Nat→Value),St s w→(∀ t,RV (own s) w (e t) (vs t))→St s' w∧(∀ t,RV (own s') w (e' t) (vs t))∧Mv (own s) (own s') w w
theorem Wk.refl (s:Store)(e:Env):Wk s e s e:=fun w vs h1 h2=>⟨h1,h2,Mv.refl _ _⟩
theorem Wk.trans {s s1 s2:Store}{e e1 e2:Env}(h:Wk s e s1 e1)(k:Wk s1 e1 s2 e2):Wk s e s2 e2:=fun w vs h1 h2=>by
 obtain⟨a1,a2,a3⟩:=h w vs h1 h2;obtain⟨b1,b2,b3⟩:=k w vs a1 a2;exact⟨b1,b2,a3.trans b3⟩
theorem Mv.less {o o':Nat→Prop}(h:∀ b,o' b→o b)(w:World):Mv o o' w w:=⟨rfl,rfl,rfl,Nat.le_refl _,fun _ _ _=>rfl,fun b hb=>.inl (h b hb)⟩
def Sub (s' s:Store):Prop:=∀ b,s' b=none∨s' b=s b
theorem Sub.refl (s:Store):Sub s s:=fun b=>.inr rfl
theorem Sub.trans {s s1 s2:Store}(h:Sub s s1)(k:Sub s1 s2):Sub s s2:=fun b=>by
 rcases h b with h | h
 ·exact .inl h
 ·rcases k b with k | k
  ·exact .inl (h.trans k)
  ·exact .inr (h.trans k)
theorem Sub.own {s' s:Store}(h:Sub s' s){b:Nat}(hb:own s' b):own s b:=by
 rcases h b with h | h
 ·exact absurd h hb
 ·unfold L.own; rw[← h]; exact hb
theorem Sub.st {s' s:Store}(h:Sub s' s){w:World}(hs:St s w):St s' w:=fun b x hx=>by
 rcases h b with k | k
 ·rw[k]at hx; cases hx
 ·exact(hs b x (k▸hx)).mv (Mv.less (fun _=>h.own) w) rfl
theorem Sub.del (s:Store)(b:Nat):Sub (del s b) s:=fun c=>by
 unfold L.del;split
 ·exact .inl rfl
 ·exact .inr rfl
theorem Sub.upd {s s':Store}{b:Nat}{x:AObj}(h:Sub s' s)(hb:s b=none):Sub s' (upd s b x):=fun c=>by
 by_cases hc:c=b
 ·subst hc;rcases h c with h | h
  ·exact .inl h
  ·exact .inl (h.trans hb)
 ·rw[ay _ _ hc]; exact h c
def Le (e' e:Env):Prop:=∀ t,e' t = .undef∨e' t=e t
theorem Le.refl (e:Env):Le e e:=fun t=>.inr rfl
theorem Wk.less {s s':Store}{e e':Env}(h:Sub s' s)(k:Le e' e):Wk s e s' e':=fun w vs h1 h2=>
 ⟨h.st h1,fun t=>by
  rcases k t with k | k
  ·rw[k]; exact .undef _
  ·rw[k]; exact(h2 t).mv (Mv.less (fun _=>h.own) w),Mv.less (fun _=>h.own) w⟩
theorem Wk.conf {n:Nat}{s s':Store}{e e':Env}(h:Wk s e s' e'){a:Act}{w:World}(hf:Conf n s e a w):Conf n s' e' a w∧Mv (own s) (own s') w w:=by
 obtain⟨h1,h2,h3⟩:=h w (fun t=>a.tmps.getD t Go.undef) hf.st hf.env;exact⟨⟨hf.sz,h1,h2⟩,h3⟩
def fv (b:Nat)(x:AObj)(D:List AV):AV→AV
 | .slc b' n c=>if b'=b then(match x with
  | .row _ k _ xs=>if n≤xs.length∧n≤c then .lst k n (fun i=>xs.getD i D)else .undef
  | _=>.undef)else .slc b' n c
 | .ptr b' o=>if b'=b then(match x with
  | .box cs=>if o≤cs.length then .elm (cs.drop o)else .undef
  | _=>.undef)else .ptr b' o
 | a=>a
def hY (b:Nat)(x:AObj)(D:List AV):AV→AV
 | .agg cs=>.agg (cs.map (fv b x D))
 | .tup cs=>.tup (cs.map (fv b x D))
 | a=>fv b x D a
def oY (b:Nat)(x:AObj)(D:List AV):AObj→AObj
 | .box cs=>.box (cs.map (fv b x D))
 | .row T k c xs=>.row T k c (xs.map fun l=>l.map (fv b x D))
 | .imap kn es pd=>.imap kn (es.map fun p=>(p.1,fv b x D p.2)) pd
 | .rmap en cl=>.rmap en cl
 | .raw o=>.raw o
 | .rit m cl seen=>.rit m cl seen
def nZ:AObj→Prop
 | .box cs=>∀ a∈cs,a.frz=true
 | .row _ _ _ xs=>∀ l∈xs,∀ a∈l,a.frz=true
 | .imap ..=>False
 | .rmap ..=>False
 | .raw ..=>False
 | .rit ..=>False
def fst (s:Store)(b:Nat)(x:AObj)(D:List AV):Store:=fun c=>if c=b then none else(s c).map (oY b x D)
theorem n5 (f:AV→AV)(cs:List AV)(j:Nat)(h:j < cs.length):at_ (cs.map f) j=f (at_ cs j):=by
 simp[at_,List.getD_eq_getElem?_getD,List.getElem?_map,h]
theorem iF {cs:List AV}{j:Nat}(h:j < cs.length):at_ cs j∈cs:=by
 simp[at_,List.getD_eq_getElem?_getD,h]
theorem uV {xs:List (List AV)}{j:Nat}(h:j < xs.length):xs.getD j []∈xs:=by
 simp[List.getD_eq_getElem?_getD,h]
theorem oZ {xs:List (List AV)}{j:Nat}(D:List AV)(h:j < xs.length):xs.getD j D=xs.getD j []:=by
 simp[List.getD_eq_getElem?_getD,h]
theorem FV.of_frz {o:Nat→Prop}{w:World}{a:AV}{v:Value}(h:RV o w a v)(hf:a.frz=true):FV o w a v:=by
 cases h with
 | fz _ _ h=>exact h
 | _=>simp[AV.frz]at hf
theorem ry {s:Store}{b:Nat}{x:AObj}{D:List AV}(c:Nat)(h:own (fst s b x D) c):own s c:=by
 intro h0;apply h;unfold fst;split
 ·rfl
 ·rw[h0]; rfl
theorem rz {s:Store}{b:Nat}{x:AObj}{D:List AV}:¬ own (fst s b x D) b:=fun h=>h (by simp[fst])
theorem kA {s:Store}{w:World}{b:Nat}{x:AObj}{D:List AV}(hb:s b=some x)(hx:nZ x)(hs:St s w){a:AV}{v:Value}(h:RV (own s) w a v):RV (own (fst s b x D)) w (fv b x D a) v:=by
 have hm:Mv (own s) (own (fst s b x D)) w w:=Mv.less ry w;have hlt:b < w.heap.size:=(hs b x hb).lt;cases a with
 | slc b' n c=>
  simp only[fv];split
  ·rename_i he;subst he;have hv:=dy h;subst hv;cases x with
   | row T k c' xs=>
    simp only[];split
    ·rename_i hn;refine .fz _ _ ?_;rcases Nat.eq_zero_or_pos n with h0 | h0
     ·subst h0; exact .lst0 _ _ _ _
     ·have hc:=fun i j (hi:i < n) (hj:j < k)=>lx (hs _ _ hb) (j:=j) (Nat.lt_of_lt_of_le hi hn.1) hj;have hO:=hs _ _ hb;obtain⟨vs,g1,g2,g3,g3',g4,g5⟩:=hO;refine .lst k n _ _ c (fun i j=>(w.cell? ⟨b',i*k+j,none⟩).getD Go.undef) h0 hn.2 rfl rz hlt (fun i j hi hj=>?_) (fun i hi=>by rw[oZ D (Nat.lt_of_lt_of_le hi hn.1)]; exact g4 i (Nat.lt_of_lt_of_le hi hn.1)) (fun i j hi hj=>?_)
      ·obtain⟨v,h1,_⟩:=hc i j hi hj;rw[ce,Nat.zero_add,h1]; rfl
      ·obtain⟨v,h1,h2⟩:=hc i j hi hj;rw[h1,oZ D (Nat.lt_of_lt_of_le hi hn.1)];have hl:j < (xs.getD i []).length:=by rw[g4 i (Nat.lt_of_lt_of_le hi hn.1)]; exact hj
       exact(FV.of_frz h2 (hx _ (uV (Nat.lt_of_lt_of_le hi hn.1)) _ (iF hl))).mv hm
    ·exact .undef _
   | _=>exact .undef _
  ·exact h.mv hm
 | ptr b' o=>
  simp only[fv];split
  ·rename_i he;subst he;have hv:=cE h;subst hv;cases x with
   | box cs=>
    simp only[];split
    ·rename_i ho;refine .fz _ _ ?_;have hc:=fun j (hj:j < cs.length)=>dY (hs _ _ hb) (j:=j) hj;refine .elm _ _ (fun j=>(w.cell? ⟨b',o+j,none⟩).getD Go.undef) rfl rz hlt (fun j hj=>?_) (fun j hj=>?_)
     ·simp only[List.length_drop]at hj;obtain⟨v,h1,_⟩:=hc (o+j) (by omega);rw[ce,h1]; rfl
     ·simp only[List.length_drop]at hj;obtain⟨v,h1,h2⟩:=hc (o+j) (by omega);rw[h1,gQ];exact(FV.of_frz h2 (hx _ (iF (by omega)))).mv hm
    ·exact .undef _
   | _=>exact .undef _
  ·exact h.mv hm
 | _=>exact h.mv hm
theorem Dw {s:Store}{w:World}{b:Nat}{x:AObj}{D:List AV}(hb:s b=some x)(hx:nZ x)(hs:St s w){a:AV}{v:Value}(h:RV (own s) w a v):RV (own (fst s b x D)) w (hY b x D a) v:=by
 cases a with
 | agg cs=>
  obtain⟨vs,rfl,h1,h2⟩:=gO h;exact .agg _ vs (by simpa using h1) fun j hj=>by
   have hj':j < cs.length:=by simpa using hj
   rw[n5 _ _ _ hj']; exact kA hb hx hs (h2 j hj')
 | tup cs=>
  obtain⟨vs,rfl,h1,h2⟩:=kT h;exact .tup _ vs (by simpa using h1) fun j hj=>by
   have hj':j < cs.length:=by simpa using hj
   rw[n5 _ _ _ hj']; exact kA hb hx hs (h2 j hj')
 | _=>exact kA hb hx hs h
theorem Dx {s:Store}{w:World}{b:Nat}{x:AObj}{D:List AV}(hb:s b=some x)(hx:nZ x)(hs:St s w):St (fst s b x D) w:=by
 intro c y hy;unfold fst at hy;split at hy
 ·cases hy
 ·cases hc:s c with
  | none=>rw[hc]at hy; cases hy
  | some z=>
   rw[hc]at hy;cases hy;have hO:=hs c z hc;cases z with
   | box cs=>
    obtain⟨vs,T,h1,h2,h3⟩:=hO;exact⟨vs,T,h1,by simpa using h2,fun j hj=>by
     have hj':j < cs.length:=by simpa using hj
     rw[n5 _ _ _ hj']; exact kA hb hx hs (h3 j hj')⟩
   | row T k cc xs=>
    obtain⟨vs,h1,h2,h3,h3',h4,h5⟩:=hO;have e:∀ i,i < xs.length→(xs.map fun l=>l.map (fv b x D)).getD i []=(xs.getD i []).map (fv b x D):=fun i hi=>by
     simp[List.getD_eq_getElem?_getD,List.getElem?_map,hi]
    refine⟨vs,h1,h2,by simpa using h3,h3',fun i hi=>?_,fun i j hi hj=>?_⟩
    ·have hi':i < xs.length:=by simpa using hi
     rw[e i hi',List.length_map]; exact h4 i hi'
    ·have hi':i < xs.length:=by simpa using hi
     have:=h5 i j hi' hj;rw[e i hi',n5 _ _ _ (by rw[h4 i hi']; exact hj)];exact⟨kA hb hx hs this.1,this.2⟩
   | rmap en cl=>exact hO
   | raw o=>exact hO
   | rit m cl seen=>exact hO
   | imap kn es pd=>
    obtain⟨en,cl,h1,h2,h3,h4,h5,h6⟩:=hO;have e:∀ i,i < es.length→(es.map fun p=>(p.1,fv b x D p.2)).getD i default=((es.getD i default).1,fv b x D (es.getD i default).2):=fun i hi=>by
     simp[List.getD_eq_getElem?_getD,List.getElem?_map,hi]
    refine⟨en,cl,h1,by simpa using h2,fun i hi=>?_,fun i hi=>h4 i (by simpa using hi),fun i j hi hj=>h5 i j (by simpa using hi) (by simpa using hj),fun y i h=>?_⟩
    ·have hi':i < es.length:=by simpa using hi
     rw[e i hi'];obtain⟨g1,g2,g3⟩:=h3 i hi';exact⟨g1,g2,kA hb hx hs g3⟩
    ·obtain⟨g1,g2⟩:=h6 y i h;exact⟨by simpa using g1,g2⟩
theorem Wk.frz {s s':Store}{e e':Env}{b:Nat}{x:AObj}(D:List AV)(hb:s b=some x)(hx:nZ x)(h0:s' b=none)(hs':∀ c,s' c=none∨s' c=s c∨s' c=(s c).map (oY b x D))
  (he:∀ t,e' t = .undef∨e' t=e t∨e' t=hY b x D (e t)):Wk s e s' e':=by
 intro w vs h1 h2;have hsub:∀ c,own s' c→own (fst s b x D) c:=fun c hc=>by
  have hcb:c≠b:=fun e=>hc (e▸h0);unfold own fst;rw[if_neg hcb];rcases hs' c with h | h | h
  ·exact absurd h hc
  ·unfold own at hc; rw[h]at hc;intro hn;exact hc (by simpa using hn)
  ·unfold own at hc; rwa [h]at hc
 have hm:=Mv.less hsub w;have hm0:Mv (own s) (own s') w w:=Mv.less (fun c hc=>ry c (hsub c hc)) w;refine⟨fun c y hy=>?_,fun t=>?_,hm0⟩
 ·rcases hs' c with h | h | h
  ·rw[h]at hy; cases hy
  ·exact(h1 c y (h▸hy)).mv hm0 rfl
  ·have hcb:c≠b:=fun e=>by rw[e,h0]at hy; cases hy
   have:fst s b x D c=some y:=by unfold fst; rw[if_neg hcb,← h,hy]
   exact(Dx hb hx h1 c y this).mv hm rfl
 ·rcases he t with h | h | h
  ·rw[h]; exact .undef _
  ·rw[h]; exact(h2 t).mv hm0
  ·rw[h]; exact(Dw hb hx h1 (h2 t)).mv hm
def Wa (a a':AV):Prop:=∀ o w v,RV o w a v→RV o w a' v
theorem Wa.refl (a:AV):Wa a a:=fun _ _ _ h=>h
theorem Wa.emp (k:Nat)(g:Nat→List AV):Wa .emp (.lst k 0 g):=fun o w v h=>by
 obtain⟨a,rfl⟩:=cV h;exact .fz _ _ (.lst0 _ _ _ _)
theorem Wk.box {s:Store}{b:Nat}{cs cs':List AV}(hb:s b=some (.box cs))(hl:cs'.length=cs.length)(h:∀ j,j < cs.length→Wa (at_ cs j) (at_ cs' j))(e:Env):Wk s e (L.upd s b (.box cs')) e:=by
 have ho:∀ c,own (L.upd s b (.box cs')) c→own s c:=fun c hc=>by
  by_cases e:c=b
  ·subst e; unfold own; rw[hb]; simp
  ·unfold own at hc ⊢; rwa [ay _ _ e]at hc
 intro w vs h1 h2;have hm:=Mv.less ho w;refine⟨fun c x hx=>?_,fun t=>(h2 t).mv hm,hm⟩;by_cases e:c=b
 ·subst e;rw[upd_same]at hx;cases hx;obtain⟨us,T,g1,g2,g3⟩:=h1 _ _ hb;exact⟨us,T,g1,by rw[hl]; exact g2,fun j hj=>(h j (by omega) _ _ _ (g3 j (by omega))).mv hm⟩
 ·rw[ay _ _ e]at hx;exact(h1 _ _ hx).mv hm rfl
def Wk1 (s:Store)(r:AV)(s':Store)(r':AV):Prop:=Wk s (fun _=>r) s' (fun _=>r')
theorem Wk1.refl (s:Store)(r:AV):Wk1 s r s r:=Wk.refl _ _
theorem Wk1.trans {s s1 s2:Store}{r r1 r2:AV}(h:Wk1 s r s1 r1)(k:Wk1 s1 r1 s2 r2):Wk1 s r s2 r2:=Wk.trans h k
theorem Wk1.less {s s':Store}{r:AV}(h:Sub s' s):Wk1 s r s' r:=Wk.less h (Le.refl _)
end Go.Proofs.YtdkaijofmigmbaaGreat.L

set_option linter.unusedVariables false
set_option linter.unusedSimpArgs false
namespace Go.Proofs.YtdkaijofmigmbaaGreat.L
open Go
def uj (P:Program)(T:Tbl):List AOper→(Env→Store→Prop)→Env→Store→Prop
 | [],K,e,s=>∃ e1 s1,Wk s e s1 e1∧K e1 s1
 | o::l,K,e,s=>∃ e1 s1,Wk s e s1 e1∧xo P T (fun _=>False) o (fun e' s'=>uj P T l K e' s') e1 s1
theorem lP {P:Program}{T:Tbl}{K K':Env→Store→Prop}(h:∀ e s,K e s→K' e s):∀ (l:List AOper) {e:Env} {s:Store},uj P T l K e s→uj P T l K' e s
 | [],_,_,⟨e1,s1,hw,hx⟩=>⟨e1,s1,hw,h _ _ hx⟩
 | o::l,_,_,⟨e1,s1,hw,hx⟩=>⟨e1,s1,hw,kZ (fun _ _ hk=>lP h l hk) hx⟩
theorem Dy {P:Program}{T:Tbl}{K:Env→Store→Prop}{e e0:Env}{s s0:Store}(h0:Wk s e s0 e0):∀ (l:List AOper),uj P T l K e0 s0→uj P T l K e s
 | [],⟨e1,s1,hw,hx⟩=>⟨e1,s1,h0.trans hw,hx⟩
 | _::_,⟨e1,s1,hw,hx⟩=>⟨e1,s1,h0.trans hw,hx⟩
theorem il {P:Program}{T:Tbl}(hT:fg P T){n:Nat}{ops:Array Oper}{K:Exit→Env→Store→Prop}{s0:Store}{w0:World}:∀ (l:List Oper) (l':List AOper) (e:Env) (s:Store) (a:Act) (w:World) (ro:Option Nat),
  OkOpers P n ops l l'→Conf n s e a w→Mv (own s0) (own s) w0 w→uj P T l' (fun e s=>K .normal e s) e s→dJ ro P ops (post n K s0 a.defers w0) l a w
 | [],[],e,s,a,w,ro,_,hf,hm,⟨e1,s1,hw,h⟩=>by
  obtain⟨hf1,hm1⟩:=hw.conf hf;exact⟨e1,s1,h,hf1,hm.trans hm1,rfl⟩
 | o::l,ao::l',e,s,a,w,ro,hk,hf,hm,⟨e1,s1,hw,h⟩=>by
  obtain⟨hf1,hm1⟩:=hw.conf hf;have key:=lE hT hk.1 hf1 (R:=fun _=>False) (fun b hb=>hb.elim) h (next:=dJ ro P ops (post n K s0 a.defers w0) l) (Q:=post n K s0 a.defers w0) (fun e' s' a' w' h1 h2 h3 h4=>by
   have:=il hT l l' e' s' a' w' ro hk.2 h2 ((hm.trans hm1).trans h3) h1;rw[h4]at this;exact this) ro
  exact gj key
 | [],_::_,_,_,_,_,_,hk,_,_,_=>hk.elim
 | _::_,[],_,_,_,_,_,hk,_,_,_=>hk.elim
theorem o6 {P:Program}{T:Tbl}(hT:fg P T){n id:Nat}{ops:Array Oper}{l':List AOper}{K:Exit→Env→Store→Prop}{e:Env}{s:Store}(hk:OkOpers P n ops ops.toList l')(h:uj P T l' (fun e s=>K .normal e s) e s):
  jt P n (.region id ops false) K e s:=
 fun ro a w hf=>cT (il hT _ _ _ _ _ _ ro hk hf (Mv.refl _ _) h)
inductive ACode where
 | skip
 | ret
 | exit (i:Nat)
 | reg (l:Unit→List AOper)
 | drw (rs:List Nat) (l:Unit→List AOper)
 | seq (a b:ACode)
 | cond (c:Opd) (a b:ACode)
 | blk (i:Nat) (c:ACode)
 | loop (c:Unit→ACode)
 | mrng (pre:Unit→List AOper) (x:Opd) (it nx bb et j:Nat) (c:Unit→ACode)
structure OkRng (P:Program) (n:Nat) (ops ops2:Array Oper) (pre:List Oper) (x:Opd) (it nx bb:Nat):Prop where
 rng:∃ ro Ty kt et m,ops.toList=pre++[ro]∧ro.op = .range Ty m∧ro.dst=some it∧ro.guard=none∧P.underlying Ty=some (.map kt et)∧OkOpd m x
 nxt:∃ no eo,ops2.toList=[no,eo]∧no.op = .next (.tmp it) false∧no.dst=some nx∧no.guard=none∧eo.op = .extract (.tmp nx) 0∧eo.dst=some bb∧eo.guard=none
 lt:it < n∧nx < n∧bb < n∧it≠nx∧it≠bb∧nx≠bb
structure OkEnt (n:Nat) (ops:Array Oper) (rest:List Oper) (it et:Nat):Prop where
 ent:∃ o,ops.toList=o::rest∧o.op = .entry (.tmp it)∧o.dst=some et∧o.guard=none
 lt:et < n
inductive OkCode (P:Program) (n:Nat):Code→ACode→Prop where
 | skip:OkCode P n .skip .skip
 | ret:OkCode P n .ret .ret
 | exit (i:Nat):OkCode P n (.exit i) (.exit i)
 | reg {id:Nat} {ops:Array Oper} {l:Unit→List AOper} (h:OkOpers P n ops ops.toList (l ())):OkCode P n (.region id ops false) (.reg l)
 | drw {id:Nat} {ops:Array Oper} {l:List AOper} {l':Unit→List AOper} {π:List Nat} (rs:List Nat) (hm:P.follows .mixedOrders=true) (h:OkOpers P n ops ops.toList l)
   (hp:rx ops (Region.before ops) l.toArray π (Array.replicate ops.size false)=true) (hl:gq l.toArray π=l' ()):OkCode P n (.region id ops true) (.drw rs l')
 | seq {a b:Code} {a' b':ACode} (h:OkCode P n a a') (k:OkCode P n b b'):OkCode P n (.seq a b) (.seq a' b')
 | cond {c:Operand} {c':Opd} {a b:Code} {a' b':ACode} (hc:OkOpd c c') (h:OkCode P n a a') (k:OkCode P n b b'):OkCode P n (.cond c a b) (.cond c' a' b')
 | label (l:Nat):OkCode P n (.label l) .skip
 | scope {c:Code} {c':ACode} (h:OkCode P n c c'):OkCode P n (.scope c) c'
 | blk {i:Nat} {c:Code} {c':ACode} (h:OkCode P n c c'):OkCode P n (.block i c) (.blk i c')
 | loop {c:Code} {c':Unit→ACode} (h:OkCode P n c (c' ())):OkCode P n (.loop c) (.loop c')
 | mrng {id id2 id3 i j:Nat} {ops ops2 ops3:Array Oper} {pre rest:List Oper} {pre':Unit→List AOper} {rest':List AOper} {x:Opd} {it nx bb et:Nat} {c:Code} {c':ACode} {c'':Unit→ACode} (h:OkRng P n ops ops2 pre x it nx bb) (h1:OkOpers P n ops pre (pre' ()))
   (h2:OkEnt n ops3 rest it et) (h3:OkOpers P n ops3 rest rest') (k:OkCode P n c c') (he:c'' () = .seq (.reg fun _=>rest') c') :
   OkCode P n (.seq (.region id ops false) (.block i (.loop (.seq (.region id2 ops2 false) (.seq (.cond (.tmp bb) .skip (.exit i)) (.block j (.seq (.region id3 ops3 false) c)))))) ) (.mrng pre' x it nx bb et j c'')
def n6:AV→Option Nat
 | .ptr b _=>some b
 | .rptr b ..=>some b
 | .slc b ..=>some b
 | .slo b ..=>some b
 | .mp b=>some b
 | _=>none
def rOf (e:Env):List Nat→Nat→Prop
 | [],_=>False
 | t::l,b=>n6 (e t).val=some b∨rOf e l b
def Jn (k:Env→Store→Prop)(K:Exit→Env→Store→Prop):Exit→Env→Store→Prop
 | .normal,e,s=>k e s
 | x,e,s=>K x e s
def Jo (I:Nat→Env→Store→Prop)(m:Nat)(K:Exit→Env→Store→Prop):Exit→Env→Store→Prop
 | .normal,e,s=>∃ m' e' s',Wk s e s' e'∧m' < m∧I m' e' s'
 | x,e,s=>K x e s
def wU (kn:Nat)(k:List Int):AV:=match kn with
 | 0=>.int .i64 (k.headD 0)
 | _+1=>.agg (k.map (.int .i64))
def rngK (J:Env→Store→Prop):Exit→Env→Store→Prop
 | .normal,e,s=>∃ e' s',Wk s e s' e'∧J e' s'
 | _,_,_=>False
def o7 (x:Opd)(it nx bb et:Nat)(body:(Exit→Env→Store→Prop)→Env→Store→Prop)(K:Env→Store→Prop)(e:Env)(s:Store):Prop:=
 (opd e x).df∧∃ m kn es,(opd e x).val = .mp m∧s m=some (.imap kn es none)∧∀ r en cl,s r=none→r≠m →
  ∃ (I:List Nat→Env→Store→Prop) (e0:Env) (s0:Store),Wk (upd (upd s m (.rmap en cl)) r (.rit m cl #[])) (Env.set e it (.ptr r 0)) s0 e0∧s0 r=some (.rit m cl #[])∧I [] e0 s0 ∧
  (∀ v e s,I v e s→e it = .ptr r 0∧s m=some (.rmap en cl)) ∧
  (∀ v e s seen,I v e s→∀ i,i < es.length→i∉v→body (rngK fun e' s'=>s' r=some (.rit m cl seen)∧I (v++[i]) e' s')
   (Env.set (Env.set (Env.set e nx .undef) bb .undef) et (.tup [wU kn (es.getD i default).1,(es.getD i default).2])) (upd s r (.rit m cl seen))) ∧
  (∀ v e s,I v e s→(∀ i,i < es.length→i∈v)→K (Env.set (Env.set e nx .undef) bb .undef) (upd (del s r) m (.imap kn es none)))
def xc (P:Program)(T:Tbl):ACode→(Exit→Env→Store→Prop)→Env→Store→Prop
 | .skip,K,e,s=>K .normal e s
 | .ret,K,e,s=>K .ret e s
 | .exit i,K,e,s=>K (.exit i) e s
 | .reg l,K,e,s=>uj P T (l ()) (fun e s=>K .normal e s) e s
 | .drw rs l,K,e,s=>(∀ b,rOf e rs b→own s b)∧xr P T (rOf e rs) (l ()) (fun e s=>K .normal e s) e s
 | .seq a b,K,e,s=>xc P T a (Jn (xc P T b K) K) e s
 | .cond c a b,K,e,s=>(opd e c).df∧match(opd e c).val with
  | .bool g=>(g=true→xc P T a K e s)∧(g=false→xc P T b K e s)
  | _=>False
 | .blk i c,K,e,s=>xc P T c (iy i K) e s
 | .mrng pre x it nx bb et j c,K,e,s=>uj P T (pre ()) (o7 x it nx bb et (fun K'=>xc P T (c ()) (iy j K')) (K .normal)) e s
 | .loop c,K,e,s=>∃ (I:Nat→Env→Store→Prop) (m:Nat) (e0:Env) (s0:Store),Wk s e s0 e0∧I m e0 s0∧∀ m e s,I m e s→xc P T (c ()) (Jo I m K) e s
theorem rA {P:Program}{T:Tbl}{R:Nat→Prop}{K K':Env→Store→Prop}(h:∀ e s,K e s→K' e s):∀ (l:List AOper) {e:Env} {s:Store},xr P T R l K e s→xr P T R l K' e s
 | [],_,_,hx=>h _ _ hx
 | o::l,_,_,hx=>kZ (fun _ _ hk=>rA h l hk) hx
theorem uW {k k':Env→Store→Prop}{K K':Exit→Env→Store→Prop}(h:∀ e s,k e s→k' e s)(hK:∀ x e s,K x e s→K' x e s)(x:Exit)(e:Env)(s:Store):Jn k K x e s→Jn k' K' x e s:=by
 cases x <;> simp only[Jn] <;> first | exact h _ _ | exact hK _ _ _
theorem tn {i:Nat}{K K':Exit→Env→Store→Prop}(hK:∀ x e s,K x e s→K' x e s)(x:Exit)(e:Env)(s:Store):iy i K x e s→iy i K' x e s:=by
 cases x with
 | exit j=>simp only[iy]; split <;> exact hK _ _ _
 | _=>exact hK _ _ _
theorem uX {I:Nat→Env→Store→Prop}{m:Nat}{K K':Exit→Env→Store→Prop}(hK:∀ x e s,K x e s→K' x e s)(x:Exit)(e:Env)(s:Store):Jo I m K x e s→Jo I m K' x e s:=by
 cases x <;> first | exact hK _ _ _ | exact id
theorem dQ {P:Program}{T:Tbl}:∀ (c:ACode) {K K':Exit→Env→Store→Prop} (h:∀ x e s,K x e s→K' x e s) {e:Env} {s:Store},xc P T c K e s→xc P T c K' e s
 | .skip,_,_,h,_,_,hx=>h _ _ _ hx
 | .ret,_,_,h,_,_,hx=>h _ _ _ hx
 | .exit i,_,_,h,_,_,hx=>h _ _ _ hx
 | .reg l,_,_,h,_,_,hx=>lP (fun _ _=>h _ _ _) (l ()) hx
 | .drw rs l,_,_,h,_,_,hx=>⟨hx.1,rA (fun _ _=>h _ _ _) (l ()) hx.2⟩
 | .seq a b,_,_,h,_,_,hx=>dQ a (uW (fun _ _=>dQ b h) h) hx
 | .cond c a b,_,_,h,e,_,hx=>by
  obtain⟨hd,hx⟩:=hx;refine⟨hd,?_⟩;cases hc:(opd e c).val with
  | bool g=>simp only[hc]at hx ⊢; exact⟨fun g=>dQ a h (hx.1 g),fun g=>dQ b h (hx.2 g)⟩
  | _=>simp only[hc]at hx
 | .blk i c,_,_,h,_,_,hx=>dQ c (tn h) hx
 | .loop c,_,_,h,_,_,hx=>by
  obtain⟨I,m,e0,s0,h1,h2,h3⟩:=hx;exact⟨I,m,e0,s0,h1,h2,fun m e s hI=>dQ (c ()) (uX h) (h3 m e s hI)⟩
 | .mrng pre x it nx bb et j c,_,_,h,_,_,hx=>by
  refine lP (fun e s hw=>?_) (pre ()) hx;obtain⟨hd,m,kn,es,h1,h2,h3⟩:=hw;refine⟨hd,m,kn,es,h1,h2,fun r en cl g1 g2=>?_⟩;obtain⟨I,e0,s0,a1,a2,a3,a4,a5,a6⟩:=h3 r en cl g1 g2;exact⟨I,e0,s0,a1,a2,a3,a4,a5,fun v e s b1 b2=>h _ _ _ (a6 v e s b1 b2)⟩
theorem Dz {P:Program}{n:Nat}{c:Code}{K:Exit→Env→Store→Prop}{e e':Env}{s s':Store}(h:Wk s e s' e')(k:jt P n c K e' s'):jt P n c K e s:=fun ro a w hf=>by
 obtain⟨h1,h2⟩:=h.conf hf;exact wp_mono (k ro a w h1) fun _ _ _ hp=>lq h2 hp
theorem tp {P:Program}{n:Nat}{c:Code}{K:Exit→Env→Store→Prop}{e:Env}{s:Store}(I:Nat→Env→Store→Prop)(m:Nat){e0:Env}{s0:Store}(hw:Wk s e s0 e0)(h0:I m e0 s0)
  (round:∀ m e s,I m e s→jt P n c (Jo I m K) e s):jt P n (.loop c) K e s:=by
 refine Dz hw ?_;intro ro a w hf;refine ig (fun m a' w'=>∃ e' s',I m e' s'∧Conf n s' e' a' w'∧Mv (own s0) (own s') w w'∧a'.defers=a.defers) m ⟨e0,s0,h0,hf,Mv.refl _ _,rfl⟩ ?_;rintro m a1 w1 ⟨e1,s1,hI,hf1,hm1,hd1⟩;refine wp_mono (round m e1 s1 hI ro a1 w1 hf1) ?_;intro ex a2 w2 hp;obtain⟨e2,s2,h1,h2,h3,h4⟩:=hp;rw[hd1]at h4;cases ex with
 | normal=>
  obtain⟨m',e',s',hk,hm,hI2⟩:=h1;obtain⟨g1,g2⟩:=hk.conf h2;exact⟨m',hm,e',s',hI2,g1,hm1.trans (h3.trans g2),h4⟩
 | exit i=>exact⟨e2,s2,h1,h2,hm1.trans h3,h4⟩
 | goto l=>exact⟨e2,s2,h1,h2,hm1.trans h3,h4⟩
 | ret=>exact⟨e2,s2,h1,h2,hm1.trans h3,h4⟩
 | panic ch=>exact⟨e2,s2,h1,h2,hm1.trans h3,h4⟩
 | outgrown=>exact⟨e2,s2,h1,h2,hm1.trans h3,h4⟩
theorem uY {P:Program}{n:Nat}{x y:Code}{c:Operand}{c':Opd}(hc:OkOpd c c'){K:Exit→Env→Store→Prop}{e:Env}{s:Store}(hd:(opd e c').df){g:Bool}(hg:(opd e c').val = .bool g)
  (h:g=true→jt P n x K e s) (k:g=false→jt P n y K e s):jt P n (.cond c x y) K e s:=fun ro a w hf=>by
 have:=al (jF hf c c' hc) hd;rw[hg]at this;have:=dC this;exact eX this (fun e=>h e ro a w hf) (fun e=>k e ro a w hf)
theorem fL {P:Program}{T:Tbl}(hT:fg P T){n:Nat}{ops:Array Oper}{K:Env→Store→Prop}{Q:Exit→Act→World→Prop}{s0:Store}{w0:World}{rest:List Oper}{ro:Option Nat}{d:List Deferred}(hr:∀ e s a w,K e s→Conf n s e a w→Mv (own s0) (own s) w0 w→a.defers=d→dJ ro P ops Q rest a w):
  ∀ (l:List Oper) (l':List AOper) (e:Env) (s:Store) (a:Act) (w:World),OkOpers P n ops l l'→Conf n s e a w→Mv (own s0) (own s) w0 w→a.defers=d→uj P T l' K e s→dJ ro P ops Q (l++rest) a w
 | [],[],e,s,a,w,_,hf,hm,hd,⟨e1,s1,hw,h⟩=>by
  obtain⟨hf1,hm1⟩:=hw.conf hf;exact hr _ _ _ _ h hf1 (hm.trans hm1) hd
 | o::l,ao::l',e,s,a,w,hk,hf,hm,hd,⟨e1,s1,hw,h⟩=>by
  obtain⟨hf1,hm1⟩:=hw.conf hf;have key:=lE hT hk.1 hf1 (R:=fun _=>False) (fun b hb=>hb.elim) h (next:=dJ ro P ops Q (l++rest)) (Q:=Q) (fun e' s' a' w' h1 h2 h3 h4=>fL hT hr l l' e' s' a' w' hk.2 h2 ((hm.trans hm1).trans h3) (h4.trans hd) h1) ro;exact gj key
 | [],_::_,_,_,_,_,hk,_,_,_,_=>hk.elim
 | _::_,[],_,_,_,_,hk,_,_,_,_=>hk.elim
theorem DA (kn:Nat)(k:List Int)(o:Nat→Prop)(w:World):RV o w (wU kn k) (bU kn k):=by
 cases kn with
 | zero=>exact .fz _ _ (.int _ _)
 | succ n=>
  have:∀ j (l:List Int),j < l.length→RV o w (at_ (l.map (AV.int .i64)) j) (b9 (l.map (Value.int .i64)) j):=fun j l hj=>by
   have e1:at_ (l.map (AV.int .i64)) j = .int .i64 l[j]:=by simp[at_,List.getD_eq_getElem?_getD,List.getElem?_map,hj]
   have e2:b9 (l.map (Value.int .i64)) j = .int .i64 l[j]:=by simp[b9,List.getD_eq_getElem?_getD,List.getElem?_map,hj]
   rw[e1,e2]; exact .fz _ _ (.int _ _)
  exact .agg _ _ (by simp) fun j hj=>this j k (by simpa using hj)
theorem EP {r:Option Nat}{P:Program}{ops:Array Oper}{Q:Exit→Act→World→Prop}{o:Oper}{rest:List Oper}{a:Act}{w w':World}{v:Value}(hg:o.guard=none)(hr:(execOp a.eval o).run P w = .ok (.value v) w')(h:dJ r P ops Q rest (a.put o.dst v) w'):dJ r P ops Q (o::rest) a w:=by
 refine gj ?_;rw[if_pos (by simp[Region.wanted,hg])];exact gM hr h
theorem uZ {P:Program}{T:Tbl}(hT:fg P T){n id id2 id3 i j:Nat}{ops ops2 ops3:Array Oper}{pre rest:List Oper}{pre' rest':List AOper}{x:Opd}{it nx bb et:Nat}{c:Code}{c':ACode}(h:OkRng P n ops ops2 pre x it nx bb)(h1:OkOpers P n ops pre pre')
  (h2:OkEnt n ops3 rest it et) (h3:OkOpers P n ops3 rest rest') (ih:∀ {K:Exit→Env→Store→Prop} {e:Env} {s:Store},xc P T c' K e s→jt P n c K e s) {K:Exit→Env→Store→Prop} {e:Env} {s:Store}
  (hx:uj P T pre' (o7 x it nx bb et (fun K'=>xc P T (.seq (.reg fun _=>rest') c') (iy j K')) (K .normal)) e s) :
  jt P n (.seq (.region id ops false) (.block i (.loop (.seq (.region id2 ops2 false) (.seq (.cond (.tmp bb) .skip (.exit i)) (.block j (.seq (.region id3 ops3 false) c))))))) K e s:=by
 obtain⟨ro,Ty,kt,et0,m0,hops,hro,hrd,hrg,hTy,hm0⟩:=h.rng;obtain⟨no,eo,hops2,hno,hnd',hng,heo,hed,heg⟩:=h.nxt;obtain⟨lt1,lt2,lt3,ne1,ne2,ne3⟩:=h.lt;obtain⟨oo,hops3,hoo,hod,hog⟩:=h2.ent;have lt4:=h2.lt;intro ro0 a w hf;refine wp_seq (cT ?_);rw[hops];refine fL hT (s0:=s) (w0:=w) (n:=n) (K:=o7 x it nx bb et (fun K'=>xc P T (.seq (.reg fun _=>rest') c') (iy j K')) (K .normal)) ?_ pre pre' e s a w h1 hf (Mv.refl _ _) rfl hx;intro e1 s1 a1 w1 hw hf1 hm1 hd1;obtain⟨hd,m,kn,es,g1,g2,g3⟩:=hw;have hmv:=al (jF hf1 m0 x hm0) hd;rw[g1]at hmv;have hmv:=iz hmv;obtain⟨en,cl,k1,k2,k3,k4,k5,_⟩:=hf1.st _ _ g2;have hmlt:m < w1.heap.size:=(Array.getElem?_eq_some_iff.1 k1).1;have hrng:=run_range_map (P:=P) w1 Ty kt et0 m en cl hTy k1;refine EP hrg (v:=.pointer (some ⟨w1.heap.size,0,none⟩)) (w':=w1.alloc (.mapIter (some m) cl #[] cl)) (by simp only[execOp,hro,hmv,Sem.run_bind,hrng,Result.andThen_ok,Sem.run_pure]) ?_;have hs1r:s1 w1.heap.size=none:=hf1.st.fresh;have hr2:(w1.alloc (.mapIter (some m) cl #[] cl)).heap[w1.heap.size]?=some (.mapIter (some m) cl #[] cl):=heap_alloc_new w1 _;have hm2:(w1.alloc (.mapIter (some m) cl #[] cl)).heap[m]?=some (.map en cl):=by rw[heap_alloc_old w1 _ hmlt]; exact k1
 have hold:∀ b,b < w1.heap.size→(w1.alloc (.mapIter (some m) cl #[] cl)).heap[b]?=w1.heap[b]?:=fun b hb=>heap_alloc_old w1 _ hb;have mva:=Mv.alloc (o:=own s1) w1 (.mapIter (some m) cl #[] cl);generalize hr0:w1.heap.size=r at *;generalize hw2:w1.alloc (.mapIter (some m) cl #[] cl)=w2 at *;have hrm:r≠m:=by omega
 obtain⟨I,e0,s0,q1,q3,q4,q0,q5,q6⟩:=g3 r en cl hs1r hrm;have mv12:Mv (own s1) (own (upd (upd s1 m (.rmap en cl)) r (.rit m cl #[]))) w1 w2:=by
  refine⟨mva.os,mva.tape,mva.output,mva.size,mva.block,fun b hb=>?_⟩;rcases fJ hb with rfl | hb
  ·right; omega
  ·rcases fJ hb with rfl | hb
   ·exact .inl (bB g2)
   ·exact .inl hb
 have st2:St (upd (upd s1 m (.rmap en cl)) r (.rit m cl #[])) w2:=fun b y hy=>by
  by_cases hb:b=r
  ·subst hb; rw[upd_same]at hy; cases hy; exact hr2
  ·rw[ay _ _ hb]at hy;by_cases hb':b=m
   ·subst hb'; rw[upd_same]at hy; cases hy; exact hm2
   ·rw[ay _ _ hb']at hy;exact(hf1.st b y hy).mv mv12 (hold b (by rw[← hr0]; exact(hf1.st b y hy).lt))
 have hsz1:=hf1.sz;have put_get:∀ (a':Act) (d:Nat) (v:Value) (t:Nat),a'.tmps.size=n→d < n→(a'.put (some d) v).tmps.getD t Go.undef=if t=d then v else a'.tmps.getD t Go.undef:=fun a' d v t hs hd=>by
  simp only[Act.put,Array.getD_eq_getD_getElem?];by_cases ht:t=d
  ·subst ht; rw[if_pos rfl,Array.getElem?_setIfInBounds_self_of_lt (by omega)]; rfl
  ·rw[if_neg ht,Array.getElem?_setIfInBounds_ne (fun e=>ht e.symm)]
 have put_sz:∀ (a':Act) (d:Nat) (v:Value),(a'.put (some d) v).tmps.size=a'.tmps.size:=fun a' d v=>by simp[Act.put]
 have put_df:∀ (a':Act) (d:Nat) (v:Value),(a'.put (some d) v).defers=a'.defers:=fun a' d v=>rfl;have hborn:∀ y∈en.toList,y.born < cl:=fun y hy=>by
  obtain⟨q,hq,rfl⟩:=List.getElem_of_mem hy;have hq':q < en.size:=by simpa using hq
  have:=k4 q (by omega)
  simpa [Array.getD_eq_getD_getElem?,hq']using this
 have hnd:(en.toList.map (·.born)).Nodup:=by
  rw[List.Nodup,List.pairwise_iff_getElem];intro p q hp hq hpq hh;simp only[List.length_map,Array.length_toList]at hp hq;have:=k5 p q (by omega) (by omega) (by simpa [Array.getD_eq_getD_getElem?,hp,hq]using hh);omega
 let F:List Nat→Array Nat→Act→World→Prop:=fun v seen a' w'=>∃ e' s',I v e' s'∧s' r=some (.rit m cl seen)∧(∀ p,p < es.length→(seen.contains (en.getD p default).born=true↔p∈v)) ∧
  Conf n s' e' a' w'∧Mv (own s1) (own s') w1 w'∧a'.defers=a.defers
 have start:F [] #[] (a1.put (some it) (.pointer (some ⟨r,0,none⟩))) w2:=by
  obtain⟨r1,r2,r3⟩:=q1 w2 (fun t=>(a1.put (some it) (.pointer (some ⟨r,0,none⟩))).tmps.getD t Go.undef) st2 (fun t=>by
   rw[put_get _ _ _ _ hsz1 lt1];simp only[Env.set];by_cases ht:t=it
   ·rw[if_pos ht,if_pos ht]; exact .ptr _ _
   ·rw[if_neg ht,if_neg ht]; exact(hf1.env t).mv mv12)
  exact⟨e0,s0,q4,q3,fun p hp=>by simp,⟨by rw[put_sz]; exact hsz1,r1,r2⟩,mv12.trans r3,by rw[put_df]; exact hd1⟩
 rw[hrd];show cwp ro0 P (Code.block i _) (post n K s a.defers w) _ _;refine wp_block (ig (fun k a' w'=>∃ v seen,k=(leftOf en seen).size∧F v seen a' w') _ ⟨[],#[],rfl,start⟩ ?_);rintro _ a3 w3 ⟨v,seen,rfl,e3,s3,hI,hsr,hiff,hf3,hm3,hd3⟩;obtain⟨hit3,hsm⟩:=q0 v e3 s3 hI;have hr3:w3.heap[r]?=some (.mapIter (some m) cl seen cl):=hf3.st r _ hsr;have hmm3:w3.heap[m]?=some (.map en cl):=hf3.st m _ hsm;have hiv:a3.eval (.tmp it) = .pointer (some ⟨r,0,none⟩):=by
  have:=hf3.env it;rw[hit3]at this;exact cE this
 refine wp_seq (cT ?_);rw[hops2];rcases run_next_at (P:=P) w3 no.type r m cl cl seen en cl hr3 hmm3 hborn (Nat.le_refl _)with⟨hz,hrun⟩ | ⟨ent,hmem,w4,hw4,hrun⟩
 ·refine EP hng (v:=.tuple #[.bool false]) (w':=w3) (by simp only[execOp,hno,hiv,Sem.run_bind,hrun,Result.andThen_ok,Sem.run_pure]) ?_;rw[hnd'];have hnv:(a3.put (some nx) (.tuple #[.bool false])).eval (.tmp nx) = .tuple #[.bool false]:=by
   show(a3.put (some nx) (.tuple #[.bool false])).tmps.getD nx Go.undef=_;rw[put_get _ _ _ _ hf3.sz lt2,if_pos rfl]
  refine EP heg (v:=.bool false) (w':=w3) (by simp[execOp,heo,hnv,Instr.extract]) ?_;rw[hed];refine wp_seq (eX (t:=false) ?_ (fun h=>by cases h) (fun _=>rg ?_))
  ·show((a3.put (some nx) _).put (some bb) _).tmps.getD bb Go.undef=_;rw[put_get _ _ _ _ (by rw[put_sz]; exact hf3.sz) lt3,if_pos rfl]
  ·show Exit.inBlock i (post n K s a.defers w) (.exit i) _ _;simp only[Exit.inBlock,if_true];have hall:∀ p,p < es.length→p∈v:=fun p hp=>by
    refine(hiff p hp).1 (all_seen en seen hz _ ?_)
    simp[Array.getD_eq_getD_getElem?,show p < en.size by omega]
   have hK:=q6 v e3 s3 hI hall;have mvf:Mv (own s3) (own (upd (del s3 r) m (.imap kn es none))) w3 w3:=by
    refine Mv.less (fun b hb=>?_) w3;rcases fJ hb with rfl | hb
    ·exact bB hsm
    ·intro h0; apply hb; unfold del; split
     ·rfl
     ·exact h0
   refine⟨_,_,hK,⟨by rw[put_sz,put_sz]; exact hf3.sz,fun b y hy=>?_,fun t=>?_⟩,hm1.trans (hm3.trans mvf),by rw[put_df,put_df]; exact hd3⟩
   ·by_cases hb:b=m
    ·subst hb;rw[upd_same]at hy;cases hy;exact⟨en,cl,hmm3,k2,fun i hi=>⟨(k3 i hi).1,(k3 i hi).2.1,(k3 i hi).2.2.mv (hm3.trans mvf)⟩,k4,k5,fun x i h=>by cases h⟩
    ·rw[ay _ _ hb]at hy;unfold del at hy;split at hy
     ·cases hy
     ·exact(hf3.st b y hy).mv mvf rfl
   ·rw[put_get _ _ _ _ (by rw[put_sz]; exact hf3.sz) lt3,put_get _ _ _ _ hf3.sz lt2];simp only[Env.set];by_cases ht:t=bb
    ·rw[if_pos ht]; exact .undef _
    ·rw[if_neg ht,if_neg ht];by_cases ht':t=nx
     ·rw[if_pos ht']; exact .undef _
     ·rw[if_neg ht',if_neg ht']; exact(hf3.env t).mv mvf
 ·obtain⟨hem,hes⟩:=mem_left hmem;obtain⟨p,hp,hpe⟩:=List.getElem_of_mem hem;have hp':p < en.size:=by simpa using hp
  have hpl:p < es.length:=by omega
  have hpg:en.getD p default=ent:=by simpa [Array.getD_eq_getD_getElem?,hp']using hpe
  have hpv:p∉v:=fun hin=>by
   have:=(hiff p hpl).2 hin;rw[hpg,hes]at this;cases this
  generalize hw5:ChangeMaps.setBlock w4 r (.mapIter (some m) cl (seen.push ent.born) cl)=w5 at hrun;have hrlt:r < w3.heap.size:=(Array.getElem?_eq_some_iff.1 hr3).1;have h5:w5.os=w3.os∧w5.tape=w3.tape∧w5.output=w3.output∧w5.heap.size=w3.heap.size∧(∀ b,b≠r→w5.heap[b]?=w3.heap[b]?)∧w5.heap[r]?=some (.mapIter (some m) cl (seen.push ent.born) cl):=by
   rw[← hw5];have hh:w4.heap=w3.heap∧w4.os=w3.os∧w4.tape=w3.tape∧w4.output=w3.output:=by rcases hw4 with rfl | rfl <;> exact⟨rfl,rfl,rfl,rfl⟩
   refine⟨hh.2.1,hh.2.2.1,hh.2.2.2,?_,fun b hb=>?_,?_⟩
   ·simp[ChangeMaps.setBlock,hh.1]
   ·simp only[ChangeMaps.setBlock,hh.1];exact Array.getElem?_setIfInBounds_ne (Ne.symm hb)
   ·simp[ChangeMaps.setBlock,hh.1,hrlt]
  have hS:=fK (x:=.rit m cl (seen.push ent.born)) (w':=w5) hf3.st (bB hsr) h5.1 h5.2.1 h5.2.2.1 h5.2.2.2.1 h5.2.2.2.2.1 (fun _=>h5.2.2.2.2.2);have hm5:w5.heap[m]?=some (.map en cl):=by rw[h5.2.2.2.2.1 m (Ne.symm hrm)]; exact hmm3
  refine EP hng (v:=.tuple #[.bool true,ent.key,ent.val]) (w':=w5) (by simp only[execOp,hno,hiv,Sem.run_bind,hrun,Result.andThen_ok,Sem.run_pure]) ?_;rw[hnd'];have hnv:(a3.put (some nx) (.tuple #[.bool true,ent.key,ent.val])).eval (.tmp nx) = .tuple #[.bool true,ent.key,ent.val]:=by
   show(a3.put (some nx) _).tmps.getD nx Go.undef=_;rw[put_get _ _ _ _ hf3.sz lt2,if_pos rfl]
  refine EP heg (v:=.bool true) (w':=w5) (by simp[execOp,heo,hnv,Instr.extract]) ?_;rw[hed];refine wp_seq (eX (t:=true) ?_ (fun _=>rf ?_) (fun h=>by cases h))
  ·show((a3.put (some nx) _).put (some bb) _).tmps.getD bb Go.undef=_;rw[put_get _ _ _ _ (by rw[put_sz]; exact hf3.sz) lt3,if_pos rfl]
  ·show cwp ro0 P (Code.block j _) _ _ _;refine wp_block (wp_seq (cT ?_));rw[hops3];have hiv5:((a3.put (some nx) (.tuple #[.bool true,ent.key,ent.val])).put (some bb) (.bool true)).eval (.tmp it) = .pointer (some ⟨r,0,none⟩):=by
    show((a3.put (some nx) _).put (some bb) _).tmps.getD it Go.undef=_;rw[put_get _ _ _ _ (by rw[put_sz]; exact hf3.sz) lt3,if_neg ne2,put_get _ _ _ _ hf3.sz lt2,if_neg ne1];exact hiv
   have hent:=run_entry_at (P:=P) w5 r m cl seen en cl ent h5.2.2.2.2.2 hm5 hem hnd;refine EP hog (v:=.tuple #[ent.key,ent.val]) (w':=w5) (by simp only[execOp,hoo,hiv5,Sem.run_bind,hent,Result.andThen_ok,Sem.run_pure]) ?_;rw[hod];generalize ha6:(((a3.put (some nx) (.tuple #[.bool true,ent.key,ent.val])).put (some bb) (.bool true)).put (some et) (.tuple #[ent.key,ent.val]))=a6;have hc6:Conf n (upd s3 r (.rit m cl (seen.push ent.born))) (Env.set (Env.set (Env.set e3 nx .undef) bb .undef) et (.tup [wU kn (es.getD p default).1,(es.getD p default).2])) a6 w5:=by
    rw[← ha6];refine⟨by rw[put_sz,put_sz,put_sz]; exact hf3.sz,hS.1,fun t=>?_⟩;rw[put_get _ _ _ _ (by rw[put_sz,put_sz]; exact hf3.sz) lt4,put_get _ _ _ _ (by rw[put_sz]; exact hf3.sz) lt3,put_get _ _ _ _ hf3.sz lt2];simp only[Env.set];by_cases ht:t=et
    ·rw[if_pos ht,if_pos ht];obtain⟨e1',e2',e3'⟩:=k3 p hpl;rw[hpg]at e1' e3';refine .tup _ [ent.key,ent.val] rfl fun q hq=>?_
     match q,hq with
     | 0,_=>show RV _ _ (wU kn _) ent.key; rw[e1']; exact DA _ _ _ _
     | 1,_=>exact e3'.mv (hm3.trans hS.2)
    ·rw[if_neg ht,if_neg ht];by_cases ht:t=bb
     ·rw[if_pos ht]; exact .undef _
     ·rw[if_neg ht,if_neg ht];by_cases ht':t=nx
      ·rw[if_pos ht']; exact .undef _
      ·rw[if_neg ht',if_neg ht']; exact(hf3.env t).mv hS.2
   have hbody:=q5 v e3 s3 (seen.push ent.born) hI p hpl hpv;have hfin:∀ {e' s' a' w'},rngK (fun e' s'=>s' r=some (.rit m cl (seen.push ent.born))∧I (v++[p]) e' s') .normal e' s'→Conf n s' e' a' w'→Mv (own (upd s3 r (.rit m cl (seen.push ent.born)))) (own s') w5 w'→a'.defers=a.defers →
     ∃ k,k < (leftOf en seen).size∧∃ v seen,k=(leftOf en seen).size∧F v seen a' w':=by
    rintro e' s' a' w' ⟨e7,s7,hwk,hr7,hI7⟩ hc hmv7 hd7;obtain⟨c7,m7⟩:=hwk.conf hc;refine⟨_,left_shrinks en seen ent hmem,v++[p],seen.push ent.born,rfl,e7,s7,hI7,hr7,fun q hq=>?_,c7,hm3.trans (hS.2.trans (hmv7.trans m7)),hd7⟩;rw[contains_push,Bool.or_eq_true,hiff q hq,List.mem_append,List.mem_singleton,beq_iff_eq];constructor
    ·rintro(h | h)
     ·exact .inl h
     ·right; rw[← hpg]at h; exact k5 q p hq hpl h
    ·rintro(h | h)
     ·exact .inl h
     ·right; rw[h,hpg]
   rw[show rest=rest++[]by simp];refine fL hT (s0:=upd s3 r (.rit m cl (seen.push ent.born))) (w0:=w5) (n:=n) ?_ rest rest' _ _ a6 w5 h3 hc6 (Mv.refl _ _) (show a6.defers=a.defers by rw[← ha6]; exact hd3) hbody;intro e8 s8 a8 w8 hx8 hc8 hm8 hd8;show cwp ro0 P c _ a8 w8;refine wp_mono (ih hx8 ro0 a8 w8 hc8) ?_;rintro ex a9 w9 ⟨e9,s9,hk9,hc9,hm9,hd9⟩;rw[hd8]at hd9;cases ex with
   | normal=>exact hfin hk9 hc9 (hm8.trans hm9) hd9
   | exit q=>
    simp only[iy]at hk9;show Exit.inBlock j _ (.exit q) a9 w9;simp only[Exit.inBlock];split
    ·rename_i hq; rw[if_pos hq]at hk9; exact hfin hk9 hc9 (hm8.trans hm9) hd9
    ·rename_i hq; rw[if_neg hq]at hk9; exact hk9.elim
   | goto l=>exact hk9.elim
   | ret=>exact hk9.elim
   | panic ch=>exact hk9.elim
   | outgrown=>exact hk9.elim
def M7 (K:Exit→Env→Store→Prop):Exit→Env→Store→Prop
 | .goto _,_,_=>False
 | x,e,s=>K x e s
theorem lQ {P:Program}{T:Tbl}:∀ (c:ACode) {K:Exit→Env→Store→Prop} {e:Env} {s:Store},xc P T c K e s→xc P T c (M7 K) e s
 | .skip,_,_,_,hx=>hx
 | .ret,_,_,_,hx=>hx
 | .exit i,_,_,_,hx=>hx
 | .reg l,_,_,_,hx=>hx
 | .drw rs l,_,_,_,hx=>hx
 | .seq a b,K,_,_,hx=>dQ a (fun x e s h=>by
   cases x with
   | normal=>exact lQ b h
   | goto l=>exact h.elim
   | exit i=>exact h
   | ret=>exact h
   | panic c=>exact h
   | outgrown=>exact h) (lQ a hx)
 | .cond c a b,_,e,_,hx=>by
  obtain⟨hd,hx⟩:=hx;refine⟨hd,?_⟩;cases hc:(opd e c).val with
  | bool g=>simp only[hc]at hx ⊢; exact⟨fun g=>lQ a (hx.1 g),fun g=>lQ b (hx.2 g)⟩
  | _=>simp only[hc]at hx
 | .blk i c,K,_,_,hx=>dQ c (fun x e s h=>by
   cases x with
   | normal=>exact h
   | goto l=>exact h.elim
   | exit j=>exact h
   | ret=>exact h
   | panic c=>exact h
   | outgrown=>exact h) (lQ c hx)
 | .loop c,_,_,_,hx=>by
  obtain⟨I,m,e0,s0,h1,h2,h3⟩:=hx;exact⟨I,m,e0,s0,h1,h2,fun m e s hI=>dQ (c ()) (fun x e s h=>by
   cases x with
   | normal=>exact h
   | goto l=>exact h.elim
   | exit j=>exact h
   | ret=>exact h
   | panic c=>exact h
   | outgrown=>exact h) (lQ (c ()) (h3 m e s hI))⟩
 | .mrng pre x it nx bb et j c,_,_,_,hx=>hx
theorem tq {P:Program}{n l:Nat}{K:Exit→Env→Store→Prop}{e:Env}{s:Store}(h:K .normal e s):jt P n (.label l) K e s:=
 fun r a w hf=>uy ⟨e,s,h,hf,Mv.refl _ _,rfl⟩
theorem tr {P:Program}{n:Nat}{c:Code}{K:Exit→Env→Store→Prop}{e:Env}{s:Store}(h:jt P n c (M7 K) e s):jt P n (.scope c) K e s:=
 fun r a w hf=>uz (wp_mono (h r a w hf) fun x a' w' hp=>by
  obtain⟨e1,s1,h1,h2⟩:=hp;cases x with
  | normal=>exact⟨e1,s1,h1,h2⟩
  | goto l=>exact h1.elim
  | exit j=>exact⟨e1,s1,h1,h2⟩
  | ret=>exact⟨e1,s1,h1,h2⟩
  | panic c=>exact⟨e1,s1,h1,h2⟩
  | outgrown=>exact⟨e1,s1,h1,h2⟩)
theorem o8 {P:Program}{T:Tbl}(hT:fg P T){n:Nat}{c:Code}{c':ACode}(hk:OkCode P n c c'):∀ {K:Exit→Env→Store→Prop} {e:Env} {s:Store},xc P T c' K e s→jt P n c K e s:=by
 induction hk with
 | skip=>exact fun h=>uB h
 | ret=>exact fun h=>wx h
 | exit i=>exact fun h=>uC h
 | reg hk=>exact fun h=>o6 hT hk h
 | drw rs hm hk hp hl=>exact fun h=>lO hT hm hk hp hl h.1 h.2
 | seq _ _ ih1 ih2=>
  intro K e s h;refine wy (gk (fun x e s h=>?_) (ih1 h));cases x <;> first | exact ih2 h | exact h
 | cond hc _ _ ih1 ih2=>
  intro K e s h;obtain⟨h1,h2⟩:=h;split at h2
  ·rename_i g hg;exact uY hc h1 hg (fun g=>ih1 (h2.1 g)) (fun g=>ih2 (h2.2 g))
  ·exact h2.elim
 | label l=>exact fun h=>tq h
 | scope _ ih=>exact fun h=>tr (ih (lQ _ h))
 | blk _ ih=>exact fun h=>sX (ih h)
 | mrng h h1 h2 h3 _ he ih=>exact fun hx=>uZ hT h h1 h2 h3 ih (by unfold xc at hx; rw[he]at hx; exact hx)
 | loop _ ih=>
  rintro K e s ⟨I,m,e0,s0,h1,h2,h3⟩;exact tp I m h1 h2 fun m e s hI=>ih (h3 m e s hI)
def gu (P:Program):List ResultVar→List Res→Prop
 | [],[]=>True
 | .tmp t::l,.t t'::l'=>t=t'∧gu P l l'
 | .cell a ty::l,.cell a' ag k::l'=>a=a'∧TyR P ty ag k∧(ag=false→k=1)∧gu P l l'
 | _,_=>False
theorem rB {o:Nat→Prop}{w:World}{as:List AV}{vs:List Value}(h:nP o w as vs){m:Nat}(t:Nat):RV o w (lw as t) ((vs.toArray++Array.replicate m Go.undef).getD t Go.undef):=by
 obtain⟨h1,h2⟩:=h;unfold lw;rcases Nat.lt_or_ge t as.length with hlt | hge
 ·have:(vs.toArray++Array.replicate m Go.undef).getD t Go.undef=b9 vs t:=by
   simp[Array.getD_eq_getD_getElem?,Array.getElem?_append,h1,hlt,b9,List.getD_eq_getElem?_getD]
  rw[this]; exact h2 t hlt
 ·have:at_ as t = .undef:=by simp[at_,List.getD_eq_getElem?_getD,List.getElem?_eq_none hge]
  rw[this]; exact .undef _
theorem o9 {P:Program}{T k:Nat}{ag:Bool}(hT:TyR P T ag k){ad:Addr}(w:World):(loadVar T ad).run P w=(Instr.loadAt T (.pointer (some ad))).run P w:=by
 simp only[Instr.loadAt,Instr.sureAddr,Sem.run_bind,Sem.run_pure,Result.andThen_ok]
def pa (tmps:Array Value):ResultVar→Sem Value
 | .tmp t=>pure (tmps.getD t Go.undef)
 | .cell a t=>do loadVar t (← asAddr (tmps.getD a Go.undef))
theorem qs (fn:Func)(tmps:Array Value):results fn tmps=(do
  let vs ← fn.results.mapM (pa tmps)
  pure (if h:vs.size=1 then vs[0]else .tuple vs)):=by
 unfold results;congr 1
theorem qt {P:Program}{n:Nat}{s:Store}{e:Env}{a:Act}{w:World}(hf:Conf n s e a w){r:ResultVar}{r':Res}(hr:gu P [r] [r']){v:AV}(h:jw e s r'=some v):∃ u,(pa a.tmps r).run P w = .ok u w∧RV (own s) w v u:=by
 cases r with
 | tmp t=>cases r' with
  | t t'=>
   obtain⟨rfl,_⟩:=hr;simp only[jw,Option.some.injEq]at h;subst h;exact⟨_,rfl,hf.env t⟩
  | cell=>exact hr.elim
 | cell t ty=>cases r' with
  | t t'=>exact hr.elim
  | cell t' ag k=>
   obtain⟨rfl,hT,hk,_⟩:=hr;simp only[jw]at h;split at h
   ·rename_i b hb;split at h
    ·rename_i cs hs;split at h
     ·rename_i hl;have hv:=hf.env t;rw[hb]at hv;have hv:=cE hv;have hO:=hf.st b _ hs;have run:∀ u,(Instr.loadAt ty (.pointer (some ⟨b,0,none⟩))).run P w = .ok u w→(pa a.tmps (.cell t ty)).run P w = .ok u w:=fun u hu=>by
       simp only[pa,hv,asAddr,Sem.run_bind,Sem.run_pure,Result.andThen_ok,o9 hT,hu]
      cases ag with
      | true=>
       cases h;obtain⟨vs,h1,h2,h3⟩:=gR (ad:=⟨b,0,none⟩) hl (fun j hj=>by
        obtain⟨v,g1,g2⟩:=dY hO (j:=j) (by omega);exact⟨v,by rw[ce,Nat.zero_add]; exact g1,g2⟩)
       exact⟨_,run _ (kr hT h1 h2),h3⟩
      | false=>
       cases h;have hk1:=hk rfl;obtain⟨v,g1,g2⟩:=dY hO (j:=0) (by omega);exact⟨_,run _ (kq hT g1),g2⟩
     ·cases h
    ·cases h
   ·cases h
theorem je {P:Program}{n:Nat}{s:Store}{e:Env}{a:Act}{w:World}(hf:Conf n s e a w):∀ {l:List ResultVar} {l':List Res},gu P l l'→∀ {vs:List AV},gl e s l'=some vs →
  ∃ us:List Value,(l.mapM (pa a.tmps)).run P w = .ok us w∧us.length=vs.length∧∀ j,j < vs.length→RV (own s) w (at_ vs j) (b9 us j)
 | [],[],_,vs,h=>by
  simp only[gl,Option.some.injEq]at h;subst h;exact⟨[],by simp[List.mapM_nil,Sem.run_pure],rfl,fun j hj=>by simp at hj⟩
 | r::l,r'::l',hr,vs,h=>by
  have h1:gu P [r] [r']∧gu P l l':=by
   cases r <;> cases r' <;> simp only[gu]at hr ⊢
   ·exact⟨⟨hr.1,trivial⟩,hr.2⟩
   ·exact⟨⟨hr.1,hr.2.1,hr.2.2.1,trivial⟩,hr.2.2.2⟩
  simp only[gl]at h;split at h
  ·rename_i v hv;split at h
   ·rename_i vs' hvs;cases h;obtain⟨u,hu,hru⟩:=qt hf h1.1 hv;obtain⟨us,hus,hl,hrs⟩:=je hf h1.2 hvs;refine⟨u::us,?_,by simp[hl],fun j hj=>?_⟩
    ·simp only[List.mapM_cons,Sem.run_bind,hu,Result.andThen_ok,hus,Sem.run_pure]
    ·cases j with
     | zero=>exact hru
     | succ j=>exact hrs j (by simpa using hj)
   ·cases h
  ·cases h
 | [],_::_,hr,_,_=>hr.elim
 | .tmp _::_,[],hr,_,_=>hr.elim
 | .cell ..::_,[],hr,_,_=>hr.elim
theorem kB {P:Program}{fn:Func}{l':List Res}(hr:gu P fn.results.toList l'){n:Nat}{s:Store}{e:Env}{a:Act}{w:World}(hf:Conf n s e a w){v:AV}(h:gm e s l'=some v):
  ∃ u,(results fn a.tmps).run P w = .ok u w∧RV (own s) w v u:=by
 unfold gm at h;have key:∀ vs,gl e s l'=some vs→∃ us:List Value,(fn.results.mapM (pa a.tmps)).run P w = .ok us.toArray w∧us.length=vs.length∧∀ j,j < vs.length→RV (own s) w (at_ vs j) (b9 us j):=fun vs hvs=>by
  obtain⟨us,h1,h2,h3⟩:=je hf hr hvs;refine⟨us,?_,h2,h3⟩;have:fn.results.mapM (pa a.tmps)=List.toArray <$> fn.results.toList.mapM (pa a.tmps):=by
   rw[← List.mapM_toArray]
  rw[this,map_eq_pure_bind];simp only[Sem.run_bind,h1,Result.andThen_ok,Sem.run_pure]
 rw[qs];split at h
 ·rename_i v' hv;cases h;obtain⟨us,h1,h2,h3⟩:=key _ hv
  match us,h2,h3 with
  | [u],_,h3=>
   refine⟨u,?_,h3 0 (by simp)⟩;simp only[Sem.run_bind,h1,Result.andThen_ok,Sem.run_pure];rfl
 ·rename_i vs hne hv;cases h;obtain⟨us,h1,h2,h3⟩:=key _ hv;refine⟨.tuple us.toArray,?_,.tup _ _ h2 h3⟩;have hsz:¬ us.toArray.size=1:=by
   simp only[List.size_toArray,h2];intro h0
   match vs,h0,hne with
   | [x],_,hne=>exact hne x rfl
  simp only[Sem.run_bind,h1,Result.andThen_ok,Sem.run_pure,dif_neg hsz]
 ·cases h
def FC (rs:List Res)(R:AV→Store→Prop):Exit→Env→Store→Prop
 | .normal,e,s | .ret,e,s=>∃ r,gm e s rs=some r∧∃ r' s',Wk1 s r s' r'∧R r' s'
 | _,_,_=>False
structure Fn (P:Program) (f:FuncId) (n:Nat) (rs:List Res) (c:ACode):Prop where
 ne:f≠YB
 ok : ∃ fn b, P.funcs[f]? = some fn ∧ (fn.name == "runtime.NumGoroutine") = false ∧ fn.body = some b ∧ fn.ntmps = n ∧ gu P fn.results.toList rs ∧ OkCode P n b c
theorem Fn.callR {P:Program}{f:FuncId}{n:Nat}{rs:List Res}{c:ACode}(h:Fn P f n rs c):lr P f:=by
 obtain⟨fn,b,h1,h2,h3,_⟩:=h.ok;exact⟨fn,h1,h2,by simp[h3]⟩
theorem qu {P:Program}{T:Tbl}(hT:fg P T){f:FuncId}{n:Nat}{rs:List Res}{c:ACode}(h:Fn P f n rs c){as:List AV}{s:Store}{R:AV→Store→Prop}(hn:as.length≤n)
  (hx:xc P T c (FC rs R) (lw as) s):AC P f as s R:=by
 refine⟨fun _=>h.callR,fun vs w hs hv=>⟨fun _=>?_,fun e=>absurd e h.ne⟩⟩;obtain⟨fn,b,h1,h2,h3,h4,h5,h6⟩:=h.ok;refine calls_of_wp h1 h3 ((wpIn_wide (n:=0)).1 ?_);have hlen:=hv.1;have hf:Conf n s (lw as) {tmps:=vs.toArray++Array.replicate (fn.ntmps-vs.toArray.size) Go.undef,defers:=[] } w:=
  ⟨by simp[h4,hlen]; omega,hs,fun t=>rB hv t⟩
 refine wp_mono (o8 hT h6 hx none _ w hf) ?_;rintro ex a' w' ⟨e',s',hk,hf',hm,hd⟩;have fin:∀ {e' s' a' w'},(∃ r,gm e' s' rs=some r∧∃ r' s'',Wk1 s' r s'' r'∧R r' s'')→Conf n s' e' a' w'→Mv (own s) (own s') w w'→a'.defers=[]→a'.defers=[]∧∃ v,(results fn a'.tmps).run P w' = .ok v w'∧ret R s w (.returned v) w':=by
  rintro e' s' a' w' ⟨r,hr,r',s'',hw,hR⟩ hf' hm hd;obtain⟨u,hu,hru⟩:=kB h5 hf' hr;obtain⟨g1,g2,g3⟩:=hw w' (fun _=>u) hf'.st (fun _=>hru);exact⟨hd,u,hu,u,r',s'',rfl,hR,g1,g2 0,hm.trans g3⟩
 cases ex with
 | normal=>exact fin hk hf' hm hd
 | ret=>exact fin hk hf' hm hd
 | exit i=>exact hk.elim
 | goto l=>exact hk.elim
 | panic ch=>exact hk.elim
 | outgrown=>exact hk.elim
end Go.Proofs.YtdkaijofmigmbaaGreat.L

set_option linter.unusedVariables false
set_option linter.unusedSimpArgs false
namespace Go.Proofs.YtdkaijofmigmbaaGreat.L
open Go
def EQ (P:Program)(T:TypeId):Option (Bool×Nat):=match P.underlying T,P.info? T with
 | some (.struct _),some i=>some (true,i.size)
 | some (.array _ _),some i=>some (true,i.size)
 | some _,some i=>some (false,i.size)
 | _,_=>none
def Jp (P:Program)(T f:Nat):Option (Nat×Bool×Nat):=match P.underlying T with
 | some (.struct fs)=>match fs[f]? with
  | some fd=>match EQ P fd.type with
   | some (ag,n)=>some (fd.offset,ag,n)
   | none=>none
  | none=>none
 | _=>none
def zw (P:Program)(T:TypeId):Option Nat:=match P.info? T with
 | some i=>some i.size
 | none=>none
def Jq (P:Program)(T:TypeId):Option (Nat×Nat):=match P.underlying T with
 | some (.slice E)=>match P.info? E with
  | some i=>some (E,i.size)
  | none=>none
 | _=>none
def wq:Value→AV
 | .int k n=>.int k n
 | .bool b=>.bool b
 | .string s=>.str s
 | .pointer none=>.nilp
 | .slice none 0 0=>.emp
 | .map none=>.nilm
 | _=>.undef
def fM (v:Value):List AV:=v.cells.toList.map wq
def u0:Value→AV
 | .agg cs=>.agg (cs.toList.map wq)
 | v=>wq v
def zx (P:Program)(T:TypeId):Option Value:=match P.info? T with
 | some i=>i.zero
 | none=>none
section
variable {P:Program}
theorem n7 (v:Value)(o:Nat→Prop)(w:World):RV o w (wq v) v:=by
 unfold wq;split <;> first
  | exact .undef _
  | exact .fz _ _ (.int _ _)
  | exact .fz _ _ (.bool _)
  | exact .fz _ _ (.str _)
  | exact .fz _ _ .nilp
  | exact .fz _ _ (.emp _)
  | exact .fz _ _ .nilm
theorem wV (v:Value)(o:Nat→Prop)(w:World):RV o w (u0 v) v:=by
 unfold u0;split
 ·rename_i cs;have:=RV.agg (own:=o) (w:=w) (cs.toList.map wq) cs.toList (by simp) (fun j hj=>by
   have hj':j < cs.toList.length:=by simpa using hj
   have e:at_ (cs.toList.map wq) j=wq (b9 cs.toList j):=by
    simp only[at_,b9,List.getD_eq_getElem?_getD,List.getElem?_map,List.getElem?_eq_getElem hj',Option.map_some,Option.getD_some]
   rw[e]; exact n7 _ o w)
  simpa using this
 ·exact n7 _ o w
theorem la (v:Value):ZR (fM v) v.cells:=fun o w=>⟨by simp[fM],fun j hj=>by
 have hj':j < v.cells.toList.length:=by simpa [fM]using hj
 have e:at_ (fM v) j=wq (v.cells.getD j Go.undef):=by
  simp only[fM,at_,List.getD_eq_getElem?_getD,List.getElem?_map,List.getElem?_eq_getElem hj',Option.map_some,Option.getD_some,Array.getD_eq_getD_getElem?];simp only[Array.length_toList]at hj'
  simp[hj']
 rw[e]; exact n7 _ o w⟩
theorem gv {T n:Nat}(h:zw P T=some n)(w:World):(sizeOf T).run P w = .ok n w:=by
 unfold zw at h;split at h
 ·rename_i i hi;cases h
  simp[sizeOf,run_typeInfo w hi]
 ·cases h
theorem lR {T n:Nat}{ag:Bool}(h:EQ P T=some (ag,n)):TyR P T ag n:=by
 unfold EQ at h;split at h
 ·rename_i fs i hu hi;cases h;exact⟨fun w=>by simp[isAgg,run_underlying hu],gv (by simp[zw,hi])⟩
 ·rename_i l e i hu hi;cases h;exact⟨fun w=>by simp[isAgg,run_underlying hu],gv (by simp[zw,hi])⟩
 ·rename_i d i hd1 hd2 hu hi;cases h;refine⟨fun w=>?_,gv (by simp[zw,hi])⟩;simp only[isAgg,Sem.run_bind,run_underlying hu,Result.andThen_ok];cases d <;> first
   | rfl
   | exact absurd rfl (hd1 _)
   | exact absurd rfl (hd2 _ _)
 ·cases h
theorem qv {T f off n:Nat}{ag:Bool}(h:Jp P T f=some (off,ag,n)):EO P T f off ag n:=by
 unfold Jp at h;split at h
 ·rename_i fs hu;split at h
  ·rename_i fd hf;split at h
   ·rename_i ag' n' ht;cases h;exact⟨fs,fd,hu,hf,rfl,lR ht⟩
   ·cases h
  ·cases h
 ·cases h
theorem eZ {T E n:Nat}(h:Jq P T=some (E,n)):P.underlying T=some (.slice E)∧∀ w,(sizeOf E).run P w = .ok n w:=by
 unfold Jq at h;split at h
 ·rename_i E' hu;split at h
  ·rename_i i hi;cases h;exact⟨hu,gv (by simp[zw,hi])⟩
  ·cases h
 ·cases h
theorem qw {T:Nat}{v:Value}(h:zx P T=some v)(w:World):(zeroValue T).run P w = .ok v w:=by
 unfold zx at h;split at h
 ·rename_i i hi
  simp[zeroValue,run_typeInfo w hi,h]
 ·cases h
theorem u1 {T:Nat}{v:Value}(h:zx P T=some v):C3 P T (fM v):=⟨v,qw h,la v⟩
theorem rC {T:Nat}{v:Value}(h:zx P T=some v):FA P T (u0 v):=⟨v,qw h,wV v⟩
def pb (P:Program)(T n:Nat):Bool:=
 (match P.underlying T with
  | some (.struct _)=>true
  | _=>false)&&!P.stoodInHeld T&&!P.eqGuardType P.depth T&&(P.fieldsOf T).toList.length==n &&
 (P.fieldsOf T).toList.zipIdx.all fun x => x.1.name != "_" && x.1.offset == x.2 && (match P.underlying x.1.type with
  | some (.int .i64)=>true
  | _=>false)
theorem lS {T n:Nat}(h:pb P T n=true):IntS P T n:=by
 simp only[pb,Bool.and_eq_true,Bool.not_eq_true',beq_iff_eq]at h;obtain⟨⟨⟨⟨h1,h2⟩,h3⟩,h4⟩,h5⟩:=h;refine⟨?_,h2,h3,h4,fun i f hf=>?_⟩
 ·split at h1
  ·rename_i fs hu; rw[hu]; simp[Program.fieldsOf,hu]
  ·cases h1
 ·have:=List.all_eq_true.1 h5 (f,i) (List.mem_of_getElem? (i:=i) (by simp[hf]));simp only[Bool.and_eq_true,bne_iff_ne,ne_eq,beq_iff_eq]at this;obtain⟨⟨a1,a2⟩,a3⟩:=this;refine⟨a1,a2,?_⟩;split at a3
  ·rename_i hu; exact hu
  ·cases a3
def DB (P:Program)(kt:TypeId):Option Nat:=match P.underlying kt with
 | some (.int .i64)=>some 0
 | some (.struct fs)=>match fs.size with
  | n+1=>if pb P kt (n+1)=true then some (n+1)else none
  | 0=>none
 | _=>none
theorem wW {kt kn:Nat}(h:DB P kt=some kn):jA P kt kn:=by
 unfold DB at h;split at h
 ·rename_i hu; cases h; exact hu
 ·split at h
  ·split at h
   ·rename_i hi; cases h; exact lS hi
   ·cases h
  ·cases h
 ·cases h
def qx (P:Program)(T:TypeId):Option (Nat×Nat×Nat):=match P.underlying T with
 | some (.map kt et)=>match DB P kt with
  | some kn=>some (kt,et,kn)
  | none=>none
 | _=>none
theorem eN {T kt et kn:Nat}(h:qx P T=some (kt,et,kn)):P.underlying T=some (.map kt et)∧jA P kt kn:=by
 unfold qx at h;split at h
 ·rename_i hu;split at h
  ·rename_i hk; cases h; exact⟨hu,wW hk⟩
  ·cases h
 ·cases h
def zy (P:Program)(T:TypeId):Option (Nat×Nat×Nat×Value):=match P.underlying T with
 | some (.slice E)=>match P.info? E with
  | some i=>match i.zero with
   | some zv=>if zv.cells.size=i.size∧0 < i.size∧0 < i.bytes∧zv.cells.toList.all Value.oneCell'=true then some (E,i.size,i.bytes,zv)else none
   | none=>none
  | none=>none
 | _=>none
theorem gw {T E k by_:Nat}{zv:Value}(h:zy P T=some (E,k,by_,zv)):(∃ i,ElR P T E k by_ (fM zv) i zv)∧(fM zv).length=k∧td P T E k:=by
 unfold zy at h;split at h
 ·rename_i E' hu;split at h
  ·rename_i i hi;split at h
   ·rename_i zv' hz;split at h
    ·rename_i hc;cases h;obtain⟨c1,c2,c3,c4⟩:=hc;exact⟨⟨i,hu,hi,rfl,rfl,hz,c1,c2,c3,fun u hu=>List.all_eq_true.1 c4 u hu,fun _=>la _⟩,by simp[fM,c1],hu,i,_,hi,rfl,c2,hz,c1⟩
    ·cases h
   ·cases h
  ·cases h
 ·cases h
def Kj (P:Program)(T:TypeId):Option (List (Nat×Nat)×Value):=match P.info? T with
 | some it=>match P.underlying T with
  | some (.struct fs)=>match it.zero with
   | some zv=>match fs.toList.mapM (fun f=>(P.info? f.type).map fun i=>(f.offset,i.size))with
    | some pl=>some (pl,zv)
    | none=>none
   | none=>none
  | some (.array n E)=>match it.zero,P.info? E with
   | some zv,some ie=>some ((List.range n).map fun i=>(i*ie.size,ie.size),zv)
   | _,_=>none
  | _=>none
 | none=>none
theorem DD {T:Nat}{pl:List (Nat×Nat)}{zv:Value}(h:Kj P T=some (pl,zv)):CX P T pl (fM zv)∨CY P T pl (fM zv):=by
 unfold Kj at h;split at h
 ·rename_i it hi;split at h
  ·rename_i fs hu;split at h
   ·rename_i zv' hz;split at h
    ·rename_i pl' hp;cases h;exact .inl ⟨it,fs,zv,hi,hu,hz,la _,hp⟩
    ·cases h
   ·cases h
  ·rename_i n E hu;split at h
   ·rename_i zv' ie hz he;cases h;exact .inr ⟨it,n,E,ie,zv,hi,hu,hz,la _,he,rfl⟩
   ·cases h
  ·cases h
 ·cases h
end
def FD (P:Program)(T:TypeId):Option (Nat×Nat):=match P.underlying T with
 | some (.array n E)=>match P.info? E with
  | some ie=>some (n,ie.size)
  | none=>none
 | _=>none
theorem qy {P:Program}{T n k:Nat}(h:FD P T=some (n,k)):ArR P T n k:=by
 unfold FD at h;split at h
 ·rename_i n' E hu;split at h
  ·rename_i ie hi; cases h; exact⟨E,hu,gv (by simp[zw,hi])⟩
  ·cases h
 ·cases h
def FE (n k:Nat)(z:List AV)(zv:Value):Bool:=
 decide (n≤9223372036854775807)&&decide (zv.cells.size=n*k)&&decide (z.length=k)&&zv.cells.toList.all Value.oneCell'&&(List.range n).all fun i=>(List.range k).all fun j=>
  match at_ z j,zv.cells.getD (i*k+j) Go.undef with
  | .int k1 a,.int k2 b=>decide (k1=k2)&&decide (a=b)
  | .bool a,.bool b=>decide (a=b)
  | .emp,.slice none 0 0=>true
  | _,_=>false
def wX (P:Program)(T:TypeId):Option (Nat×Nat×List AV):=match FD P T,zx P T with
 | some (n,k),some zv=>let z:=(fM zv).take k; if FE n k z zv=true then some (n,k,z)else none
 | _,_=>none
theorem wY {P:Program}{T n k:Nat}{z:List AV}(h:wX P T=some (n,k,z)):ArR P T n k∧ArZ P T n k z:=by
 unfold wX at h;split at h
 ·rename_i n' k' zv h1 h2;simp only[]at h;split at h
  ·rename_i hb;cases h;refine⟨qy h1,?_⟩;simp only[FE,Bool.and_eq_true,decide_eq_true_eq]at hb;obtain⟨⟨⟨⟨b1,b2⟩,b3⟩,b4⟩,b5⟩:=hb;refine⟨b1,zv,qw h2,b2,b3,fun i j hi hj=>⟨?_,?_⟩⟩
   ·have:=List.all_eq_true.1 (List.all_eq_true.1 b5 i (List.mem_range.2 hi)) j (List.mem_range.2 hj);intro o w;split at this
    ·rename_i h3 h4;simp only[Bool.and_eq_true,decide_eq_true_eq]at this;obtain⟨rfl,rfl⟩:=this;rw[h3,h4]; exact .fz _ _ (.int _ _)
    ·rename_i h3 h4;simp only[decide_eq_true_eq]at this;subst this;rw[h3,h4]; exact .fz _ _ (.bool _)
    ·rename_i h3 h4;rw[h3,h4]; exact .fz _ _ (.emp _)
    ·cases this
   ·have hlt:i*k+j < zv.cells.size:=by
     rw[b2];have:(i+1)*k≤n*k:=Nat.mul_le_mul_right k hi;rw[Nat.add_mul]at this;omega
    refine List.all_eq_true.1 b4 _ ?_
    simp[Array.getD_eq_getD_getElem?,hlt]
  ·cases h
 ·cases h
def cOpd:Operand→Option Opd
 | .tmp t=>some (.t t)
 | .const v=>some (.c (wq v))
 | .func f=>some (.c (.fn f []))
 | .global _=>none
theorem cOpd_ok {x:Operand}{y:Opd}(h:cOpd x=some y):OkOpd x y:=by
 cases x with
 | tmp t=>cases h; rfl
 | const v=>cases h; exact n7 v
 | func f=>cases h; rfl
 | global g=>cases h
def kC:List Operand→Option (List Opd)
 | []=>some []
 | x::l=>match cOpd x with
  | some y=>match kC l with
   | some r=>some (y::r)
   | none=>none
  | none=>none
theorem dE:∀ {l:List Operand} {r:List Opd},kC l=some r→cK l r
 | [],_,h=>by cases h; trivial
 | x::l,r,h=>by
  simp only[kC]at h;split at h
  ·rename_i y hy;split at h
   ·rename_i r' hr; cases h; exact⟨cOpd_ok hy,dE hr⟩
   ·cases h
  ·cases h
def wZ:Option Operand→Option (Option Opd)
 | none=>some none
 | some x=>match cOpd x with
  | some y=>some (some y)
  | none=>none
theorem eO {x:Option Operand}{y:Option Opd}(h:wZ x=some y):bN x y:=by
 cases x with
 | none=>cases h; trivial
 | some x=>
  simp only[wZ]at h;split at h
  ·rename_i y' hy; cases h; exact cOpd_ok hy
  ·cases h
def w6:Nat→List (Nat×Operand)→Option (List Opd)
 | _,[]=>some []
 | i,(i',x)::l=>if i'=i then match cOpd x with
  | some y=>match w6 (i+1) l with
   | some r=>some (y::r)
   | none=>none
  | none=>none
  else none
theorem n8:∀ {l:List (Nat×Operand)} {i:Nat} {r:List Opd},w6 i l=some r→kv i l r
 | [],_,_,h=>by cases h; trivial
 | (i',x)::l,i,r,h=>by
  simp only[w6]at h;split at h
  ·rename_i he;split at h
   ·rename_i y hy;split at h
    ·rename_i r' hr; cases h; exact⟨he,cOpd_ok hy,n8 hr⟩
    ·cases h
   ·cases h
  ·cases h
def n9 (pl:List (Nat×Nat))(m:Nat):List (Nat×Operand)→Option (List (Nat×Nat×Opd))
 | []=>some []
 | (i,x)::l=>match pl[i]? with
  | some (off,n)=>if off+n≤m then match cOpd x with
   | some y=>match n9 pl m l with
    | some r=>some ((off,n,y)::r)
    | none=>none
   | none=>none
   else none
  | none=>none
theorem m3 {pl:List (Nat×Nat)}{m:Nat}:∀ {l:List (Nat×Operand)} {r:List (Nat×Nat×Opd)},n9 pl m l=some r→i9 pl m l r
 | [],_,h=>by cases h; trivial
 | (i,x)::l,r,h=>by
  simp only[n9]at h;split at h
  ·rename_i off n hp;split at h
   ·rename_i he;split at h
    ·rename_i y hy;split at h
     ·rename_i r' hr; cases h; exact⟨hp,he,cOpd_ok hy,m3 hr⟩
     ·cases h
    ·cases h
   ·cases h
  ·cases h
end Go.Proofs.YtdkaijofmigmbaaGreat.L

set_option linter.unusedVariables false
set_option linter.unusedSimpArgs false
namespace Go.Proofs.YtdkaijofmigmbaaGreat.L
open Go
def DE (P:Program)(c:Nat)(b:Builtin)(xs:List Operand)(ts:List TypeId):Option AOp:=match b,xs with
 | .len,[x]=>match ts with
  | [t0]=>match cOpd x,P.underlying t0 with
   | some y,some (.slice _)=>some (.len y)
   | some y,some .string=>some (.lens y)
   | some y,some (.map _ _)=>some (.lenm y (c==1))
   | _,_=>none
  | _=>none
 | .min,[x,y]=>match cOpd x,cOpd y with
  | some x',some y'=>some (.mnx false x' y')
  | _,_=>none
 | .max,[x,y]=>match cOpd x,cOpd y with
  | some x',some y'=>some (.mnx true x' y')
  | _,_=>none
 | .min,xs=>match kC xs with
  | some ys=>some (.mnl false ys)
  | none=>none
 | .max,xs=>match kC xs with
  | some ys=>some (.mnl true ys)
  | none=>none
 | .cap,[x]=>match ts with
  | [t0]=>match cOpd x,P.underlying t0 with
   | some y,some (.slice _)=>some (.cap y)
   | _,_=>none
  | _=>none
 | .clear,[x]=>match ts with
  | [t]=>match zy P t,cOpd x with
   | some (E,k,_,zv),some x'=>some (.clr x' k (fM zv))
   | _,_=>none
  | _=>none
 | .copy,[x,y]=>match ts with
  | t::_=>match zy P t,cOpd x,cOpd y with
   | some (_,k,_,_),some x',some y'=>some (.cpy x' y' k)
   | _,_,_=>none
  | _=>none
 | .append,[x,y]=>match ts with
  | [t,u]=>match zy P t,cOpd x,cOpd y with
   | some (E,k,by_,zv),some x',some y'=>if u=t then some (.app E k by_ x' y')else match P.underlying u with
    | some (.int _)=>some (.apz E k by_ (fM zv) x' y')
    | _=>none
   | _,_,_=>none
  | _=>none
 | _,_=>none
theorem bd {α:Type}{xs:Array α}{l:List α}(h:xs.toList=l):xs=l.toArray:=by rw[← h]
theorem w7 {P:Program}{c:Nat}{b:Builtin}{xs:Array Operand}{ts:Array TypeId}{ao:AOp}(h:DE P c b xs.toList ts.toList=some ao):OkOp P (.call {callee:=.builtin b,args:=xs,argTypes:=ts }) ao:=by
 unfold DE at h;split at h
 ·rename_i x hxs;obtain rfl:=bd hxs;split at h
  ·rename_i t0 hts;obtain rfl:=bd hts;split at h
   ·rename_i hx hu; cases h; exact .len (cOpd_ok hx) rfl hu
   ·rename_i hx hu; cases h; exact .lens (cOpd_ok hx) rfl hu
   ·rename_i hx hu; cases h; exact .lenm (cOpd_ok hx) rfl hu
   ·cases h
  ·cases h
 ·rename_i x y hxs;obtain rfl:=bd hxs;split at h
  ·rename_i h1 h2; cases h; exact .mn (cOpd_ok h1) (cOpd_ok h2)
  ·cases h
 ·rename_i x y hxs;obtain rfl:=bd hxs;split at h
  ·rename_i h1 h2; cases h; exact .mx (cOpd_ok h1) (cOpd_ok h2)
  ·cases h
 ·rename_i hxs _;split at h
  ·rename_i h1; cases h; exact .mnl (mx:=false) (dE h1)
  ·cases h
 ·rename_i hxs _;split at h
  ·rename_i h1; cases h; exact .mnl (mx:=true) (dE h1)
  ·cases h
 ·rename_i x hxs;obtain rfl:=bd hxs;split at h
  ·rename_i t0 hts;obtain rfl:=bd hts;split at h
   ·rename_i hx hu; cases h; exact .cap (cOpd_ok hx) rfl hu
   ·cases h
  ·cases h
 ·rename_i x hxs;obtain rfl:=bd hxs;split at h
  ·rename_i t hts;obtain rfl:=bd hts;split at h
   ·rename_i he h1;cases h;obtain⟨⟨i,g1⟩,_,_⟩:=gw he;exact .clr rfl g1 (cOpd_ok h1)
   ·cases h
  ·cases h
 ·rename_i x y hxs;obtain rfl:=bd hxs;split at h
  ·rename_i t0 tl hts;obtain rfl:=bd hts;split at h
   ·rename_i he h1 h2;cases h;obtain⟨⟨i,g1⟩,_,_⟩:=gw he;exact .cpy rfl g1 (cOpd_ok h1) (cOpd_ok h2)
   ·cases h
  ·cases h
 ·rename_i x y hxs;obtain rfl:=bd hxs;split at h
  ·rename_i t u hts;obtain rfl:=bd hts;split at h
   ·rename_i he h1 h2;split at h
    ·rename_i hu; cases h; subst hu;obtain⟨⟨i,g1⟩,_,_⟩:=gw he;exact .app g1 (cOpd_ok h1) (cOpd_ok h2)
    ·split at h
     ·rename_i hu; cases h;obtain⟨⟨i,g1⟩,g2,_⟩:=gw he;exact .apz g1 g2 hu (cOpd_ok h1) (cOpd_ok h2)
     ·cases h
   ·cases h
  ·cases h
 ·cases h
def DF (P:Program)(op:BinOp)(t:TypeId)(y:Operand):Option Bool:=match y with
 | .const (.slice none 0 0)=>match P.underlying t with
  | some (.slice _)=>match op with
   | .eql=>some false
   | .neq=>some true
   | _=>none
  | _=>none
 | _=>none
theorem xa {P:Program}{op:BinOp}{t:TypeId}{y:Operand}{ne:Bool}(h:DF P op t y=some ne):y = .const (.slice none 0 0)∧(∃ E,P.underlying t=some (.slice E))∧op=(if ne then .neq else .eql):=by
 unfold DF at h;split at h
 ·split at h
  ·rename_i E hu;split at h
   ·cases h; exact⟨rfl,⟨E,hu⟩,rfl⟩
   ·cases h; exact⟨rfl,⟨E,hu⟩,rfl⟩
   ·cases h
  ·cases h
 ·cases h
def DG (P:Program)(op:BinOp)(t:TypeId)(y:Operand):Option Bool:=match y with
 | .const (.pointer none)=>match P.underlying t with
  | some (.pointer _)=>match op with
   | .eql=>some false
   | .neq=>some true
   | _=>none
  | _=>none
 | _=>none
theorem xb {P:Program}{op:BinOp}{t:TypeId}{y:Operand}{ne:Bool}(h:DG P op t y=some ne):y = .const (.pointer none)∧(∃ E,P.underlying t=some (.pointer E))∧op=(if ne then .neq else .eql):=by
 unfold DG at h;split at h
 ·split at h
  ·rename_i E hu;split at h
   ·cases h; exact⟨rfl,⟨E,hu⟩,rfl⟩
   ·cases h; exact⟨rfl,⟨E,hu⟩,rfl⟩
   ·cases h
  ·cases h
 ·cases h
def Kk (P:Program)(op:BinOp)(t:TypeId):Option Bool:=match P.underlying t with
 | some .bool=>match op with
  | .eql=>some false
  | .neq=>some true
  | _=>none
 | _=>none
theorem DH {P:Program}{op:BinOp}{t:TypeId}{ne:Bool}(h:Kk P op t=some ne):P.underlying t=some .bool∧op=(if ne then .neq else .eql):=by
 unfold Kk at h;split at h
 ·rename_i hu;split at h
  ·cases h; exact⟨hu,rfl⟩
  ·cases h; exact⟨hu,rfl⟩
  ·cases h
 ·cases h
def Kl (P:Program)(c:Nat):Op→Option AOp
 | .move x=>match cOpd x with
  | some y=>some (.mov y)
  | none=>none
 | .assign x=>match cOpd x with
  | some y=>some (.mov y)
  | none=>none
 | .binOp op t x y _=>match cOpd x,cOpd y with
  | some x',some y'=>match DF P op t y with
   | some ne=>some (.isn ne x')
   | none=>match DG P op t y with
   | some ne=>some (.pnn ne x')
   | none=>match Kk P op t with
   | some ne=>some (.bq ne x' y')
   | none=>match op,EQ P t with
   | .eql,some (true,n)=>if pb P t n=true then some (.eqs false n x' y')else none
   | .neq,some (true,n)=>if pb P t n=true then some (.eqs true n x' y')else none
   | op,_=>some (.bin (c==0) op x' y')
  | _,_=>none
 | .unOp .not _ x=>match cOpd x with
  | some y=>some (.unot y)
  | none=>none
 | .unOp .neg _ x=>match cOpd x with
  | some y=>some (.uneg y)
  | none=>none
 | .pick c x y=>match cOpd c,cOpd x,cOpd y with
  | some c',some x',some y'=>some (.pick c' x' y')
  | _,_,_=>none
 | .nilCheck x=>match cOpd x with
  | some y=>some (.nilc y)
  | none=>none
 | .fieldAddr T x f=>match cOpd x,Jp P T f with
  | some y,some (off,_,n)=>if n=0 then none else some (.fld y off)
  | _,_=>none
 | .load T x=>match cOpd x,EQ P T with
  | some y,some (true,n)=>some (.ldn y n (c==1))
  | some y,some (false,1)=>some (.ld1 y (c==1))
  | _,_=>none
 | .field T x f=>match cOpd x,Jp P T f with
  | some y,some (off,true,n)=>if n=0 then none else some (.fldv y off n true)
  | some y,some (off,false,1)=>some (.fldv y off 1 false)
  | _,_=>none
 | .indexAddr T x i=>match cOpd x,cOpd i with
  | some y,some j=>match FD P T with
   | some (n,k)=>some (.idxa y j k n)
   | none=>match Jq P T with
    | some (_,n)=>some (.idx y j n)
    | none=>none
  | _,_=>none
 | .index T x i=>match cOpd x,cOpd i,P.underlying T with
  | some y,some j,some .string=>some (.idxs y j)
  | _,_,_=>none
 | .extract x i=>match cOpd x with
  | some y=>some (.ext y i)
  | none=>none
 | .build T ps=>match Kj P T with
  | some (pl,zv)=>match n9 pl (fM zv).length ps.toList with
   | some ps'=>some (.bld (fM zv) ps')
   | none=>none
  | none=>none
 | .makeFunc (.func f) fst xs=>match fst.toList,kC xs.toList with
  | [],some ys=>some (.mkf f ys)
  | _,_=>none
 | .convert t u x=>match cOpd x,P.underlying t,P.underlying u with
  | some y,some _,some (.int k)=>some (.cvt k y)
  | _,_,_=>none
 | .slice T x lo hi none=>match cOpd x,wZ lo,wZ hi with
  | some y,some lo',some hi'=>match P.underlying T with
   | some .string=>some (.sls y lo' hi')
   | some (.array _ _)=>match FD P T,lo,hi with
    | some (n,k),none,none=>some (.sla y k n)
    | _,_,_=>none
   | _=>match Jq P T with
    | some (_,n)=>if c=1 then some (.slo y lo' hi' n)else if c=2 then(match lo,hi,hi' with
     | none,some _,some h'=>some (.trn y h')
     | _,_,_=>none)else if c=3 then(match lo,hi,hi' with
     | none,some _,some h'=>some (.sle y h')
     | _,_,_=>none)else some (.sl y lo' hi' n)
    | none=>none
  | _,_,_=>none
 | .buildSlice T n ps=>match zy P T,w6 0 ps.toList with
  | some (E,k,_,_),some ys=>if ys.length=n∧n*k≤16777216 then(if c=1 then some (.bsl k ys)else some (.bsr E k ys))else none
  | _,_=>none
 | .lookup T m key ok=>match qx P T,cOpd m,cOpd key with
  | some (_,et,kn),some m',some key'=>match zx P et with
   | some zv=>some (.lkp kn ok (u0 zv) m' key' (c==1))
   | none=>none
  | _,_,_=>none
 | .alloc T=>match wX P T with
  | some (n,k,z)=>some (.alcr T k n z)
  | none=>match zx P T with
   | some zv=>some (.alc (fM zv))
   | none=>none
 | .box _ x=>match cOpd x with
  | some y=>some (.box y)
  | none=>none
 | .store T p v=>match cOpd p,cOpd v,zw P T with
  | some p',some v',some n=>match wX P T with
   | some (m,k,_)=>if n=m*k then some (.stoa p' v' k m)else none
   | none=>if c=1 then some (.stl p' v' n)else some (.sto p' v' n)
  | _,_,_=>none
 | .makeMap T none=>match qx P T with
  | some (_,_,kn)=>some (.mkm kn T)
  | none=>none
 | .makeSlice T (.tmp n) (.tmp m)=>match zy P T with
  | some (E,k,by_,zv)=>if m=n then some (.mks E k by_ (fM zv) (.t n))else none
  | none=>none
 | .makeSlice T (.const (.int k1 n)) (.const (.int k2 m))=>match zy P T with
  | some (E,k,by_,zv)=>if k1=k2∧m=n then some (.mks E k by_ (fM zv) (.c (.int k1 n)))else none
  | none=>none
 | .mapUpdate T m key v=>match qx P T,cOpd m,cOpd key,cOpd v with
  | some (_,_,kn),some m',some key',some v'=>some (.mup kn m' key' v')
  | _,_,_,_=>none
 | .insert T m key v=>match qx P T,cOpd m,cOpd key,cOpd v with
  | some (_,_,kn),some m',some key',some v'=>some (.mup kn m' key' v')
  | _,_,_,_=>none
 | .mapEntry T m key=>match qx P T,cOpd m,cOpd key with
  | some (_,et,kn),some m',some key'=>match zx P et with
   | some zv=>some (.men kn (u0 zv) m' key')
   | none=>none
  | _,_,_=>none
 | .entryStore _ m st v=>match cOpd m,cOpd st,cOpd v with
  | some m',some st',some v'=>some (.ens m' st' v')
  | _,_,_=>none
 | .call {callee:=.builtin b,args:=xs,argTypes:=ts }=>DE P c b xs.toList ts.toList
 | .call {callee:=.value (.func f),args:=xs,.. }=>match kC xs.toList with
  | some ys=>if c=1 then some (.call f ys)else if Nat.beq f YB then none else some (.xcall f ys)
  | none=>none
 | .call {callee:=.value g,args:=xs,.. }=>match cOpd g,kC xs.toList with
  | some g',some ys=>if c=1 then some (.callv g' ys)else some (.xcallv g' ys)
  | _,_=>none
 | .makeInterface ..=>some .bad
 | .panic _=>some .bad
 | .range ..=>some .bad
 | .next ..=>some .bad
 | .entry _=>some .bad
 | _=>none
theorem DI {P:Program}{c:Nat}{op:Op}{ao:AOp}(h:Kl P c op=some ao):OkOp P op ao:=by
 unfold Kl at h;split at h
 ·split at h
  ·rename_i y hy; cases h; exact .mov (cOpd_ok hy)
  ·cases h
 ·split at h
  ·rename_i y hy; cases h; exact .asg (cOpd_ok hy)
  ·cases h
 ·split at h
  ·rename_i hx hy;split at h
   ·rename_i ne hn;cases h;obtain⟨rfl,⟨E,hu⟩,rfl⟩:=xa hn;exact .isn (cOpd_ok hx) hu
   split at h
   ·rename_i ne hn;cases h;obtain⟨rfl,⟨E,hu⟩,rfl⟩:=xb hn;exact .pnn (cOpd_ok hx) hu
   split at h
   ·rename_i ne hn;cases h;obtain⟨hu,rfl⟩:=DH hn;exact .bq (cOpd_ok hx) (cOpd_ok hy) hu
   ·split at h
    ·split at h
     ·rename_i hi; cases h; exact .eql (lS hi) (cOpd_ok hx) (cOpd_ok hy)
     ·cases h
    ·split at h
     ·rename_i hi; cases h; exact .neq (lS hi) (cOpd_ok hx) (cOpd_ok hy)
     ·cases h
    ·cases h; exact .bin (cOpd_ok hx) (cOpd_ok hy)
  ·cases h
 ·split at h
  ·rename_i y hy; cases h; exact .unot (cOpd_ok hy)
  ·cases h
 ·split at h
  ·rename_i y hy; cases h; exact .uneg (cOpd_ok hy)
  ·cases h
 ·split at h
  ·rename_i h1 h2 h3; cases h; exact .pick (cOpd_ok h1) (cOpd_ok h2) (cOpd_ok h3)
  ·cases h
 ·split at h
  ·rename_i y hy; cases h; exact .nilc (cOpd_ok hy)
  ·cases h
 ·split at h
  ·rename_i hy hf;split at h
   ·cases h
   ·rename_i hn; cases h; exact .fld (cOpd_ok hy) (qv hf) hn
  ·cases h
 ·split at h
  ·rename_i hy ht; cases h; exact .ldn (cOpd_ok hy) (lR ht)
  ·rename_i hy ht; cases h; exact .ld1 (cOpd_ok hy) (lR ht)
  ·cases h
 ·split at h
  ·rename_i hy hf;split at h
   ·cases h
   ·rename_i hn; cases h; exact .fldv (cOpd_ok hy) (qv hf) (Nat.pos_of_ne_zero hn) (fun h=>by cases h)
  ·rename_i hy hf; cases h; exact .fldv (cOpd_ok hy) (qv hf) (by omega) (fun _=>rfl)
  ·cases h
 ·split at h
  ·rename_i hx hi;split at h
   ·rename_i ha; cases h; exact .idxa (cOpd_ok hx) (cOpd_ok hi) (qy ha)
   ·split at h
    ·rename_i hs; cases h; exact .idx (cOpd_ok hx) (cOpd_ok hi) ⟨_,(eZ hs).1,(eZ hs).2⟩
    ·cases h
  ·cases h
 ·split at h
  ·rename_i hx hi hs; cases h; exact .idxs (cOpd_ok hx) (cOpd_ok hi) hs
  ·cases h
 ·split at h
  ·rename_i y hy; cases h; exact .ext (cOpd_ok hy)
  ·cases h
 ·split at h
  ·rename_i hp;split at h
   ·rename_i hq; cases h; exact .bld (DD hp) (m3 hq)
   ·cases h
  ·cases h
 ·split at h
  ·rename_i h0 hx;cases h;rw[bd h0];exact .mkf (dE hx)
  ·cases h
 ·split at h
  ·rename_i hx h1 h2; cases h; exact .cvt (cOpd_ok hx) h1 h2
  ·cases h
 ·split at h
  ·rename_i hx h1 h2;split at h
   ·rename_i hu; cases h; exact .sls (cOpd_ok hx) hu (eO h1) (eO h2)
   ·split at h
    ·rename_i ha; cases h; exact .sla (cOpd_ok hx) (qy ha)
    ·cases h
   ·split at h
    ·rename_i hs;split at h
     ·cases h; exact .slo (cOpd_ok hx) ⟨_,(eZ hs).1,(eZ hs).2⟩ (eO h1) (eO h2)
     ·split at h
      ·split at h
       ·cases h;exact .trn ⟨_,(eZ hs).1,(eZ hs).2⟩ (cOpd_ok hx) (show bN (some _) (some _)from eO h2)
       ·cases h
      ·split at h
       ·split at h
        ·cases h;exact .sle ⟨_,(eZ hs).1,(eZ hs).2⟩ (cOpd_ok hx) (show bN (some _) (some _)from eO h2)
        ·cases h
       ·cases h; exact .sl (cOpd_ok hx) ⟨_,(eZ hs).1,(eZ hs).2⟩ (eO h1) (eO h2)
    ·cases h
  ·cases h
 ·split at h
  ·rename_i he hr;split at h
   ·rename_i hc;split at h
    ·cases h; exact .bsl (gw he).2.2 (n8 hr) hc.1 hc.2
    ·cases h; exact .bsr (gw he).2.2 (n8 hr) hc.1 hc.2
   ·cases h
  ·cases h
 ·split at h
  ·rename_i hm h1 h2;split at h
   ·rename_i hz; cases h; exact .lkp (eN hm).1 (eN hm).2 (rC hz) (cOpd_ok h1) (cOpd_ok h2)
   ·cases h
  ·cases h
 ·split at h
  ·rename_i hz; cases h; exact .alcr (wY hz).2
  ·split at h
   ·rename_i hz; cases h; exact .alc (u1 hz)
   ·cases h
 ·split at h
  ·rename_i y hy; cases h; exact .box (cOpd_ok hy)
  ·cases h
 ·split at h
  ·rename_i h1 h2 h3;split at h
   ·split at h
    ·rename_i hn; cases h; exact .stoa (hn▸gv h3) (cOpd_ok h1) (cOpd_ok h2)
    ·cases h
   ·split at h
    ·cases h; exact .stl (gv h3) (cOpd_ok h1) (cOpd_ok h2)
    ·cases h; exact .sto (gv h3) (cOpd_ok h1) (cOpd_ok h2)
  ·cases h
 ·split at h
  ·rename_i hm; cases h; exact .mkm
  ·cases h
 ·split at h
  ·rename_i he;split at h
   ·rename_i hmn; cases h; subst hmn;obtain⟨⟨i,h1⟩,h2,h3⟩:=gw he;exact .mks h1 h2 rfl
   ·cases h
  ·cases h
 ·split at h
  ·rename_i he;split at h
   ·rename_i hmn; cases h; obtain⟨rfl,rfl⟩:=hmn;obtain⟨⟨i,h1⟩,h2,h3⟩:=gw he;exact .mks h1 h2 (fun o w=>.fz _ _ (.int _ _))
   ·cases h
  ·cases h
 ·split at h
  ·rename_i hm h1 h2 h3; cases h; exact .mup (eN hm).1 (eN hm).2 (cOpd_ok h1) (cOpd_ok h2) (cOpd_ok h3)
  ·cases h
 ·split at h
  ·rename_i hm h1 h2 h3; cases h; exact .ins (eN hm).1 (eN hm).2 (cOpd_ok h1) (cOpd_ok h2) (cOpd_ok h3)
  ·cases h
 ·split at h
  ·rename_i hm h1 h2;split at h
   ·rename_i hz; cases h; exact .men (eN hm).1 (eN hm).2 (rC hz) (cOpd_ok h1) (cOpd_ok h2)
   ·cases h
  ·cases h
 ·split at h
  ·rename_i h1 h2 h3; cases h; exact .ens (cOpd_ok h1) (cOpd_ok h2) (cOpd_ok h3)
  ·cases h
 ·exact w7 h
 ·split at h
  ·rename_i hx;split at h
   ·cases h; exact .call (dE hx)
   ·split at h
    ·cases h
    ·rename_i hne; cases h; exact .xcall (dE hx) (fun e=>hne (by rw[e]; rfl))
  ·cases h
 ·split at h
  ·rename_i hg hx;split at h
   ·cases h; exact .callv (cOpd_ok hg) (dE hx)
   ·cases h; exact .xcallv (cOpd_ok hg) (dE hx)
  ·cases h
 ·cases h; exact .bad
 ·cases h; exact .bad
 ·cases h; exact .bad
 ·cases h; exact .bad
 ·cases h; exact .bad
 ·cases h
def FF (ops:Array Oper):Option (Nat×Bool)→Option (Option (Nat×Bool))
 | none=>some none
 | some (j,c)=>match(ops[j]?).bind (·.dst)with
  | some g=>some (some (g,c))
  | none=>none
def FG (n:Nat):Option Nat→Bool
 | some d=>decide (d < n)
 | none=>true
def vc (P:Program)(n:Nat)(ops:Array Oper)(c:Nat)(o:Oper):Option AOper:=
 if FG n o.dst=true then match Kl P c o.op,FF ops o.guard with
  | some ao,some g=>some ⟨o.dst,ao,g⟩
  | _,_=>none
 else none
theorem vd {P:Program}{n:Nat}{ops:Array Oper}{c:Nat}{o:Oper}{ao:AOper}(h:vc P n ops c o=some ao):OkOper P n ops o ao:=by
 unfold vc at h;split at h
 ·rename_i hd;split at h
  ·rename_i ao' g h1 h2;cases h;refine⟨rfl,fun x hx=>by rw[hx]at hd; simpa [FG]using hd,DI h1,?_⟩;cases hg:o.guard with
   | none=>rw[hg]at h2; cases h2; exact .inl ⟨rfl,rfl⟩
   | some x=>
    obtain⟨j,c⟩:=x;rw[hg]at h2;simp only[FF]at h2;split at h2
    ·rename_i g' hg'; cases h2; exact .inr ⟨j,c,g',rfl,hg',rfl⟩
    ·cases h2
  ·cases h
 ·cases h
structure RCh where
 ch:List Nat:=[]
 ord:List Nat:=[]
 rs:List Nat:=[]
def jJ (P:Program)(n:Nat)(ops:Array Oper):List Nat→List Oper→Option (List AOper)
 | _,[]=>some []
 | cs,o::l=>match vc P n ops (cs.headD 0) o with
  | some a=>match jJ P n ops cs.tail l with
   | some r=>some (a::r)
   | none=>none
  | none=>none
theorem jK {P:Program}{n:Nat}{ops:Array Oper}:∀ {l:List Oper} {cs:List Nat} {r:List AOper},jJ P n ops cs l=some r→OkOpers P n ops l r
 | [],_,_,h=>by cases h; trivial
 | o::l,cs,r,h=>by
  simp only[jJ]at h;split at h
  ·rename_i a ha;split at h
   ·rename_i r' hr; cases h; exact⟨vd ha,jK hr⟩
   ·cases h
  ·cases h
def Km (cs:List (Nat×RCh))(id:Nat):RCh:=match cs with
 | []=>{}
 | (i,c)::l=>if i=id then c else Km l id
def zz (c:RCh)(n:Nat):List Nat:=match c.ord with
 | []=>List.range n
 | l=>l
def ve (P:Program)(n:Nat)(c:RCh)(ops:Array Oper)(draw:Bool):Option ACode:=match jJ P n ops c.ch ops.toList with
 | some l=>match draw with
  | false=>some (.reg fun _=>l)
  | true=>let π:=zz c ops.size
   if rx ops (Region.before ops) l.toArray π (Array.replicate ops.size false)=true then some (.drw c.rs fun _=>gq l.toArray π)else none
 | none=>none
theorem xd {P:Program}(hm:P.follows .mixedOrders=true){n id:Nat}{c:RCh}{ops:Array Oper}{draw:Bool}{a:ACode}(h:ve P n c ops draw=some a):OkCode P n (.region id ops draw) a:=by
 unfold ve at h;split at h
 ·rename_i l hl;split at h
  ·cases h; exact .reg (jK hl)
  ·simp only[]at h;split at h
   ·rename_i hp; cases h; exact .drw _ hm (jK hl) hp rfl
   ·cases h
 ·cases h
def qz (P:Program)(n:Nat)(ops ops2:Array Oper):Option (Opd×Nat×Nat×Nat):=match ops.toList.getLast?,ops2.toList with
 | some ro,[no,eo]=>match ro.op,ro.dst,ro.guard,no.op,no.dst,no.guard,eo.op,eo.dst,eo.guard with
  | .range Ty m,some it,none,.next (.tmp it') false,some nx,none,.extract (.tmp nx') 0,some bb,none=>match P.underlying Ty,cOpd m with
   | some (.map _ _),some x=>if it=it'∧nx=nx'∧it < n∧nx < n∧bb < n∧it≠nx∧it≠bb∧nx≠bb then some (x,it,nx,bb)else none
   | _,_=>none
  | _,_,_,_,_,_,_,_,_=>none
 | _,_=>none
theorem im {α:Type}:∀ {l:List α} {x:α},l.getLast?=some x→l=l.dropLast++[x]
 | [],x,h=>by simp at h
 | [y],x,h=>by simp at h; simp[h]
 | y::z::l,x,h=>by
  have:=im (l:=z::l) (x:=x) (by simpa [List.getLast?_cons_cons]using h);simp only[List.dropLast_cons_cons,List.cons_append,← this]
theorem tt {P:Program}{n:Nat}{ops ops2:Array Oper}{x:Opd}{it nx bb:Nat}(h:qz P n ops ops2=some (x,it,nx,bb)):OkRng P n ops ops2 ops.toList.dropLast x it nx bb:=by
 unfold qz at h;split at h
 ·rename_i ro no eo h1 h2;split at h
  ·rename_i Ty m it0 it' nx0 nx' bb0 a1 a2 a3 a4 a5 a6 a7 a8 a9;split at h
   ·rename_i kt et x' hu hx;split at h
    ·rename_i hc;cases h;obtain⟨rfl,rfl,c1,c2,c3,c4,c5,c6⟩:=hc;exact⟨⟨ro,Ty,kt,et,m,im h1,a1,a2,a3,hu,cOpd_ok hx⟩,⟨no,eo,h2,a4,a5,a6,a7,a8,a9⟩,c1,c2,c3,c4,c5,c6⟩
    ·cases h
   ·cases h
  ·cases h
 ·cases h
def qA (n:Nat)(ops:Array Oper)(it:Nat):Option Nat:=match ops.toList with
 | o::_=>match o.op,o.dst,o.guard with
  | .entry (.tmp it'),some et,none=>if it'=it∧et < n then some et else none
  | _,_,_=>none
 | []=>none
theorem tu {n:Nat}{ops:Array Oper}{it et:Nat}(h:qA n ops it=some et):OkEnt n ops ops.toList.tail it et:=by
 unfold qA at h;split at h
 ·rename_i o l hl;split at h
  ·rename_i it' et' a1 a2 a3;split at h
   ·rename_i hc; cases h; obtain⟨rfl,h2⟩:=hc;exact⟨⟨o,by rw[hl]; rfl,a1,a2,a3⟩,h2⟩
   ·cases h
  ·cases h
 ·cases h
theorem fk {P:Program}{n:Nat}{ops:Array Oper}:∀ {l:List Oper} {l':List AOper},OkOpers P n ops l l'→OkOpers P n ops l.dropLast l'.dropLast
 | [],[],_=>trivial
 | [o],[a],_=>trivial
 | o::o2::l,a::a2::l',h=>by
  have:=fk (l:=o2::l) (l':=a2::l') h.2;exact⟨h.1,this⟩
 | [],_::_,h=>h.elim
 | _::_,[],h=>h.elim
 | [_],_::_::_,h=>h.2.elim
 | _::_::_,[_],h=>h.2.elim
def FH (P:Program)(n:Nat)(a b:Code):Option (Opd×Nat×Nat×Nat×Nat×Nat):=match a,b with
 | .region _ ops false,.block i (.loop (.seq (.region _ ops2 false) (.seq (.cond (.tmp b1) .skip (.exit i')) (.block j (.seq (.region _ ops3 false) _)))))=>
  match qz P n ops ops2 with
  | some (x,it,nx,bb)=>if i=i'∧b1=bb then(match qA n ops3 it with
   | some et=>some (x,it,nx,bb,et,j)
   | none=>none)else none
  | none=>none
 | _,_=>none
def zA:ACode→Option (List AOper×ACode)
 | .blk _ (.loop f)=>match f ()with
  | .seq _ (.seq _ (.blk _ (.seq (.reg r) c')))=>match r ()with
   | _::rest=>some (rest,c')
   | []=>none
  | _=>none
 | _=>none
def xe (P:Program)(n:Nat)(a b:Code)(a' b':ACode):ACode:=match FH P n a b with
 | some (x,it,nx,bb,et,j)=>match a',zA b' with
  | .reg l,some (rest,c')=>.mrng (fun _=>(l ()).dropLast) x it nx bb et j fun _=>.seq (.reg fun _=>rest) c'
  | _,_=>.seq a' b'
 | none=>.seq a' b'
theorem xf {P:Program}{n:Nat}{a b:Code}{a' b':ACode}(h1:OkCode P n a a')(h2:OkCode P n b b'):OkCode P n (.seq a b) (xe P n a b a' b'):=by
 unfold xe;split
 ·rename_i x it nx bb et j hq;split
  ·rename_i l rest c' hin;unfold FH at hq;split at hq
   ·rename_i id ops i id2 ops2 b1 i' j' id3 ops3 cc;split at hq
    ·rename_i x' it' nx' bb' hr;split at hq
     ·rename_i hc;obtain⟨rfl,rfl⟩:=hc;split at hq
      ·rename_i et' he;cases hq;cases h1 with
       | reg hl=>
        cases h2 with
        | blk h2=>
         cases h2 with
         | loop h2=>
          rename_i f;simp only[zA]at hin;generalize hf:f ()=fu at h2 hin;cases h2 with
          | seq g1 g2=>
           cases g2 with
           | seq g3 g4=>
            cases g4 with
            | blk g5=>
             cases g5 with
             | seq g6 g7=>
              cases g6 with
              | reg g8=>
               rename_i r;simp only[]at hin;generalize hru:r ()=ru at g8 hin;split at hin
               ·rename_i rest0 e0;cases hin;have hent:=tu he;obtain⟨o,ho,_⟩:=hent.ent;have g9:=g8;rw[ho]at g9;exact .mrng (tt hr) (fk hl) hent g9.2 g7 rfl
               ·cases hin
             | mrng=>simp only[]at hin; cases hin
      ·cases hq
     ·cases hq
    ·cases hq
   ·cases hq
  ·exact .seq h1 h2
 ·exact .seq h1 h2
def bC (P:Program)(n:Nat)(cs:List (Nat×RCh)):Code→Option ACode
 | .skip=>some .skip
 | .ret=>some .ret
 | .exit i=>some (.exit i)
 | .region id ops draw=>ve P n (Km cs id) ops draw
 | .seq a b=>match bC P n cs a,bC P n cs b with
  | some a',some b'=>some (xe P n a b a' b')
  | _,_=>none
 | .cond c a b=>match cOpd c,bC P n cs a,bC P n cs b with
  | some c',some a',some b'=>some (.cond c' a' b')
  | _,_,_=>none
 | .block i c=>match bC P n cs c with
  | some c'=>some (.blk i c')
  | none=>none
 | .loop c=>match bC P n cs c with
  | some c'=>some (.loop fun _=>c')
  | none=>none
 | .label _=>some .skip
 | .scope c=>bC P n cs c
 | _=>none
theorem cZ {P:Program}(hm:P.follows .mixedOrders=true){n:Nat}{cs:List (Nat×RCh)}:∀ {c:Code} {a:ACode},bC P n cs c=some a→OkCode P n c a
 | .skip,_,h=>by cases h; exact .skip
 | .ret,_,h=>by cases h; exact .ret
 | .exit i,_,h=>by cases h; exact .exit i
 | .region id ops draw,_,h=>xd hm h
 | .seq x y,_,h=>by
  simp only[bC]at h;split at h
  ·rename_i h1 h2; cases h; exact xf (cZ hm h1) (cZ hm h2)
  ·cases h
 | .cond c x y,_,h=>by
  simp only[bC]at h;split at h
  ·rename_i h0 h1 h2; cases h; exact .cond (cOpd_ok h0) (cZ hm h1) (cZ hm h2)
  ·cases h
 | .block i c,_,h=>by
  simp only[bC]at h;split at h
  ·rename_i h1; cases h; exact .blk (cZ hm h1)
  ·cases h
 | .loop c,_,h=>by
  simp only[bC]at h;split at h
  ·rename_i h1; cases h; exact .loop (cZ hm h1)
  ·cases h
 | .label l,_,h=>by cases h; exact .label l
 | .scope c,_,h=>.scope (cZ hm (by simpa only[bC]using h))
def pc (P:Program):List ResultVar→Option (List Res)
 | []=>some []
 | .tmp t::l=>match pc P l with
  | some r=>some (.t t::r)
  | none=>none
 | .cell a ty::l=>match EQ P ty,pc P l with
  | some (true,k),some r=>some (.cell a true k::r)
  | some (false,1),some r=>some (.cell a false 1::r)
  | _,_=>none
theorem gT {P:Program}:∀ {l:List ResultVar} {r:List Res},pc P l=some r→gu P l r
 | [],_,h=>by cases h; trivial
 | .tmp t::l,r,h=>by
  simp only[pc]at h;split at h
  ·rename_i h1; cases h; exact⟨rfl,gT h1⟩
  ·cases h
 | .cell a ty::l,r,h=>by
  simp only[pc]at h;split at h
  ·rename_i h1 h2; cases h; exact⟨rfl,lR h1,(fun h=>by cases h),gT h2⟩
  ·rename_i h1 h2; cases h; exact⟨rfl,lR h1,fun _=>rfl,gT h2⟩
  ·cases h
def ER (P:Program)(cs:List (Nat×RCh))(fn:Func):Option (Nat×List Res×ACode):=
 if (fn.name == "runtime.NumGoroutine") = false then match fn.body, pc P fn.results.toList with
  | some b,some rs=>match bC P fn.ntmps cs b with
   | some c=>some (fn.ntmps,rs,c)
   | none=>none
  | _,_=>none
 else none
theorem Fn.of {P:Program}(hm:P.follows .mixedOrders=true){f:FuncId}{fn:Func}(hf:P.funcs[f]?=some fn)(cs:List (Nat×RCh)){n:Nat}{rs:List Res}{c:ACode}(h:ER P cs fn=some (n,rs,c))(hne:Nat.beq f YB=false:=by rfl):Fn P f n rs c:=by
 unfold ER at h;split at h
 ·rename_i hname;split at h
  ·rename_i b rs' hb hr;split at h
   ·rename_i c' hc; cases h; exact⟨fun e=>by rw[e]at hne; exact absurd hne (by decide),⟨fn,b,hf,hname,hb,rfl,gT hr,cZ hm hc⟩⟩
   ·cases h
  ·cases h
 ·cases h
end Go.Proofs.YtdkaijofmigmbaaGreat.L

set_option linter.unusedVariables false
set_option linter.unusedSimpArgs false
namespace Go.Proofs.YtdkaijofmigmbaaGreat.D
open Go Go.Proofs.YtdkaijofmigmbaaGreat.L
inductive Ty where
 | int (k:IntKind)
 | bool
 | str
 | sl (t:Ty)
 | pair (a b:Ty)
 | opt (t:Ty)
 | es (t:Ty)
deriving DecidableEq
@[reducible] def Ty.den:Ty→Type
 | .int _=>Int
 | .bool=>Bool
 | .str=>ByteArray
 | .sl t=>List t.den
 | .pair a b=>a.den×b.den
 | .opt t=>Option t.den
 | .es t=>List (List Int×t.den)
def Ty.zero:(t:Ty)→t.den
 | .int _=>(0:Int)
 | .bool=>false
 | .str=>ByteArray.empty
 | .sl _=>[]
 | .pair a b=>(a.zero,b.zero)
 | .opt _=>none
 | .es _=>[]
def Ty.w:Ty→Nat
 | .pair a b=>a.w+b.w
 | _=>1
structure Leaf where
 t:Ty
 x:t.den
@[reducible] def dens:List Ty→Type
 | []=>Unit
 | [t]=>t.den
 | t::u::ts=>t.den×dens (u::ts)
def ofDens:(ts:List Ty)→dens ts→List Leaf
 | [],_=>[]
 | [t],x=>[⟨t,x⟩]
 | t::u::ts,x=>⟨t,x.1⟩::ofDens (u::ts) x.2
def gc (t t':Ty)(x:t'.den):Option t.den:=if h:t'=t then some (h▸x)else none
def ct:(ts:List Ty)→List Leaf→Option (dens ts)
 | [],[]=>some ()
 | [t],[l]=>gc t l.t l.x
 | t::u::ts,l::ls=>match gc t l.t l.x with
  | some x=>match ct (u::ts) ls with
   | some r=>some (x,r)
   | none=>none
  | none=>none
 | _,_=>none
inductive DV where
 | undef
 | v (x:Leaf)
 | emp
 | nilp
 | nilm
 | agg (cs:List DV)
 | tup (vs:List DV)
 | elm (cs:List DV)
 | ptr (b o:Nat)
 | rptr (b k i j:Nat)
 | slc (b:Nat)
 | slo (b k o n:Nat)
 | mp (b:Nat)
 | stk (b:Nat)
 | slr (b:Nat)
 | orow (b i:Nat)
 | irow (b i:Nat)
 | iptr (b k i j o:Nat)
 | pel (b:Nat) (key:Int) (o:Nat)
 | mpl (b:Nat)
 | slh (b:Nat)
 | hrow (b i:Nat)
 | fn (f:Nat) (cs:List DV)
 | whn (g:Bool) (d:DV)
instance:Inhabited DV:=⟨.undef⟩
inductive DObj where
 | box (cs:List DV)
 | row (T:Nat) (t:Ty) (l:List t.den)
 | imap (kn:Nat) (ag:Bool) (t:Ty) (es:List (List Int×t.den)) (pd:Option (Nat×List Int×t.den))
 | rows (T T':Nat) (t:Ty) (l:List (List t.den))
 | pool (t:Ty) (es:List (Int×t.den))
 | pmap (p:Nat)
 | gone (p:Nat)
 | raw (k:Int)
 | rowh (T T':Nat) (t:Ty) (l:List (List t.den)) (i:Nat)
 | hdl (p:Nat)
def ju {α:Type}:List (Nat×α)→Nat→α→List (Nat×α)
 | [],b,o=>[(b,o)]
 | (c,p)::l,b,o=>bif Nat.beq c b then(b,o)::l else(c,p)::ju l b o
def fnd {α:Type}:List (Nat×α)→Nat→Option α
 | [],_=>none
 | (c,p)::l,b=>bif Nat.beq c b then some p else fnd l b
def fe {α:Type}:List (Nat×α)→Nat→List (Nat×α)
 | [],_=>[]
 | (c,p)::l,b=>bif Nat.beq c b then fe l b else(c,p)::fe l b
abbrev DEnv:=List (Nat×DV)
structure DSt where
 nx:Nat
 m:List (Nat×DObj)
def DEnv.get (e:DEnv)(t:Nat):DV:=match fnd e t with
 | some d=>d
 | none=>.undef
def DEnv.put (e:DEnv)(d:Option Nat)(v:DV):DEnv:=match d with
 | some d=>ju e d v
 | none=>e
def DSt.get (S:DSt)(b:Nat):Option DObj:=fnd S.m b
def DSt.set (S:DSt)(b:Nat)(o:DObj):DSt:=⟨S.nx,ju S.m b o⟩
def DSt.del (S:DSt)(b:Nat):DSt:=⟨S.nx,fe S.m b⟩
def DSt.new (S:DSt)(o:DObj):DSt:=⟨S.nx+1,ju S.m S.nx o⟩
def DSt.tick (S:DSt):DSt:=⟨S.nx+1,S.m⟩
def aq {α:Type}(b:Bool)(k:Option α):Option α:=bif b then k else none
def h9 {α:Type}:List Bool→Option α→Option α
 | [],k=>k
 | b::l,k=>aq b (h9 l k)
def cC (k:IntKind)(n:Int):DV:=.v ⟨.int k,n⟩
def ca (b:Bool):DV:=.v ⟨.bool,b⟩
def ES (s:ByteArray):DV:=.v ⟨.str,s⟩
def kL (t:Ty)(l:List t.den):DV:=.v ⟨.sl t,l⟩
def dM:DV→Option (IntKind×Int)
 | .v ⟨.int k,n⟩=>some (k,n)
 | _=>none
def mC:DV→Option Bool
 | .v ⟨.bool,b⟩=>some b
 | _=>none
def qB:DV→Option ByteArray
 | .v ⟨.str,s⟩=>some s
 | _=>none
def DV.val:DV→DV
 | .whn _ d=>d
 | d=>d
def DV.df:DV→List Bool
 | .undef=>[false]
 | .whn g _=>[g]
 | _=>[]
def aY:DV→List DV
 | .agg cs=>cs
 | d=>[d]
def DJ:Ty→Bool
 | .int _ | .bool | .str | .sl _ | .opt _=>true
 | _=>false
def DV.one:DV→Bool
 | .v x=>DJ x.t
 | .emp | .nilp | .nilm | .elm _ | .ptr .. | .rptr .. | .slc _ | .slo .. | .mp _ | .fn .. | .slr _ | .irow .. | .pel .. | .mpl _ | .slh _=>true
 | _=>false
def iG:AV→DV
 | .int k n=>cC k n
 | .bool b=>ca b
 | .str s=>ES s
 | .nilp=>.nilp
 | .nilm=>.nilm
 | .emp=>.emp
 | .fn f []=>bif Nat.beq f YB then .undef else .fn f []
 | _=>.undef
def qC:AV→DV
 | .agg cs=>.agg (cs.map iG)
 | a=>iG a
def bX (e:DEnv):Opd→DV
 | .t n=>e.get n
 | .c a=>qC a
def ak:(t:Ty)→t.den→List DV
 | .pair a b,x=>ak a x.1++ak b x.2
 | .es _,_=>[.undef]
 | t,x=>[.v ⟨t,x⟩]
def oa (S:Option DSt)(t:Ty)(d:DV):Option t.den:=match d with
 | .v ⟨t',x⟩=>if h:t'=t then some (h▸x)else none
 | .emp=>match t with
  | .sl _=>some []
  | _=>none
 | .slc b=>match S,t with
  | some S,.sl t=>match S.get b with
   | some (.row _ t' l)=>if h:t'=t then some (h▸l)else none
   | _=>none
  | _,_=>none
 | .slo b k o n=>match S,t with
  | some S,.sl t=>match S.get b with
   | some (.row _ t' l)=>if h:t'=t then(bif Nat.beq k t.w then some (((h▸l:List t.den).drop o).take n)else none)else none
   | _=>none
  | _,_=>none
 | .irow b i=>match S,t with
  | some S,.sl t=>match S.get b with
   | some (.rows _ _ t' l)=>if h:t'=t then some (h▸l.getD i [])else none
   | _=>none
  | _,_=>none
 | _=>none
def dec (S:Option DSt):(t:Ty)→List DV→Option (t.den×List DV)
 | .pair a b,ds=>match dec S a ds with
  | some (x,ds)=>match dec S b ds with
   | some (y,ds)=>some ((x,y),ds)
   | none=>none
  | none=>none
 | .es _,_=>none
 | .opt t,d::ds=>match d with
  | .elm es=>match dec none t es with
   | some (x,[])=>some (some x,ds)
   | _=>none
  | .nilp=>some (none,ds)
  | d=>match oa S (.opt t) d with
   | some x=>some (x,ds)
   | none=>none
 | t,d::ds=>match oa S t d with
  | some x=>some (x,ds)
  | none=>none
 | _,[]=>none
def cf (S:Option DSt)(t:Ty)(ds:List DV):Option t.den:=match dec S t ds with
 | some (x,[])=>some x
 | _=>none
def au (k:IntKind)(n:Int):Bool:=decide (k.wrap n=n)
def bv (i:Int)(n:Nat):Bool:=decide (0≤i)&&decide (i < n)
def bI (by_ n:Nat):Bool:=decide (by_*n≤140737488355328)
def at0 (t:Ty)(l:List t.den)(i:Nat):t.den:=l.getD i t.zero
def kM (k k':IntKind):Bool:=decide (k=k')
def jL (ex:Bool)(k:IntKind)(n:Int):DV×List Bool:=match ex with
 | true=>(cC k n,[au k n])
 | false=>(cC k (k.wrap n),[])
def zB (ex:Bool)(op:BinOp)(k k':IntKind)(a b:Int):Option (DV×List Bool):=match op with
 | .shl=>some (cC k (k.wrap (a*2^(min b.toNat k.bits))),[decide (0≤b)])
 | .shr=>some (cC k (a.fdiv (2^(min b.toNat k.bits))),[decide (0≤b)])
 | op=>bif kM k k' then(match op with
  | .add=>some (jL ex k (a+b))
  | .sub=>some (jL ex k (a-b))
  | .mul=>some (jL ex k (a*b))
  | .quo=>some (cC k (a.tdiv b),[decide (b≠0),au k (a.tdiv b)])
  | .rem=>some (cC k (a.tmod b),[decide (b≠0)])
  | .and=>some (cC k (cD k a b),[])
  | .or=>some (cC k (Kf k a b),[])
  | .xor=>some (cC k (CM k a b),[])
  | .eql=>some (ca (decide (a=b)),[])
  | .neq=>some (ca (!decide (a=b)),[])
  | .lss=>some (ca (decide (a < b)),[])
  | .leq=>some (ca (decide (a≤b)),[])
  | .gtr=>some (ca (decide (b < a)),[])
  | .geq=>some (ca (decide (b≤a)),[])
  | _=>none)else none
def zC (op:BinOp)(a b:ByteArray):Option (DV×List Bool):=match op with
 | .add=>some (ES (a++b),[decide (a.size+b.size≤9223372036854775807)])
 | .eql=>some (ca (a.toList==b.toList),[])
 | .neq=>some (ca (!(a.toList==b.toList)),[])
 | .lss=>some (ca (Op.bytesLess a.toList b.toList),[])
 | _=>none
def DK (ex:Bool)(op:BinOp)(a b:DV):Option (DV×List Bool):=match dM a,dM b with
 | some (k,x),some (k',y)=>zB ex op k k' x y
 | _,_=>match qB a,qB b with
  | some x,some y=>zC op x y
  | _,_=>none
def ET:List DV→List DV→Bool→Option Bool
 | [],[],acc=>some acc
 | a::l,b::l',acc=>match dM a,dM b with
  | some (.i64,x),some (.i64,y)=>ET l l' (acc&&decide (x=y))
  | _,_=>none
 | _,_,_=>none
def oc (fr:Bool)(RD:List Nat)(b:Nat):Bool:=match fr with
 | false=>true
 | true=>RD.any (Nat.beq b)
def dI (a b:Nat):Bool:=Nat.ble a b
def ef {α:Type}(es:List (List Int×α))(k:List Int):Option α:=(es.find? fun x=>decide (x.1=k)).map (·.2)
def oe {α:Type}:List (List Int×α)→List Int→α→List (List Int×α)
 | [],k,v=>[(k,v)]
 | (k',u)::l,k,v=>if k'=k then(k,v)::l else(k',u)::oe l k v
def aZ {α:Type}(es:List (Int×α))(k:Int):Option α:=(es.find? fun x=>decide (x.1=k)).map (·.2)
def jf {α:Type}:List (Int×α)→Int→α→List (Int×α)
 | [],k,v=>[(k,v)]
 | (k',u)::l,k,v=>if k'=k then(k,v)::l else(k',u)::jf l k v
def lb (S:DSt)(RD:List Nat)(fr:Bool):DV→Option (List DV)
 | .elm cs=>some cs
 | .ptr b o=>match S.get b with
  | some (.box cs)=>bif oc fr RD b&&dI o cs.length then some (cs.drop o)else none
  | _=>none
 | .rptr b k i j=>match S.get b with
  | some (.row _ t l)=>bif oc fr RD b&&Nat.beq t.w k&&dI j k then some ((ak t (at0 t l i)).drop j)else none
  | _=>none
 | .orow b i=>match S.get b with
  | some (.rows ..)=>bif !fr then some [.irow b i]else none
  | _=>none
 | .hrow b i=>match S.get b with
  | some (.hdl p)=>match S.get p with
   | some (.rows ..)=>bif !fr then some [.irow p i]else none
   | _=>none
  | _=>none
 | .iptr b k i j o=>match S.get b with
  | some (.rows _ _ t l)=>bif !fr&&Nat.beq t.w k&&dI o k then some ((ak t (at0 t (l.getD i []) j)).drop o)else none
  | _=>none
 | .pel b key o=>match S.get b with
  | some (.pool t es)=>bif !fr&&dI o t.w then some ((ak t ((aZ es key).getD t.zero)).drop o)else none
  | _=>none
 | _=>none
def vg (cs:List DV)(o:Nat)(vs:List DV):List DV:=cs.take o++(vs++cs.drop (o+vs.length))
def og (ρ:Opd→DV):List DV→List (Nat×Nat×Opd)→Option (List DV×List Bool)
 | z,[]=>some (z,[])
 | z,(o,n,x)::l=>let cs:=aY (ρ x).val
  bif Nat.beq cs.length n&&cs.all DV.one then(match og ρ (vg z o cs) l with
   | some (z',ob)=>some (z',(ρ x).df++ob)
   | none=>none)else none
def uk (ρ:Opd→DV)(d:Int):Option Opd→Option (Int×List Bool)
 | none=>some (d,[])
 | some x=>match dM (ρ x).val with
  | some (_,n)=>some (n,(ρ x).df)
  | none=>none
def rD:List DV→Option (List Int)
 | []=>some []
 | d::l=>match dM d with
  | some (.i64,n)=>match rD l with
   | some r=>some (n::r)
   | none=>none
  | _=>none
def pe (kn:Nat)(d:DV):Option (List Int):=match kn with
 | 0=>match dM d with
  | some (.i64,n)=>some [n]
  | _=>none
 | m+1=>match d with
  | .agg cs=>match rD cs with
   | some l=>bif Nat.beq l.length (m+1)then some l else none
   | none=>none
  | _=>none
def zD (ag:Bool)(t:Ty)(x:t.den):DV:=match ag with
 | true=>.agg (ak t x)
 | false=>.v ⟨t,x⟩
def FI (ag:Bool)(t:Ty)(d:DV):Option t.den:=match ag,d with
 | true,.agg cs=>cf none t cs
 | false,d=>oa none t d
 | _,_=>none
def qD:(t:Ty)→AV→Bool
 | .int k,.int k' n=>kM k k'&&decide (n=0)
 | .bool,.bool b=>!b
 | .str,.str s=>decide (s=ByteArray.empty)
 | .sl _,.emp=>true
 | .opt _,.nilp=>true
 | _,_=>false
def kN:(t:Ty)→List AV→Option (List AV)
 | .pair a b,zs=>match kN a zs with
  | some zs=>kN b zs
  | none=>none
 | .es _,_=>none
 | t,z::zs=>bif qD t z then some zs else none
 | _,[]=>none
def EU (ag:Bool)(t:Ty)(z:AV):Bool:=match ag,z with
 | true,.agg zs=>match kN t zs with
  | some []=>true
  | _=>false
 | false,z=>qD t z
 | _,_=>false
def gx (t:Ty)(z:List AV):Bool:=match kN t z with
 | some []=>true
 | _=>false
def gy (ρ:Opd→DV):List Opd→List Bool
 | []=>[]
 | x::l=>(ρ x).df++gy ρ l
def lT (ρ:Opd→DV)(xs:List Opd):List DV:=xs.map fun x=>(ρ x).val
def vh (t:Ty):List DV→Option (List t.den)
 | []=>some []
 | d::l=>bif (aY d).all DV.one then(match cf none t (aY d),vh t l with
  | some x,some r=>some (x::r)
  | _,_=>none)else none
def xg (mx:Bool)(k:IntKind):Int→List DV→Option Int
 | a,[]=>some a
 | a,d::l=>match dM d with
  | some (k',b)=>bif kM k k' then xg mx k (match mx with | true=>max a b | false=>min a b) l else none
  | none=>none
def hlen (S:DSt)(b:Nat):Option Nat:=match S.get b with
 | some (.hdl p)=>match S.get p with
  | some (.rows _ _ _ l)=>some l.length
  | some (.rowh _ _ _ l _)=>some l.length
  | _=>none
 | _=>none
def Kn (RD : List Nat) (S : DSt) (ρ : Opd → DV) (o : AOp) (ann : Option (Bool × Ty)) : Option (DV × List Bool) :=
 match o with
 | .mov (.c .undef) => some (.undef, [])
 | .mov x => some ((ρ x).val, (ρ x).df)
 | .bin ex op x y => match DK ex op (ρ x).val (ρ y).val with
  | some (d, ob) => some (d, (ρ x).df ++ ((ρ y).df ++ ob))
  | none => none
 | .eqs ne n x y => match (ρ x).val, (ρ y).val with
  | .agg cs, .agg ds => bif Nat.beq cs.length n then (match ET cs ds true with
   | some b => some (ca (match ne with | true => !b | false => b), (ρ x).df ++ (ρ y).df)
   | none => none) else none
  | _, _ => none
 | .unot x => match mC (ρ x).val with
  | some b => some (ca (!b), (ρ x).df)
  | none => none
 | .uneg x => match dM (ρ x).val with
  | some (k, n) => some (cC k (0 - n), (ρ x).df ++ [au k (0 - n)])
  | none => none
 | .pick c a b => match mC (ρ c).val with
  | some g => match mC (ρ a).val, mC (ρ b).val with
   | some x, some y => some (ca (cond g x y), (ρ c).df ++ ((ρ a).df.map (!g || ·) ++ (ρ b).df.map (g || ·)))
   | _, _ => match dM (ρ a).val, dM (ρ b).val with
    | some (k, x), some (k', y) => bif kM k k' then some (cC k (cond g x y), (ρ c).df ++ ((ρ a).df.map (!g || ·) ++ (ρ b).df.map (g || ·))) else none
    | _, _ => none
  | none => none
 | .nilc x => match (ρ x).val with
  | .ptr b o => some (.ptr b o, (ρ x).df)
  | .rptr b k i j => some (.rptr b k i j, (ρ x).df)
  | .orow b i => some (.orow b i, (ρ x).df)
  | .hrow b i => some (.hrow b i, (ρ x).df)
  | .iptr b k i j o => some (.iptr b k i j o, (ρ x).df)
  | .pel b key o => some (.pel b key o, (ρ x).df)
  | .elm cs => some (.elm cs, (ρ x).df)
  | .v ⟨.opt t, y⟩ => some (.elm (ak t (y.getD t.zero)), (ρ x).df ++ [y.isSome])
  | _ => none
 | .fld x off => match (ρ x).val with
  | .ptr b o => some (.ptr b (o + off), (ρ x).df)
  | .rptr b k i j => some (.rptr b k i (j + off), (ρ x).df)
  | .iptr b k i j o => some (.iptr b k i j (o + off), (ρ x).df)
  | .pel b key o => some (.pel b key (o + off), (ρ x).df)
  | .elm cs => some (.elm (cs.drop off), (ρ x).df)
  | _ => none
 | .ld1 x fr => match lb S RD fr (ρ x).val with
  | some (d :: _) => some (d, (ρ x).df)
  | _ => none
 | .ldn x n fr => match lb S RD fr (ρ x).val with
  | some cs => bif dI n cs.length then some (.agg (cs.take n), (ρ x).df) else none
  | none => none
 | .fldv x off n ag => match (ρ x).val with
  | .agg cs => bif dI (off + n) cs.length && dI 1 n then (match ag with
   | true => some (.agg ((cs.drop off).take n), (ρ x).df)
   | false => match cs.drop off with
    | d :: _ => some (d, (ρ x).df)
    | [] => none) else none
  | _ => none
 | .idx x i n => match dM (ρ i).val with
  | some (_, z) => match (ρ x).val with
   | .v ⟨.sl t, l⟩ => bif Nat.beq t.w n then some (.elm (ak t (at0 t l z.toNat)), (ρ x).df ++ ((ρ i).df ++ [bv z l.length])) else none
   | .slc b => match S.get b with
    | some (.row _ t l) => bif Nat.beq t.w n then some (.rptr b n z.toNat 0, (ρ x).df ++ ((ρ i).df ++ [bv z l.length])) else none
    | _ => none
   | .slo b k o m => bif Nat.beq k n then some (.rptr b n (o + z.toNat) 0, (ρ x).df ++ ((ρ i).df ++ [bv z m])) else none
   | .slr b => match S.get b with
    | some (.rows _ _ t l) => bif Nat.beq 1 n then some (.orow b z.toNat, (ρ x).df ++ ((ρ i).df ++ [bv z l.length])) else none
    | _ => none
   | .slh b => match hlen S b with
    | some m => bif Nat.beq 1 n then some (.hrow b z.toNat, (ρ x).df ++ ((ρ i).df ++ [bv z m])) else none
    | none => none
   | .irow b j => match S.get b with
    | some (.rows _ _ t l) => bif Nat.beq t.w n then some (.iptr b n j z.toNat 0, (ρ x).df ++ ((ρ i).df ++ [bv z (l.getD j []).length])) else none
    | _ => none
   | _ => none
  | none => none
 | .idxs x i => match qB (ρ x).val, dM (ρ i).val with
  | some t, some (_, z) => some (cC .u8 (t.toList.getD z.toNat 0).toNat, (ρ x).df ++ ((ρ i).df ++ [bv z t.size]))
  | _, _ => none
 | .len x => match (ρ x).val with
  | .v ⟨.sl t, l⟩ => some (cC .i64 l.length, (ρ x).df)
  | .slc b => match S.get b with
   | some (.row _ _ l) => some (cC .i64 l.length, (ρ x).df)
   | _ => none
  | .slo _ _ _ m => some (cC .i64 m, (ρ x).df)
  | .emp => some (cC .i64 0, (ρ x).df)
  | .slr b => match S.get b with
   | some (.rows _ _ _ l) => some (cC .i64 l.length, (ρ x).df)
   | _ => none
  | .slh b => match hlen S b with
   | some m => some (cC .i64 m, (ρ x).df)
   | none => none
  | .irow b i => match S.get b with
   | some (.rows _ _ _ l) => some (cC .i64 (l.getD i []).length, (ρ x).df)
   | _ => none
  | _ => none
 | .lens x => match qB (ρ x).val with
  | some t => some (cC .i64 t.size, (ρ x).df)
  | none => none
 | .mnx mx x y => match dM (ρ x).val, dM (ρ y).val with
  | some (k, a), some (k', b) => bif kM k k' then some (cC k (match mx with | true => max a b | false => min a b), (ρ x).df ++ (ρ y).df) else none
  | _, _ => none
 | .ext x i => match (ρ x).val with
  | .tup vs => match vs.drop i with
   | d :: _ => some (d, (ρ x).df)
   | [] => none
  | _ => none
 | .bld z ps => match og ρ (z.map iG) ps with
  | some (cs, ob) => some (.agg cs, ob)
  | none => none
 | .mkf f caps => bif Nat.beq f YB then none else some (.fn f (lT ρ caps), gy ρ caps)
 | .cvt k x => match dM (ρ x).val with
  | some (_, n) => some (cC k n, (ρ x).df ++ [au k n])
  | none => none
 | .sl x lo hi m => match (ρ x).val with
  | .v ⟨.sl t, l⟩ => bif Nat.beq t.w m then (match uk ρ 0 lo, uk ρ l.length hi with
   | some (a, p), some (b, q) => some (kL t ((l.drop a.toNat).take (b - a).toNat), (ρ x).df ++ (p ++ (q ++ [decide (0 ≤ a), decide (a ≤ b), decide (b ≤ l.length)])))
   | _, _ => none) else none
  | .emp => match ann with
   | some (_, t) => bif Nat.beq t.w m then (match uk ρ 0 lo, uk ρ 0 hi with
    | some (a, p), some (b, q) => some (kL t [], (ρ x).df ++ (p ++ (q ++ [decide (0 ≤ a), decide (a ≤ b), decide (b ≤ 0)])))
    | _, _ => none) else none
   | none => none
  | _ => none
 | .sls x lo hi => match qB (ρ x).val with
  | some t => match uk ρ 0 lo, uk ρ t.size hi with
   | some (a, p), some (b, q) => some (ES (t.extract a.toNat b.toNat), (ρ x).df ++ (p ++ (q ++ [decide (0 ≤ a), decide (a ≤ b), decide (b ≤ t.size)])))
   | _, _ => none
  | none => none
 | .lkp kn ok z m key fr => match (ρ m).val with
  | .mp b => match S.get b with
   | some (.imap kn' ag t es none) => match pe kn (ρ key).val with
    | some k => bif Nat.beq kn' kn && EU ag t z && oc fr RD b then some (match ok with
      | true => .tup [zD ag t ((ef es k).getD t.zero), ca (ef es k).isSome]
      | false => zD ag t ((ef es k).getD t.zero), (ρ m).df ++ (ρ key).df) else none
    | none => none
   | _ => none
  | _ => none
 | .bsl k xs => match xs with
  | [] => some (.emp, [])
  | x :: l => match ann with
   | some (_, t) => match vh t (lT ρ (x :: l)) with
    | some r => bif Nat.beq t.w k then some (kL t r, gy ρ (x :: l)) else none
    | none => none
   | none => none
 | .lenm m fr => match (ρ m).val with
  | .mp b => match S.get b with
   | some (.imap _ _ t es none) => bif oc fr RD b then some (cC .i64 es.length, (ρ m).df) else none
   | _ => none
  | _ => none
 | .bad => some (.undef, [false])
 | .szk by_ x => match dM (ρ x).val with
  | some (_, m) => some (.undef, (ρ x).df ++ [decide (0 ≤ m), decide (by_ * m ≤ 140737488355328)])
  | none => none
 | .bq ne x y => match mC (ρ x).val, mC (ρ y).val with
  | some a, some b => some (ca (match ne with | true => a != b | false => a == b), (ρ x).df ++ (ρ y).df)
  | _, _ => none
 | .mnl mx xs => match lT ρ xs with
  | d :: l => match dM d with
   | some (k, a) => match xg mx k a l with
    | some n => some (cC k n, gy ρ xs)
    | none => none
   | none => none
  | [] => none
 | .pnn ne x => match (ρ x).val with
  | .nilp => some (ca (match ne with | true => false | false => true), (ρ x).df)
  | .ptr .. => some (ca ne, (ρ x).df)
  | .rptr .. => some (ca ne, (ρ x).df)
  | .pel .. => some (ca ne, (ρ x).df)
  | .elm _ => some (ca ne, (ρ x).df)
  | .v ⟨.opt _, y⟩ => some (ca (match ne with | true => y.isSome | false => !y.isSome), (ρ x).df)
  | _ => none
 | .idxa x i k n => match dM (ρ i).val, (ρ x).val with
  | some (_, z), .rptr b k' 0 0 => match S.get b with
   | some (.row _ t l) => bif Nat.beq k' k then some (.rptr b k z.toNat 0, (ρ x).df ++ ((ρ i).df ++ [bv z l.length, bv z n])) else none
   | _ => none
  | _, _ => none
 | .sla x k n => match (ρ x).val with
  | .rptr b k' 0 0 => match S.get b with
   | some (.row _ t l) => bif Nat.beq k' k then some (.slo b k 0 n, (ρ x).df ++ [dI n l.length]) else none
   | _ => none
  | _ => none
 | .cap x => match (ρ x).val with
  | .emp => some (cC .i64 0, (ρ x).df)
  | _ => none
 | .sle x hi => match (ρ x).val, dM (ρ hi).val with
  | .emp, some (_, z) => some (.emp, (ρ x).df ++ ((ρ hi).df ++ [decide (z = 0)]))
  | _, _ => none
 | .slo x lo hi k => match (ρ x).val with
  | .slc b => match S.get b with
   | some (.row _ t l) => match uk ρ 0 lo, uk ρ l.length hi with
    | some (a, p), some (c, q) => some (.slo b k a.toNat (c - a).toNat, (ρ x).df ++ (p ++ (q ++ [decide (0 ≤ a), decide (a ≤ c), decide (c ≤ l.length), decide (0 < l.length)])))
    | _, _ => none
   | _ => none
  | .slo b k' o m => bif Nat.beq k' k then (match uk ρ 0 lo, uk ρ m hi with
   | some (a, p), some (c, q) => some (.slo b k (o + a.toNat) (c - a).toNat, (ρ x).df ++ (p ++ (q ++ [decide (0 ≤ a), decide (a ≤ c), decide (c ≤ m)])))
   | _, _ => none) else none
  | _ => none
 | _ => none
def lU (S:DSt)(t:Ty)(d:DV):Option (List t.den):=oa (some S) (.sl t) d
def aC (RD:List Nat)(b:Nat):Bool:=!(RD.any (Nat.beq b))
def dF (n:Nat){α:Type}(x:α):List α:=List.replicate n x
def kO {α:Type}(l:List α)(o:Nat)(ys:List α):List α:=l.take o++(ys++l.drop (o+ys.length))
def oh {α:Type}(l:List α)(o n:Nat)(z:α):List α:=l.take o++(List.replicate n z++l.drop (o+n))
def Ko:Ty→Nat
 | .opt t=>Ko t+1
 | _=>0
def M8 (i j:Nat):Bool:=decide (i=j)
def vi (p:Nat):List (Nat×DObj)→Option Nat
 | []=>none
 | (b,.hdl q)::l=>bif Nat.beq q p then some b else vi p l
 | _::l=>vi p l
def DL (RD:List Nat)(S:DSt)(b i:Nat)(v:DV):Option (DSt×List Bool):=match S.get b,v with
 | some (.hdl p),.slc c=>match S.get p,S.get c with
  | some (.rowh T T' t l j),some (.row T1 t1 l1)=>if h:t1=t then(bif Nat.beq T1 T'&&(aC RD p&&aC RD c)then
    some ((((S.del p).del c).new (.rows T T' t (l.set i (h▸l1)))).set b (.hdl S.nx),[M8 i j])else none)else none
  | _,_=>none
 | _,_=>none
def Jr (S:DSt)(b p T T':Nat)(t:Ty)(l:List (List t.den))(i:Nat):DSt:=(((S.del p).new (.rowh T T' t (l.set i []) i)).new (.row T' t (l.getD i []))).set b (.hdl S.nx)
def vj (RD:List Nat)(S:DSt)(p i:Nat):Option DSt:=match S.get p,vi p S.m with
 | some (.rows T0 T' t l),some b=>match S.get b with
  | some (.hdl q)=>bif Nat.beq q p&&aC RD p then some (Jr S b p T0 T' t l i)else none
  | _=>none
 | _,_=>none
def jg (t:Ty):Nat→List DV→Option (List t.den)
 | 0,[]=>some []
 | 0,_::_=>none
 | n+1,cs=>match dec none t cs with
  | some (x,r)=>match jg t n r with
   | some l=>some (x::l)
   | none=>none
  | none=>none
def Kp (RD:List Nat)(S:DSt)(ρ:Opd→DV)(o:AOp)(ann:Option (Bool×Ty)):Option (DV×DSt×List Bool):=
 match o with
 | .alc z=>some (.ptr S.nx 0,S.new (.box (z.map iG)),[])
 | .box x=>bif (aY (ρ x).val).all DV.one then some (.ptr S.nx 0,S.new (.box (aY (ρ x).val)),(ρ x).df)else none
 | .sto p v n=>bif Nat.beq (aY (ρ v).val).length n&&(aY (ρ v).val).all DV.one then(match(ρ p).val with
  | .hrow b i=>bif Nat.beq n 1 then(match DL RD S b i (ρ v).val with
   | some (S',ob)=>some (.undef,S',(ρ p).df++((ρ v).df++ob))
   | none=>none)else none
  | .ptr b o=>match S.get b with
   | some (.box cs)=>bif aC RD b&&dI (o+n) cs.length then some (.undef,S.set b (.box (vg cs o (aY (ρ v).val))),(ρ p).df++(ρ v).df)else none
   | _=>none
  | .rptr b k i j=>match S.get b with
   | some (.row T t l)=>bif aC RD b&&Nat.beq t.w k&&dI (j+n) k then(match cf none t (vg (ak t (at0 t l i)) j (aY (ρ v).val))with
    | some x=>some (.undef,S.set b (.row T t (l.set i x)),(ρ p).df++(ρ v).df)
    | none=>none)else none
   | _=>none
  | .iptr b k i j o=>match S.get b with
   | some (.rows T T' t l)=>bif aC RD b&&Nat.beq t.w k&&dI (o+n) k then(match cf none t (vg (ak t (at0 t (l.getD i []) j)) o (aY (ρ v).val))with
    | some x=>some (.undef,S.set b (.rows T T' t (l.set i ((l.getD i []).set j x))),(ρ p).df++(ρ v).df)
    | none=>none)else none
   | _=>none
  | .pel b key o=>match S.get b with
   | some (.pool t es)=>bif aC RD b&&dI (o+n) t.w then(match cf none t (vg (ak t ((aZ es key).getD t.zero)) o (aY (ρ v).val))with
    | some x=>some (.undef,S.set b (.pool t (jf es key x)),(ρ p).df++(ρ v).df)
    | none=>none)else none
   | _=>none
  | _=>none)else none
 | .mkm kn _=>match ann with
  | some (true,.opt t)=>bif Nat.beq kn 0 then some (.mp (S.nx+1),(S.new (.pool t [])).new (.pmap S.nx),[])else none
  | some (ag,t)=>some (.mp S.nx,S.new (.imap kn ag t [] none),[])
  | none=>none
 | .mks T k by_ z n=>match ann,dM (ρ n).val with
  | some (true,.pair (.sl t) u),some (_,m)=>bif Nat.beq 1 k&&gx (.sl t) z then some (.slh (S.nx+1),(S.new (.rows T (Ko u) t (dF m.toNat []))).new (.hdl S.nx),(ρ n).df++[decide (0≤m),decide (by_*m≤140737488355328)])else none
  | some (_,t),some (_,m)=>bif Nat.beq t.w k&&gx t z then some (.slc S.nx,S.new (.row T t (dF m.toNat t.zero)),(ρ n).df++[decide (0≤m),decide (by_*m≤140737488355328)])else none
  | _,_=>none
 | .bsr T k xs=>match ann with
  | some (true,.sl t)=>match xs with
   | [x]=>match(ρ x).val with
    | .slc r=>match S.get r with
     | some (.row T' t' l)=>bif Nat.beq 1 k&&aC RD r then some (.slr S.nx,(S.del r).new (.rows T T' t' [l]),gy ρ xs)else none
     | _=>none
    | _=>none
   | _=>none
  | some (_,t)=>match vh t (lT ρ xs)with
   | some l=>bif Nat.beq t.w k then some (.slc S.nx,S.new (.row T t l),gy ρ xs)else none
   | none=>none
  | none=>none
 | .app T k by_ x y=>match ann with
  | some (true,.sl t)=>match(ρ y).val with
   | .slr b2=>match S.get b2 with
    | some (.rows T2 T' t' l2)=>match(ρ x).val with
     | .emp=>bif Nat.beq 1 k&&aC RD b2 then some (.slr S.nx,(S.del b2).new (.rows T T' t' l2),(ρ x).df++((ρ y).df++[bI by_ l2.length]))else none
     | .slr b=>match S.get b with
      | some (.rows T1 T1' t1 l)=>if h:t'=t1 then(bif Nat.beq 1 k&&(Nat.beq T1 T&&(Nat.beq T1' T'&&(aC RD b2&&(aC RD b&&!Nat.beq b b2))))then some (.slr S.nx,((S.del b2).del b).new (.rows T T' t1 (l++(h▸l2))),(ρ x).df++((ρ y).df++[bI by_ (l.length+l2.length)]))else none)else none
      | _=>none
     | _=>none
    | _=>none
   | _=>none
  | some (_,t)=>bif Nat.beq t.w k then(match lU S t (ρ y).val with
   | some ys=>match(ρ x).val with
    | .irow p i=>match vj RD S p i with
     | some S'=>match S'.get (S.nx+1)with
      | some (.row T' t' l)=>if h:t'=t then(bif Nat.beq T' T&&aC RD (S.nx+1)then some (.slc S'.nx,(S'.del (S.nx+1)).new (.row T t ((h▸l)++ys)),(ρ x).df++((ρ y).df++[bI by_ (l.length+ys.length)]))else none)else none
      | _=>none
     | none=>none
    | .emp=>some (.slc S.nx,S.new (.row T t ys),(ρ x).df++((ρ y).df++[bI by_ ys.length]))
    | .slc b=>match S.get b with
     | some (.row T' t' l)=>if h:t'=t then(bif Nat.beq T' T&&aC RD b then some (.slc S.nx,(S.del b).new (.row T t ((h▸l)++ys)),(ρ x).df++((ρ y).df++[bI by_ (l.length+ys.length)]))else none)else none
     | _=>none
    | _=>none
   | none=>none)else none
  | none=>none
 | .mup kn m key v=>match(ρ m).val with
  | .mp b=>match S.get b with
   | some (.imap kn' ag t es none)=>match pe kn (ρ key).val,FI ag t (ρ v).val with
    | some k,some x=>bif Nat.beq kn' kn&&aC RD b then some (.undef,S.set b (.imap kn' ag t (oe es k x) none),(ρ m).df++((ρ key).df++(ρ v).df))else none
    | _,_=>none
   | _=>none
  | _=>none
 | .men kn z m key=>match(ρ m).val with
  | .mp b=>match S.get b with
   | some (.imap kn' ag t es none)=>match pe kn (ρ key).val with
    | some k=>bif Nat.beq kn' kn&&aC RD b&&EU ag t z then some (.tup [zD ag t ((ef es k).getD t.zero),.stk S.nx],(S.set b (.imap kn' ag t es (some (S.nx,k,(ef es k).getD t.zero)))).tick,(ρ m).df++(ρ key).df)else none
    | none=>none
   | _=>none
  | _=>none
 | .ens m st v=>match(ρ m).val,(ρ st).val with
  | .mp b,.stk n=>match S.get b with
   | some (.imap kn ag t es (some (n',k,_)))=>match FI ag t (ρ v).val with
    | some x=>bif Nat.beq n n'&&aC RD b then some (.undef,S.set b (.imap kn ag t (oe es k x) none),(ρ m).df++((ρ st).df++(ρ v).df))else none
    | none=>none
   | _=>none
  | _,_=>none
 | .stl p v n=>bif Nat.beq (aY (ρ v).val).length n&&(aY (ρ v).val).all DV.one then(match(ρ p).val with
  | .ptr b o=>match S.get b with
   | some (.box cs)=>bif dI (o+n) cs.length then some (.undef,S.set b (.box (vg cs o (aY (ρ v).val))),(ρ p).df++(ρ v).df)else none
   | _=>none
  | .rptr b k i j=>match S.get b with
   | some (.row T t l)=>bif Nat.beq t.w k&&dI (j+n) k then(match cf none t (vg (ak t (at0 t l i)) j (aY (ρ v).val))with
    | some x=>some (.undef,S.set b (.row T t (l.set i x)),(ρ p).df++(ρ v).df)
    | none=>none)else none
   | _=>none
  | .iptr b k i j o=>match S.get b with
   | some (.rows T T' t l)=>bif Nat.beq t.w k&&dI (o+n) k then(match cf none t (vg (ak t (at0 t (l.getD i []) j)) o (aY (ρ v).val))with
    | some x=>some (.undef,S.set b (.rows T T' t (l.set i ((l.getD i []).set j x))),(ρ p).df++(ρ v).df)
    | none=>none)else none
   | _=>none
  | .pel b key o=>match S.get b with
   | some (.pool t es)=>bif dI (o+n) t.w then(match cf none t (vg (ak t ((aZ es key).getD t.zero)) o (aY (ρ v).val))with
    | some x=>some (.undef,S.set b (.pool t (jf es key x)),(ρ p).df++(ρ v).df)
    | none=>none)else none
   | _=>none
  | _=>none)else none
 | .alcr T k n z=>match ann with
  | some (_,t)=>bif Nat.beq t.w k&&gx t z&&dI 1 n then some (.rptr S.nx k 0 0,S.new (.row T t (dF n t.zero)),[])else none
  | none=>none
 | .stoa p v k n=>match(ρ p).val,(ρ v).val with
  | .rptr b k' 0 0,.agg cs=>match S.get b with
   | some (.row T t l)=>bif Nat.beq k' k&&Nat.beq t.w k&&aC RD b&&cs.all DV.one then(match jg t n cs with
    | some l'=>some (.undef,S.set b (.row T t l'),(ρ p).df++((ρ v).df++[Nat.beq l.length n]))
    | none=>none)else none
   | _=>none
  | _,_=>none
 | .trn x hi=>match(ρ x).val,dM (ρ hi).val with
  | .slc b,some (_,z)=>match S.get b with
   | some (.row T t l)=>bif aC RD b then some (.slc S.nx,(S.del b).new (.row T t (l.take z.toNat)),(ρ x).df++((ρ hi).df++[decide (0≤z),decide (z≤l.length),decide (0 < l.length)]))else none
   | _=>none
  | _,_=>none
 | .apz T k by_ z x n=>match ann with
  | some (_,t)=>match(ρ x).val,dM (ρ n).val with
   | .emp,some (_,m)=>bif Nat.beq t.w k&&gx t z then some (.slc S.nx,S.new (.row T t (dF m.toNat t.zero)),(ρ x).df++((ρ n).df++[decide (0 < m),decide (by_*m≤140737488355328)]))else none
   | _,_=>none
  | none=>none
 | .cpy x y k=>match(ρ x).val with
  | .slo b k' o m=>match S.get b with
   | some (.row T t l)=>bif Nat.beq k' k&&(Nat.beq t.w k&&aC RD b)then(match lU S t (ρ y).val with
    | some ys=>some (cC .i64 (min ys.length m:Nat),S.set b (.row T t (kO l o (ys.take (min ys.length m)))),(ρ x).df++(ρ y).df)
    | none=>none)else none
   | _=>none
  | .slc b=>match S.get b with
   | some (.row T t l)=>bif Nat.beq t.w k&&aC RD b then(match lU S t (ρ y).val with
    | some ys=>some (cC .i64 (min ys.length l.length:Nat),S.set b (.row T t (kO l 0 (ys.take (min ys.length l.length)))),(ρ x).df++(ρ y).df)
    | none=>none)else none
   | _=>none
  | _=>none
 | .clr x k z=>match(ρ x).val with
  | .slo b k' o m=>match S.get b with
   | some (.row T t l)=>bif Nat.beq k' k&&Nat.beq t.w k&&aC RD b&&gx t z then some (.undef,S.set b (.row T t (oh l o m t.zero)),(ρ x).df)else none
   | _=>none
  | _=>none
 | _=>none
end Go.Proofs.YtdkaijofmigmbaaGreat.D

set_option linter.unusedVariables false
set_option linter.unusedSimpArgs false
namespace Go.Proofs.YtdkaijofmigmbaaGreat.D
open Go Go.Proofs.YtdkaijofmigmbaaGreat.L
inductive RSh where
 | v (t:Ty)
 | st (t:Ty)
 | elm (t:Ty)
 | ptr (k o:Nat)
 | slc (k:Nat)
 | slo (k w:Nat)
 | aptr (k w:Nat)
 | mp (k:Nat)
 | slr (k:Nat)
 | irow (k:Nat)
 | pel (k:Nat)
 | mpl (k:Nat)
 | slh (k:Nat)
 | nilp
 | nilm
 | emp
 | any
 | agg (cs:List RSh)
 | tup (cs:List RSh)
 | fn (f:Nat) (cs:List RSh)
inductive OSh where
 | boxT (t:Ty)
 | box (cs:List RSh)
 | row (T:Nat) (t:Ty)
 | imap (kn:Nat) (ag:Bool) (t:Ty)
 | rows (T T':Nat) (t:Ty)
 | pool (t:Ty)
 | pmap (k:Nat)
 | gone (k:Nat)
 | raw
 | hdl (k:Nat)
structure StSh where
 vals:List RSh
 objs:List (Nat×OSh)
abbrev Nm:=List (Nat×Option Nat)
def eh (nm:Nm)(k b:Nat):Option Nm:=match fnd nm k with
 | none=>some ((k,some b)::nm)
 | some (some b')=>bif Nat.beq b' b then some nm else none
 | some none=>none
def rE (nm:Nm)(k:Nat):Option Nm:=match fnd nm k with
 | none=>some ((k,none)::nm)
 | some none=>some nm
 | some (some _)=>none
mutual
def bJ (B:Option DSt):RSh→DV→Nm→Option (List Leaf×Nm)
 | .v t,d,nm=>match cf B t [d]with
  | some x=>some ([⟨t,x⟩],nm)
  | none=>none
 | .st t,.agg ds,nm=>match cf B t ds with
  | some x=>some ([⟨t,x⟩],nm)
  | none=>none
 | .elm t,.elm ds,nm=>match cf none t ds with
  | some x=>some ([⟨t,x⟩],nm)
  | none=>none
 | .elm t,.ptr b 0,nm=>match B with
  | some S=>match S.get b with
   | some (.box cs)=>match cf B t cs with
    | some x=>some ([⟨t,x⟩],nm)
    | none=>none
   | _=>none
  | none=>none
 | .ptr k o,.ptr b o',nm=>bif Nat.beq o o' then(match eh nm k b with
  | some nm=>some ([],nm)
  | none=>none)else none
 | .slc k,.slc b,nm=>match eh nm k b with
  | some nm=>some ([],nm)
  | none=>none
 | .slc k,.emp,nm=>match rE nm k with
  | some nm=>some ([],nm)
  | none=>none
 | .slo k w,.slo b w' o n,nm=>bif Nat.beq w w' then(match eh nm k b with
  | some nm=>some ([⟨.int .i64,(o:Int)⟩,⟨.int .i64,(n:Int)⟩],nm)
  | none=>none)else none
 | .aptr k w,.rptr b w' 0 0,nm=>bif Nat.beq w w' then(match eh nm k b with
  | some nm=>some ([],nm)
  | none=>none)else none
 | .mp k,.mp b,nm=>match eh nm k b with
  | some nm=>some ([],nm)
  | none=>none
 | .slr k,.slr b,nm=>match eh nm k b with
  | some nm=>some ([],nm)
  | none=>none
 | .slr k,.emp,nm=>match rE nm k with
  | some nm=>some ([],nm)
  | none=>none
 | .irow k,.irow b i,nm=>match eh nm k b with
  | some nm=>some ([⟨.int .i64,(i:Int)⟩],nm)
  | none=>none
 | .pel k,.pel b key 0,nm=>match eh nm k b with
  | some nm=>some ([⟨.int .i64,key⟩],nm)
  | none=>none
 | .mpl k,.mpl b,nm=>match eh nm k b with
  | some nm=>some ([],nm)
  | none=>none
 | .slh k,.slh b,nm=>match eh nm k b with
  | some nm=>some ([],nm)
  | none=>none
 | .nilp,.nilp,nm=>some ([],nm)
 | .nilm,.nilm,nm=>some ([],nm)
 | .emp,.emp,nm=>some ([],nm)
 | .any,_,nm=>some ([],nm)
 | .agg rs,.agg ds,nm=>ia B rs ds nm
 | .tup rs,.tup ds,nm=>ia B rs ds nm
 | .fn f rs,.fn f' ds,nm=>bif Nat.beq f f' then(bif B.isSome&&Nat.beq f YB then none else ia B rs ds nm)else none
 | _,_,_=>none
def ia (B:Option DSt):List RSh→List DV→Nm→Option (List Leaf×Nm)
 | [],[],nm=>some ([],nm)
 | r::rs,d::ds,nm=>match bJ B r d nm with
  | some (l,nm)=>match ia B rs ds nm with
   | some (l',nm)=>some (l++l',nm)
   | none=>none
  | none=>none
 | _,_,_=>none
end
def Js (S:DSt)(o:OSh)(x:Option Nat)(nm:Nm):Option (List Leaf×Nm):=match o,x with
 | .row T t,none=>some ([⟨.sl t,[]⟩],nm)
 | .rows T T' t,none=>some ([⟨.sl (.sl t),[]⟩],nm)
 | o,some b=>match o,S.get b with
  | .boxT t,some (.box cs)=>match cf none t cs with
   | some x=>some ([⟨t,x⟩],nm)
   | none=>none
  | .box rs,some (.box cs)=>ia none rs cs nm
  | .row T t,some (.row T' t' l)=>bif Nat.beq T T'&&decide (t=t')then some ([⟨.sl t',l⟩],nm)else none
  | .imap kn ag t,some (.imap kn' ag' t' es none)=>bif Nat.beq kn kn'&&(decide (ag=ag')&&decide (t=t'))then some ([⟨.es t',es⟩],nm)else none
  | .rows T T' t,some (.rows T1 T1' t' l)=>bif Nat.beq T T1&&(Nat.beq T' T1'&&decide (t=t'))then some ([⟨.sl (.sl t'),l⟩],nm)else none
  | .pool t,some (.pool t' es)=>bif decide (t=t')then some ([⟨.sl (.pair (.int .i64) t'),es⟩],nm)else none
  | .pmap k,some (.pmap p)=>match eh nm k p with
   | some nm=>some ([],nm)
   | none=>none
  | .raw,some (.raw k)=>some ([⟨.int .i64,k⟩],nm)
  | .gone k,some (.gone p)=>match eh nm k p with
   | some nm=>some ([],nm)
   | none=>none
  | .hdl k,some (.hdl p)=>match eh nm k p with
   | some nm=>some ([],nm)
   | none=>none
  | _,_=>none
 | _,none=>none
def vk (S:DSt):List (Nat×OSh)→Nm→Option (List Leaf×Nm)
 | [],nm=>some ([],nm)
 | (k,o)::l,nm=>match fnd nm k with
  | some x=>match Js S o x nm with
   | some (lv,nm)=>match vk S l nm with
    | some (lv',nm)=>some (lv++lv',nm)
    | none=>none
   | none=>none
  | none=>none
def aK:Nm→List Nat
 | []=>[]
 | (_,some b)::l=>b::aK l
 | (_,none)::l=>aK l
def bO:List Nat→Bool
 | []=>true
 | b::l=>!(l.any (Nat.beq b))&&bO l
def gz (l:List (Nat×OSh)):Nm→Bool
 | []=>true
 | (k,_)::nm=>(l.any fun x=>Nat.beq x.1 k)&&gz l nm
def iH (q:Nat):List (Nat×OSh)→Bool
 | []=>true
 | (k,_)::l=>Nat.blt k q&&iH q l
def iI (B:Option DSt)(S:DSt)(sh:StSh)(q:Nat)(ds:List DV)(nm:Nm):Option (List Leaf×Nm):=match ia B sh.vals ds nm with
 | some (l,nm)=>match vk S sh.objs nm with
  | some (l',nm)=>bif bO (aK nm)&&(bO (nm.map (·.1))&&(gz sh.objs nm&&(iH q sh.objs&&bO (sh.objs.map (·.1)))))then some (l++l',nm)else none
  | none=>none
 | none=>none
mutual
def fillV (ρ:Nat→Nat):RSh→List Leaf→Option (DV×List Leaf)
 | .v t,x::l=>bif decide (x.t=t)then some (.v x,l)else none
 | .st t,x::l=>bif decide (x.t=t)then some (.agg (ak x.t x.x),l)else none
 | .elm t,x::l=>bif decide (x.t=t)then some (.elm (ak x.t x.x),l)else none
 | .ptr k o,l=>some (.ptr (ρ k) o,l)
 | .slc k,l=>some (.slc (ρ k),l)
 | .slo k w,x::y::l=>match gc (.int .i64) x.t x.x,gc (.int .i64) y.t y.x with
  | some o,some n=>some (.slo (ρ k) w (Int.toNat o) (Int.toNat n),l)
  | _,_=>none
 | .aptr k w,l=>some (.rptr (ρ k) w 0 0,l)
 | .mp k,l=>some (.mp (ρ k),l)
 | .slr k,l=>some (.slr (ρ k),l)
 | .irow k,x::l=>match gc (.int .i64) x.t x.x with
  | some i=>some (.irow (ρ k) (Int.toNat i),l)
  | none=>none
 | .pel k,x::l=>match gc (.int .i64) x.t x.x with
  | some i=>some (.pel (ρ k) i 0,l)
  | none=>none
 | .mpl k,l=>some (.mpl (ρ k),l)
 | .slh k,l=>some (.slh (ρ k),l)
 | .nilp,l=>some (.nilp,l)
 | .nilm,l=>some (.nilm,l)
 | .emp,l=>some (.emp,l)
 | .any,l=>some (.undef,l)
 | .agg rs,l=>match fillVs ρ rs l with
  | some (ds,l)=>some (.agg ds,l)
  | none=>none
 | .tup rs,l=>match fillVs ρ rs l with
  | some (ds,l)=>some (.tup ds,l)
  | none=>none
 | .fn f rs,l=>match fillVs ρ rs l with
  | some (ds,l)=>some (.fn f ds,l)
  | none=>none
 | _,_=>none
def fillVs (ρ:Nat→Nat):List RSh→List Leaf→Option (List DV×List Leaf)
 | [],l=>some ([],l)
 | r::rs,l=>match fillV ρ r l with
  | some (d,l)=>match fillVs ρ rs l with
   | some (ds,l)=>some (d::ds,l)
   | none=>none
  | none=>none
end
def bS (ρ:Nat→Nat):OSh→List Leaf→Option (DObj×List Leaf)
 | .boxT t,x::l=>bif decide (x.t=t)then some (.box (ak x.t x.x),l)else none
 | .box rs,l=>match fillVs ρ rs l with
  | some (ds,l)=>some (.box ds,l)
  | none=>none
 | .row T t,⟨.sl t',x⟩::l=>bif decide (t'=t)then some (.row T t' x,l)else none
 | .imap kn ag t,⟨.es t',x⟩::l=>bif decide (t'=t)then some (.imap kn ag t' x none,l)else none
 | .rows T T' t,⟨.sl (.sl t'),x⟩::l=>bif decide (t'=t)then some (.rows T T' t' x,l)else none
 | .pool t,⟨.sl (.pair (.int .i64) t'),x⟩::l=>bif decide (t'=t)then some (.pool t' x,l)else none
 | .pmap k,l=>some (.pmap (ρ k),l)
 | .gone k,l=>some (.gone (ρ k),l)
 | .hdl k,l=>some (.hdl (ρ k),l)
 | .raw,⟨.int .i64,k⟩::l=>some (.raw k,l)
 | _,_=>none
def da (ρ:Nat→Nat):List (Nat×OSh)→List Leaf→Option (List (Nat×DObj)×List Leaf)
 | [],l=>some ([],l)
 | (k,o)::os,l=>match bS ρ o l with
  | some (x,l)=>match da ρ os l with
   | some (xs,l)=>some ((ρ k,x)::xs,l)
   | none=>none
  | none=>none
def fillSt (ρ:Nat→Nat)(sh:StSh)(l:List Leaf):Option (List DV×List (Nat×DObj)):=match fillVs ρ sh.vals l with
 | some (ds,l)=>match da ρ sh.objs l with
  | some (os,[])=>some (ds,os)
  | _=>none
 | none=>none
structure OutSh where
 st:StSh
 ts:List Ty
 ids:List Nat
 q:Nat
structure FSh where
 ins:StSh
 ts:List Ty
 m:Nat
 out:OutSh
 bw:Bool
def jM (m:List (Nat×DObj)):List (Nat×DObj)→List (Nat×DObj)
 | []=>m
 | (b,o)::l=>jM (ju m b o) l
def fN (S:DSt):List Nat→DSt
 | []=>S
 | b::l=>fN (S.del b) l
def vl (nx:Nat)(nm:Nm)(ids:List Nat)(k:Nat):Nat:=match ids.any (Nat.beq k),fnd nm k with
 | true,some (some b)=>b
 | _,_=>nx+k
def el (S:DSt)(nm:Nm)(o:OutSh)(l:List Leaf):Option (List DV×DSt):=match fillSt (vl S.nx nm o.ids) o.st l with
 | some (ds,os)=>some (ds,⟨S.nx+o.q,jM (fN S (aK nm)).m os⟩)
 | none=>none
structure FEnt where
 f:Nat
 sh:FSh
 F:dens sh.ts→Option (dens sh.out.ts)
def DM (b:Bool)(S:DSt):Option DSt:=match b with
 | true=>some S
 | false=>none
def FJ (sh:FSh)(S:DSt)(ds:List DV):Option (dens sh.ts×Nm):=match iI (DM sh.bw S) S sh.ins sh.m ds []with
 | some (l,nm)=>match ct sh.ts l with
  | some x=>some (x,nm)
  | none=>none
 | none=>none
def lV (RD:List Nat):List Nat→Bool
 | []=>true
 | b::l=>aC RD b&&lV RD l
def FK {α β:Type}(o:Option β)(k:β→Option α)(n:Option α):Option α:=match o with
 | some r=>k r
 | none=>n
def ge {α:Type}(RD:List Nat)(T:List FEnt)(f:Nat)(ds:List DV)(S:DSt)(k:DV→DSt→Option α):Option α:=match T with
 | []=>none
 | ent::T=>bif Nat.beq ent.f f then(match FJ ent.sh S ds with
  | some (x,nm)=>bif lV RD (aK nm)then FK (ent.F x) (fun r=>(match el S nm ent.sh.out (ofDens ent.sh.out.ts r)with
   | some ([d],S')=>k d S'
   | _=>none)) (ge RD T f ds S k)else none
  | none=>ge RD T f ds S k)else ge RD T f ds S k
abbrev rF:=Option (Bool×Ty)
def wv (gd:Bool)(d:DV):DV:=match gd with
 | true=>.whn true d
 | false=>d
def DN {α:Type}(RD:List Nat)(S:DSt)(e:DEnv)(o:AOper)(ann:rF)(gd:Bool)(k:DEnv→DSt→Option α):Option α:=match bA o.op with
 | true=>match Kp RD S (bX e) o.op ann with
  | some (d,S',ob)=>h9 ob (k (e.put o.dst d) S')
  | none=>none
 | false=>match Kn RD S (bX e) o.op ann with
  | some (d,ob)=>h9 ob (k (e.put o.dst (wv gd d)) S)
  | none=>none
def ba {α β:Type}(f:α→β):List (Nat×α)→List (Nat×β)
 | []=>[]
 | (k,x)::l=>(k,f x)::ba f l
def qE:AV→Bool
 | .nilp=>true
 | _=>false
def FL (ok:Bool)(d:DV)(b:Bool):DV:=match ok with
 | true=>.tup [d,ca b]
 | false=>d
def pf (p p' nb:Nat)(n:Int):DV→DV
 | .pel b key o=>bif Nat.beq b p then .pel p' key o else .pel b key o
 | .ptr b o=>bif Nat.beq b nb then .pel p' n o else .ptr b o
 | d=>d
def xh (p p' nb:Nat)(n:Int):DV→DV
 | .agg cs=>.agg (cs.map (pf p p' nb n))
 | .tup cs=>.tup (cs.map (pf p p' nb n))
 | d=>pf p p' nb n d
def DO (p p' nb:Nat)(n:Int):DObj→DObj
 | .box cs=>.box (cs.map (pf p p' nb n))
 | o=>o
def m4 (S:DSt)(b p nb:Nat)(n:Int)(t:Ty)(es:List (Int×t.den))(x:t.den):DSt:=
 ⟨S.nx+1,ju (ju (ba (DO p S.nx nb n) (fe (fe S.m p) nb)) b (.pmap S.nx)) S.nx (.pool t (es++[(n,x)]))⟩
open Classical in
noncomputable def vn {α:Type}(e:Bool)(kt kf:Option α):Option α:=match e with
 | true=>if kt=kf then kf else none
 | false=>kf
def FM (S:DSt):DV→Option Bool
 | .v ⟨.sl _,l⟩=>some (decide (l.length=0))
 | .slc b=>match S.get b with
  | some (.row _ _ l)=>some (decide (l.length=0))
  | _=>none
 | .emp=>some true
 | _=>none
def tv (ne b:Bool):DV:=match ne with
 | true=>ca (!b)
 | false=>ca b
noncomputable def xi {α:Type}(RD:List Nat)(T:List FEnt)(S:DSt)(e:DEnv)(o:AOper)(ann:rF)(gd:Bool)(k:DEnv→DSt→Option α):Option α:=match o.op with
 | .xcall f xs=>h9 (gy (bX e) xs) (ge RD T f (lT (bX e) xs) S fun d S'=>k (e.put o.dst d) S')
 | .xcallv g xs=>match(bX e g).val with
  | .fn f caps=>h9 ((bX e g).df++gy (bX e) xs) (ge RD T f (lT (bX e) xs++(bif Nat.beq f YB then [.fn f caps]else caps)) S fun d S'=>k (e.put o.dst d) S')
  | _=>none
 | .pick c x y=>match mC (bX e c).val with
  | some g=>h9 (bX e c).df (cond g (h9 (bX e x).df (k (e.put o.dst (wv gd (bX e x).val)) S)) (h9 (bX e y).df (k (e.put o.dst (wv gd (bX e y).val)) S)))
  | none=>none
 | .isn ne x=>match FM S (bX e x).val with
  | some b=>h9 (bX e x).df (vn b (k (e.put o.dst (tv ne true)) S) (k (e.put o.dst (tv ne false)) S))
  | none=>none
 | .lkp kn ok z m key fr=>match(bX e m).val with
  | .mp b=>match S.get b with
   | some (.pmap p)=>match pe kn (bX e key).val,S.get p with
    | some [n],some (.pool t es)=>bif !fr&&(Nat.beq kn 0&&qE z)then h9 ((bX e m).df++(bX e key).df) (cond (aZ es n).isSome (k (e.put o.dst (wv gd (FL ok (.pel p n 0) true))) S) (k (e.put o.dst (wv gd (FL ok .nilp false))) S))else none
    | _,_=>none
   | _=>DN RD S e o ann gd k
  | _=>DN RD S e o ann gd k
 | .mup kn m key v=>match(bX e m).val with
  | .mp b=>match S.get b with
   | some (.pmap p)=>match pe kn (bX e key).val,S.get p,(bX e v).val with
    | some [n],some (.pool t es),.ptr nb 0=>match S.get nb with
     | some (.box cs)=>match cf none t cs with
      | some x=>bif Nat.beq kn 0&&(aC RD b&&(aC RD p&&aC RD nb))then h9 ((bX e m).df++((bX e key).df++((bX e v).df++[!(aZ es n).isSome]))) (k (DEnv.put (ba (xh p S.nx nb n) e) o.dst .undef) (m4 S b p nb n t es x))else none
      | none=>none
     | _=>none
    | _,_,_=>none
   | _=>DN RD S e o ann gd k
  | _=>DN RD S e o ann gd k
 | _=>DN RD S e o ann gd k
def rG (o:AOper):DV:=match bA o.op with
 | true=>.undef
 | false=>.whn false .undef
noncomputable def EV {α:Type}(RD:List Nat)(T:List FEnt)(o:AOper)(ann:rF)(k:DEnv→DSt→Option α)(e:DEnv)(S:DSt)(want b:Bool):Option α:=match gb want b with
 | true=>xi RD T S e o ann true k
 | false=>k (e.put o.dst (rG o)) S
noncomputable def Jt {α:Type}(RD:List Nat)(T:List FEnt)(o:AOper)(ann:rF)(k:DEnv→DSt→Option α)(e:DEnv)(S:DSt):Option α:=match o.grd with
 | none=>xi RD T S e o ann false k
 | some (g,want)=>match e.get g with
  | .v ⟨.bool,c⟩=>cond c (EV RD T o ann k (e.put (some g) (ca true)) S want true) (EV RD T o ann k (e.put (some g) (ca false)) S want false)
  | .whn true (.v ⟨.bool,c⟩)=>cond c (EV RD T o ann k (e.put (some g) (.whn true (ca true))) S want true) (EV RD T o ann k (e.put (some g) (.whn true (ca false))) S want false)
  | .whn false _=>k (e.put o.dst (rG o)) S
  | _=>none
inductive DOper where
 | op (o:AOper) (a:rF)
 | fz (r:Nat) (path:List Nat)
def xj:List DV→Option Nat
 | .slc b::_=>some b
 | .slr b::_=>some b
 | .slh b::_=>some b
 | _=>none
def FN (S:DSt):DV→List Nat→Option Nat
 | .slc b,[]=>some b
 | .slr b,[]=>some b
 | .slh b,[]=>some b
 | .ptr b _,[]=>some b
 | .agg cs,[i]=>xj (cs.drop i)
 | .tup cs,[i]=>xj (cs.drop i)
 | .tup cs,[i,j]=>match cs.drop i with
  | .agg cs::_=>xj (cs.drop j)
  | _=>none
 | .ptr b _,[i]=>match S.get b with
  | some (.box cs)=>xj (cs.drop i)
  | _=>none
 | _,_=>none
def bg (S:DSt)(b:Nat)(d:DV):DV:=match S.get b with
 | some _=>d
 | none=>.undef
def ld (S:DSt)(b:Nat)(t:Ty)(l:List t.den):DV→DV
 | .slc b'=>bif Nat.beq b' b then kL t l else(match S.get b' with
  | some _=>.slc b'
  | none=>.undef)
 | .ptr b' o=>bif Nat.beq b' b then .undef else(match S.get b' with
  | some _=>.ptr b' o
  | none=>.undef)
 | .slr b'=>bg S b' (.slr b')
 | .slh b'=>bg S b' (.slh b')
 | .irow b' i=>bg S b' (.irow b' i)
 | .pel b' k o=>bg S b' (.pel b' k o)
 | d=>d
def wr (S:DSt)(b:Nat)(t:Ty)(l:List t.den):DV→DV
 | .agg cs=>.agg (cs.map (ld S b t l))
 | .tup cs=>.tup (cs.map (ld S b t l))
 | d=>ld S b t l d
def EW (S:DSt)(b:Nat)(t:Ty)(l:List t.den):DObj→DObj
 | .box cs=>.box (cs.map (ld S b t l))
 | o=>o
def DV.fzn:DV→Bool
 | .v _ | .emp | .nilp | .nilm | .elm _=>true
 | _=>false
def m6 (S:DSt)(b:Nat)(cs:List DV):DV→DV
 | .ptr b' o=>bif Nat.beq b' b then(bif dI o cs.length then .elm (cs.drop o)else .undef)else(match S.get b' with
  | some _=>.ptr b' o
  | none=>.undef)
 | .slc b'=>bif Nat.beq b' b then .undef else(match S.get b' with
  | some _=>.slc b'
  | none=>.undef)
 | .slr b'=>bg S b' (.slr b')
 | .slh b'=>bg S b' (.slh b')
 | .irow b' i=>bg S b' (.irow b' i)
 | .pel b' k o=>bg S b' (.pel b' k o)
 | d=>d
def zE (S:DSt)(b:Nat)(cs:List DV):DV→DV
 | .agg ds=>.agg (ds.map (m6 S b cs))
 | .tup ds=>.tup (ds.map (m6 S b cs))
 | d=>m6 S b cs d
def EX (S:DSt)(b:Nat)(cs:List DV):DObj→DObj
 | .box ds=>.box (ds.map (m6 S b cs))
 | o=>o
def ul (S:DSt)(b:Nat):DV→DV
 | .slr b'=>bif Nat.beq b' b then .slc S.nx else bg S b' (.slr b')
 | .slc b'=>bg S b' (.slc b')
 | .slh b'=>bg S b' (.slh b')
 | .ptr b' o=>bg S b' (.ptr b' o)
 | .irow b' i=>bif Nat.beq b' b then .undef else bg S b' (.irow b' i)
 | .pel b' k o=>bg S b' (.pel b' k o)
 | d=>d
def EY (S:DSt)(b:Nat):DV→DV
 | .agg ds=>.agg (ds.map (ul S b))
 | .tup ds=>.tup (ds.map (ul S b))
 | d=>ul S b d
def DP (S:DSt)(b:Nat):DObj→DObj
 | .box ds=>.box (ds.map (ul S b))
 | o=>o
def zF (b p:Nat):DV→DV
 | .slh b'=>bif Nat.beq b' b then .slr p else .slh b'
 | .hrow b' i=>bif Nat.beq b' b then .orow p i else .hrow b' i
 | d=>d
def Ju (b p:Nat):DV→DV
 | .agg ds=>.agg (ds.map (zF b p))
 | .tup ds=>.tup (ds.map (zF b p))
 | d=>zF b p d
def Jv (b p:Nat):DObj→DObj
 | .box ds=>.box (ds.map (zF b p))
 | o=>o
def eP (S:DSt):Bool:=S.m.all fun q=>match q.2 with
 | .pmap p=>(S.get p).isSome
 | .hdl p=>(S.get p).isSome
 | _=>true
def Kq (e:DEnv)(S:DSt)(b:Nat):Option (DEnv×DSt):=bif eP S then(match S.get b with
 | some (.box cs)=>bif cs.all DV.fzn then some (ba (zE S b cs) e,⟨S.nx,ba (EX S b cs) (fe S.m b)⟩)else none
 | some (.row _ t l)=>some (ba (wr S b t l) e,⟨S.nx,ba (EW S b t l) (fe S.m b)⟩)
 | some (.hdl p)=>some (ba (Ju b p) e,⟨S.nx,ba (Jv b p) (fe S.m b)⟩)
 | some (.rows T _ t l)=>some (ba (EY S b) e,⟨S.nx+1,ju (ba (DP S b) (fe S.m b)) S.nx (.row T (.sl t) l)⟩)
 | _=>none)else none
noncomputable def zG {α:Type}(T:List FEnt):List DOper→(DEnv→DSt→Option α)→DEnv→DSt→Option α
 | [],k,e,S=>k e S
 | .op o a::l,k,e,S=>Jt [] T o a (zG T l k) e S
 | .fz r p::l,k,e,S=>match FN S (e.get r) p with
  | some b=>match Kq e S b with
   | some (e',S')=>zG T l k e' S'
   | none=>none
  | none=>zG T l k e S
noncomputable def xl {α:Type}(RD:List Nat)(T:List FEnt):List (AOper×rF)→(DEnv→DSt→Option α)→DEnv→DSt→Option α
 | [],k,e,S=>k e S
 | (o,a)::l,k,e,S=>Jt RD T o a (xl RD T l k) e S
structure XSh where
 ex:Exit
 regs:List Nat
 o:OutSh
structure LSh where
 regs:List Nat
 st:StSh
 ts:List Ty
 m:Nat
 ids:List Nat
inductive DCode where
 | skip
 | ret
 | exit (i:Nat)
 | reg (l:List DOper)
 | drw (rs:List Nat) (l:List (AOper×rF))
 | seq (a b:DCode)
 | cond (c:Opd) (a b:DCode)
 | blk (i:Nat) (c:DCode)
 | loop (h:LSh) (xs:List XSh) (c:DCode)
 | once (h:LSh) (xs:List XSh) (c:DCode)
 | mrng (pre:List DOper) (x:Opd) (it nx bb et j:Nat) (h:LSh) (c:DCode)
def dr:List DOper→List AOper
 | []=>[]
 | .op o _::l=>o::dr l
 | .fz ..::l=>dr l
def erase:DCode→ACode
 | .skip=>.skip
 | .ret=>.ret
 | .exit i=>.exit i
 | .reg l=>.reg fun _=>dr l
 | .drw rs l=>.drw rs fun _=>l.map (·.1)
 | .seq a b=>.seq (erase a) (erase b)
 | .cond c a b=>.cond c (erase a) (erase b)
 | .blk i c=>.blk i (erase c)
 | .loop _ _ c=>.loop fun _=>erase c
 | .once _ _ c=>erase c
 | .mrng pre x it nx bb et j _ c=>.mrng (fun _=>dr pre) x it nx bb et j fun _=>erase c
def um {σ ρ:Type}(step:σ→Option (σ⊕ρ)):Nat→σ→Option ρ
 | 0,_=>none
 | n+1,x=>match step x with
  | some (.inl y)=>um step n y
  | some (.inr r)=>some r
  | none=>none
def af {σ ρ:Type}(step:σ→Option (σ⊕ρ))(x:σ):Option ρ:=um step 18446744073709551616 x
def XD:List XSh→Type
 | []=>Empty
 | [a]=>dens a.o.ts
 | a::b::l=>dens a.o.ts⊕XD (b::l)
def tw:Exit→Exit→Bool
 | .exit i,.exit j=>Nat.beq i j
 | .ret,.ret=>true
 | .normal,.normal=>true
 | _,_=>false
def vo (e:DEnv)(rs:List Nat):List DV:=rs.map e.get
def jN (ids:List Nat):Nm:=ids.map fun k=>(k,some k)
def FO (a:XSh)(e:DEnv)(S:DSt):Option (dens a.o.ts):=match iI none S a.o.st a.o.q (vo e a.regs) (jN a.o.ids)with
 | some (l,_)=>ct a.o.ts l
 | none=>none
def oi:(xs:List XSh)→Exit→DEnv→DSt→Option (XD xs)
 | [],_,_,_=>none
 | [a],ex,e,S=>bif tw a.ex ex then FO a e S else none
 | a::b::l,ex,e,S=>match(bif tw a.ex ex then FO a e S else none)with
  | some y=>some (.inl y)
  | none=>match oi (b::l) ex e S with
   | some y=>some (.inr y)
   | none=>none
def rH {β:Type}:(xs:List XSh)→XD xs→(XSh→List Leaf→β)→β
 | [],y,_=>nomatch y
 | [a],y,f=>f a (ofDens a.o.ts y)
 | a::b::l,y,f=>Sum.elim (fun u=>f a (ofDens a.o.ts u)) (fun v=>rH (b::l) v f) y
def eK:List Nat→List DV→DEnv
 | r::rs,d::ds=>(r,d)::eK rs ds
 | _,_=>[]
def pZ (h:LSh)(e:DEnv)(S:DSt)(nm:Nm):Option (dens h.ts×Nm):=match iI none S h.st h.m (vo e h.regs) nm with
 | some (l,nm)=>match ct h.ts l with
  | some x=>some (x,nm)
  | none=>none
 | none=>none
def FP {xs:List XSh}(h:LSh):Exit→DEnv→DSt→Option (dens h.ts⊕XD xs)
 | .normal,e,S=>match pZ h e S (jN h.ids)with
  | some (x,_)=>some (.inl x)
  | none=>none
 | ex,e,S=>match oi xs ex e S with
  | some y=>some (.inr y)
  | none=>none
def aU {xs:List XSh}(h:LSh)(body:(Exit→DEnv→DSt→Option (dens h.ts⊕XD xs))→DEnv→DSt→Option (dens h.ts⊕XD xs))(x:dens h.ts):Option (dens h.ts⊕XD xs):=match fillSt (fun k=>k) h.st (ofDens h.ts x)with
 | some (ds,os)=>body (FP h) (eK h.regs ds) ⟨h.m,os⟩
 | none=>none
def kD {xs:List XSh}(h:LSh)(body:(Exit→DEnv→DSt→Option (XD xs))→DEnv→DSt→Option (XD xs))(x:dens h.ts):Option (XD xs):=match fillSt (fun k=>k) h.st (ofDens h.ts x)with
 | some (ds,os)=>body (oi xs) (eK h.regs ds) ⟨h.m,os⟩
 | none=>none
def db {α σ:Type}(step:σ→α→Option σ):List α→σ→Option σ
 | [],x=>some x
 | a::l,x=>(step x a).bind (db step l)
def pg {α:Type}(a:α):List α→List (List α)
 | []=>[[a]]
 | b::l=>(a::b::l)::(pg a l).map (b::·)
def jO {α:Type}:List α→List (List α)
 | []=>[[]]
 | a::l=>(jO l).flatMap (pg a)
theorem ph {α:Type}(a:α)(t:List α):∀ s:List α,s++a::t∈pg a (s++t)
 | []=>by cases t <;> simp[pg]
 | b::s=>by simp only[List.cons_append,pg]; exact List.mem_cons_of_mem _ (List.mem_map.2 ⟨_,ph a t s,rfl⟩)
theorem m8 {α:Type}{a:α}:∀ {l q:List α},q∈pg a l→q.Perm (a::l)
 | [],q,h=>by simp[pg]at h; rw[h]
 | b::l,q,h=>by
  simp only[pg]at h;rcases List.mem_cons.1 h with rfl | h
  ·exact .refl _
  ·obtain⟨r,hr,rfl⟩:=List.mem_map.1 h;exact(List.Perm.cons b (m8 hr)).trans (List.Perm.swap _ _ _)
theorem fO {α:Type}:∀ {l p:List α},p∈jO l↔p.Perm l
 | [],p=>by simp[jO]
 | a::l,p=>by
  simp only[jO,List.mem_flatMap];constructor
  ·rintro⟨q,hq,h⟩;exact(m8 h).trans (List.Perm.cons a (fO.1 hq))
  ·intro h;obtain⟨s,t,rfl⟩:=List.append_of_mem (h.mem_iff.2 (List.mem_cons_self ..):a∈p);exact⟨s++t,fO.2 (List.Perm.cons_inv ((List.perm_middle (l₁:=s)).symm.trans h)),ph a t s⟩
def Ty.dec:(t:Ty)→DecidableEq t.den
 | .int _=>inferInstanceAs (DecidableEq Int)
 | .bool=>inferInstanceAs (DecidableEq Bool)
 | .str=>inferInstanceAs (DecidableEq ByteArray)
 | .sl t=>@instDecidableEqList _ t.dec
 | .pair a b=>@instDecidableEqProd _ _ a.dec b.dec
 | .opt t=>@Option.instDecidableEq _ t.dec
 | .es t=>@instDecidableEqList _ (@instDecidableEqProd (List Int) _ inferInstance t.dec)
def decDens:(ts:List Ty)→DecidableEq (dens ts)
 | []=>inferInstanceAs (DecidableEq Unit)
 | [t]=>t.dec
 | t::u::ts=>@instDecidableEqProd _ _ t.dec (decDens (u::ts))
def rngF {α σ:Type}[DecidableEq σ](es:List α)(step:σ→α→Option σ)(x:σ):Option σ:=bif (jO es).all (fun p=>decide (db step p x=db step es x))then db step es x else none
open Classical in
theorem xm {α σ:Type}[DecidableEq σ](es:List α)(step:σ→α→Option σ)(x:σ):rngF es step x=if ∀ p:List α,p.Perm es→db step p x=db step es x then db step es x else none:=by
 unfold rngF;cases h:(jO es).all (fun p=>decide (db step p x=db step es x))with
 | true=>rw[if_pos fun p hp=>of_decide_eq_true (List.all_eq_true.1 h p (fO.2 hp))]; rfl
 | false=>
  rw[if_neg fun hn=>?_]; rfl;rw[List.all_eq_true.2 fun p hp=>decide_eq_true (hn p (fO.1 hp))]at h;cases h
def xn (kn:Nat)(k:List Int):DV:=match kn with
 | 0=>cC .i64 (k.headD 0)
 | _+1=>.agg (k.map (cC .i64))
def io (h:LSh)(it:Nat):Exit→DEnv→DSt→Option (dens h.ts)
 | .normal,e,S=>match e.get it with
  | .ptr b 0=>bif Nat.beq b h.m then(match pZ h e S (jN h.ids)with
   | some (x,_)=>some x
   | none=>none)else none
  | _=>none
 | _,_,_=>none
def oj (h:LSh)(it et kn:Nat)(ag:Bool)(t:Ty)(body:(Exit→DEnv→DSt→Option (dens h.ts))→DEnv→DSt→Option (dens h.ts))(x:dens h.ts)(en:List Int×t.den):Option (dens h.ts):=match fillSt (fun k=>k) h.st (ofDens h.ts x)with
 | some (ds,os)=>body (io h it) ((et,.tup [xn kn en.1,zD ag t en.2])::(it,.ptr h.m 0)::eK h.regs ds) ⟨h.m+1,os⟩
 | none=>none
def DQ (b c:Nat):DV→DV
 | .mp b'=>bif Nat.beq b' b then .mpl c else .mp b'
 | d=>d
def FQ (b c:Nat):DV→DV
 | .agg ds=>.agg (ds.map (DQ b c))
 | .tup ds=>.tup (ds.map (DQ b c))
 | d=>DQ b c d
def Kr (b c:Nat):DObj→DObj
 | .box ds=>.box (ds.map (DQ b c))
 | o=>o
def m9 (S:DSt)(b p:Nat):DSt:=⟨S.nx+1,ju (ba (Kr b S.nx) (fe S.m b)) S.nx (.gone p)⟩
def DR (b c:Nat):DV→DV
 | .mpl c'=>bif Nat.beq c' c then .mp b else .mpl c'
 | d=>d
def FR (b c:Nat):DV→DV
 | .agg ds=>.agg (ds.map (DR b c))
 | .tup ds=>.tup (ds.map (DR b c))
 | d=>DR b c d
def Ks (b c:Nat):DObj→DObj
 | .box ds=>.box (ds.map (DR b c))
 | o=>o
def lf (S:DSt)(b p c:Nat):DSt:=⟨S.nx,ju (ba (Ks b c) (fe S.m c)) b (.pmap p)⟩
def kE (p:Nat):Nm→Option Nat
 | []=>none
 | (k,some b)::l=>bif Nat.beq b p then some k else kE p l
 | _::l=>kE p l
def jh (h:LSh)(it et kp:Nat)(body:(Exit→DEnv→DSt→Option (dens h.ts))→DEnv→DSt→Option (dens h.ts))(x:dens h.ts)(key:Int):Option (dens h.ts):=match fillSt (fun k=>k) h.st (ofDens h.ts x)with
 | some (ds,os)=>body (io h it) ((et,.tup [cC .i64 key,.pel kp key 0])::(it,.ptr h.m 0)::eK h.regs ds) ⟨h.m+1,os⟩
 | none=>none
def dc (rs:List Nat)(nx bb:Nat):Bool:=rs.all fun r=>!(Nat.beq r nx)&&!(Nat.beq r bb)
def OB {α:Type}(k:DEnv→DSt→Option α)(K:Exit→DEnv→DSt→Option α):Exit→DEnv→DSt→Option α
 | .normal,e,S=>k e S
 | x,e,S=>K x e S
def gh {α:Type}(i:Nat)(K:Exit→DEnv→DSt→Option α):Exit→DEnv→DSt→Option α
 | .exit j,e,S=>bif Nat.beq j i then K .normal e S else K (.exit j) e S
 | x,e,S=>K x e S
def xp (e:DEnv)(S:DSt):List Nat→Option (List Nat)
 | []=>some []
 | r::l=>match xp e S l with
  | some bs=>match e.get r with
   | .ptr b _=>match S.get b with | some _=>some (b::bs) | none=>none
   | .rptr b _ _ _=>match S.get b with | some _=>some (b::bs) | none=>none
   | .slc b=>match S.get b with | some _=>some (b::bs) | none=>none
   | .slo b _ _ _=>match S.get b with | some _=>some (b::bs) | none=>none
   | .mp b=>match S.get b with | some _=>some (b::bs) | none=>none
   | .slr b=>match S.get b with | some _=>some (b::bs) | none=>none
   | .slh b=>match S.get b with | some (.hdl p)=>(match S.get p with | some _=>some (p::bs) | none=>none) | _=>none
   | .hrow b _=>match S.get b with | some (.hdl p)=>(match S.get p with | some _=>some (p::bs) | none=>none) | _=>none
   | .orow b _=>match S.get b with | some _=>some (b::bs) | none=>none
   | .irow b _=>match S.get b with | some _=>some (b::bs) | none=>none
   | .iptr b _ _ _ _=>match S.get b with | some _=>some (b::bs) | none=>none
   | .pel b _ _=>match S.get b with | some _=>some (b::bs) | none=>none
   | .v x=>bif DJ x.t then some bs else none
   | .elm _=>some bs
   | _=>none
  | none=>none
def fP (l m:List Nat):Bool:=l.all fun k=>m.any (Nat.beq k)
noncomputable def bT (T:List FEnt):DCode→{α:Type}→(Exit→DEnv→DSt→Option α)→DEnv→DSt→Option α
 | .skip,_,K,e,S=>K .normal e S
 | .ret,_,K,e,S=>K .ret e S
 | .exit i,_,K,e,S=>K (.exit i) e S
 | .reg l,_,K,e,S=>zG T l (K .normal) e S
 | .drw rs l,_,K,e,S=>match xp e S rs with
  | some RD=>xl RD T l (K .normal) e S
  | none=>none
 | .seq a b,_,K,e,S=>bT T a (OB (bT T b K) K) e S
 | .cond c a b,_,K,e,S=>match mC (bX e c).val with
  | some g=>h9 (bX e c).df (_root_.cond g (bT T a K e S) (bT T b K e S))
  | none=>none
 | .blk i c,_,K,e,S=>bT T c (gh i K) e S
 | .loop h xs c,_,K,e,S=>match(bif fP h.ids (h.st.objs.map (·.1))then pZ h e S []else none)with
  | some (x,nm)=>(af (aU (xs:=xs) h (bT T c)) x).bind fun y=>rH xs y fun a l=>bif fP a.o.ids h.ids then(match el S nm a.o l with
   | some (ds,S')=>K a.ex (eK a.regs ds) S'
   | none=>none)else none
  | none=>none
 | .mrng pre x it nx bb et j h c,_,K,e,S=>zG T pre (fun e S=>match(bX e x).val with
  | .mp b=>match S.get b with
   | some (.imap kn ag t es none)=>h9 ((bX e x).df++[dc (it::h.regs) nx bb&&dc h.regs it it]) (match(bif fP h.ids (h.st.objs.map (·.1))then pZ h e (S.del b) []else none)with
    | some (y,nm)=>(@rngF _ _ (decDens _) es (oj h it et kn ag t fun K'=>bT T c (gh j K')) y).bind fun z=>match el (S.del b) nm ⟨h.st,h.ts,h.ids,h.m⟩ (ofDens h.ts z)with
     | some (ds,S')=>K .normal (eK h.regs ds) (S'.set b (.imap kn ag t es none))
     | none=>none
    | none=>none)
   | some (.pmap p)=>match S.get p with
    | some (.pool t es)=>h9 ((bX e x).df++[dc (it::h.regs) nx bb&&dc h.regs it it]) (match(bif fP h.ids (h.st.objs.map (·.1))then pZ h (ba (FQ b S.nx) e) (m9 S b p) []else none)with
     | some (y,nm)=>match kE p nm with
      | some kp=>bif h.ids.any (Nat.beq kp)then((@rngF _ _ (decDens _) (es.map (·.1)) (jh h it et kp fun K'=>bT T c (gh j K')) y).bind fun z=>match el (m9 S b p) nm ⟨h.st,h.ts,h.ids,h.m⟩ (ofDens h.ts z)with
       | some (ds,S')=>K .normal (ba (FR b S.nx) (eK h.regs ds)) (lf S' b p S.nx)
       | none=>none)else none
      | none=>none
     | none=>none)
    | _=>none
   | _=>none
  | _=>none) e S
 | .once h xs c,_,K,e,S=>match(bif fP h.ids (h.st.objs.map (·.1))then pZ h e S []else none)with
  | some (x,nm)=>(kD (xs:=xs) h (bT T c) x).bind fun y=>rH xs y fun a l=>bif fP a.o.ids h.ids then(match el S nm a.o l with
   | some (ds,S')=>K a.ex (eK a.regs ds) S'
   | none=>none)else none
  | none=>none
def vq (e:DEnv)(S:DSt):Res→Option DV
 | .t n=>some (e.get n)
 | .cell a ag k=>match e.get a with
  | .ptr b 0=>match S.get b with
   | some (.box cs)=>bif Nat.beq cs.length k then(match ag with
    | true=>some (.agg cs)
    | false=>match cs with
     | d::_=>some d
     | []=>none)else none
   | _=>none
  | _=>none
def rI (e:DEnv)(S:DSt):List Res→Option (List DV)
 | []=>some []
 | r::l=>match vq e S r,rI e S l with
  | some d,some ds=>some (d::ds)
  | _,_=>none
def vr (e:DEnv)(S:DSt)(l:List Res):Option DV:=match rI e S l with
 | some [d]=>some d
 | some ds=>some (.tup ds)
 | none=>none
def OC (rs:List Res)(o:OutSh):Exit→DEnv→DSt→Option (dens o.ts)
 | .normal,e,S | .ret,e,S=>match vr e S rs with
  | some d=>match iI none S o.st o.q [d] (jN o.ids)with
   | some (l,_)=>ct o.ts l
   | none=>none
  | none=>none
 | _,_,_=>none
def vt:Nat→List DV→DEnv
 | _,[]=>[]
 | i,d::ds=>(i,d)::vt (i+1) ds
noncomputable def aO (T:List FEnt)(sh:FSh)(rs:List Res)(c:DCode)(x:dens sh.ts):Option (dens sh.out.ts):=match fillSt (fun k=>k) sh.ins (ofDens sh.ts x)with
 | some (ds,os)=>bif fP sh.out.ids (sh.ins.objs.map (·.1))then bT T c (OC rs sh.out) (vt 0 ds) ⟨sh.m,os⟩else none
 | none=>none
def ix {α:Type}[Inhabited α](l:List α)(z:Int):α:=l.getD z.toNat default
def rJ {α:Type}[Inhabited α](l:List α)(i:Nat):α:=l.getD i default
def bh (k:IntKind)(a b:Int):Int:=a.fdiv (2^(min b.toNat k.bits))
def pj {α:Type}(l:List α)(a b:Int):List α:=(l.drop a.toNat).take (b-a).toNat
def un (s:ByteArray)(z:Int):Int:=(s.toList.getD z.toNat 0).toNat
def EZ {α:Type}(o:Option α)(d:α):α:=o.getD d
end Go.Proofs.YtdkaijofmigmbaaGreat.D

set_option linter.unusedVariables false
set_option linter.unusedSectionVars false
set_option linter.unusedSimpArgs false
namespace Go.Proofs.YtdkaijofmigmbaaGreat.D
open Go Go.Proofs.YtdkaijofmigmbaaGreat.L
theorem aj {a b:Nat}:Nat.beq a b=true↔a=b:=⟨Nat.eq_of_beq_eq_true,fun h=>h▸Nat.beq_refl a⟩
theorem bE {a b:Nat}(h:a≠b):Nat.beq a b=false:=by
 cases hb:Nat.beq a b with
 | false=>rfl
 | true=>exact absurd (aj.1 hb) h
theorem cF {α:Type}(l:List (Nat×α))(b:Nat)(o:α)(c:Nat):fnd (ju l b o) c=if c=b then some o else fnd l c:=by
 induction l with
 | nil=>
  by_cases h:c=b
  ·subst h; simp[ju,fnd]
  ·simp[ju,fnd,h,bE (Ne.symm h)]
 | cons p l ih=>
  obtain⟨d,q⟩:=p;by_cases hd:d=b
  ·subst hd;by_cases h:c=d
   ·subst h; simp[ju,fnd]
   ·simp[ju,fnd,h,bE (Ne.symm h)]
  ·simp only[ju,bE hd,cond_false,fnd];by_cases h:d=c
   ·subst h; simp[hd]
   ·simp only[bE h,cond_false,ih]
theorem cG {α:Type}(l:List (Nat×α))(b c:Nat):fnd (fe l b) c=if c=b then none else fnd l c:=by
 induction l with
 | nil=>simp[fe,fnd]
 | cons p l ih=>
  obtain⟨d,q⟩:=p;by_cases hd:d=b
  ·subst hd;simp only[fe,Nat.beq_refl,cond_true,ih,fnd];by_cases h:c=d
   ·simp[h]
   ·simp[h,bE (Ne.symm h)]
  ·simp only[fe,bE hd,cond_false,fnd,ih];by_cases h:d=c
   ·subst h; simp[hd]
   ·simp[bE h]
theorem DSt.get_set (S:DSt)(b:Nat)(o:DObj)(c:Nat):(S.set b o).get c=if c=b then some o else S.get c:=cF _ _ _ _
theorem DSt.get_del (S:DSt)(b c:Nat):(S.del b).get c=if c=b then none else S.get c:=cG _ _ _
theorem DSt.get_new (S:DSt)(o:DObj)(c:Nat):(S.new o).get c=if c=S.nx then some o else S.get c:=cF _ _ _ _
def CR:(t:Ty)→t.den→List AV→Prop
 | .int k,x,cs=>cs=[.int k x]
 | .bool,x,cs=>cs=[.bool x]
 | .str,x,cs=>cs=[.str x]
 | .sl t,x,cs=>(cs=[.emp]∧x=[])∨∃ get,cs=[.lst t.w x.length get]∧∀ i,i < x.length→CR t (at0 t x i) (get i)
 | .pair a b,x,cs=>∃ c1 c2,cs=c1++c2∧CR a x.1 c1∧CR b x.2 c2
 | .opt t,x,cs=>(cs=[.nilp]∧x=none)∨∃ y c,x=some y∧cs=[.elm c]∧CR t y c
 | .es _,_,_=>False
def kP (t:Ty)(l:List t.den)(xs:List (List AV)):Prop:=xs.length=l.length∧∀ i,i < l.length→CR t (at0 t l i) (xs.getD i [])
theorem dt:∀ {t:Ty} {x:t.den} {cs:List AV},CR t x cs→cs.length=t.w
 | .int _,_,_,h | .bool,_,_,h | .str,_,_,h=>by cases h; rfl
 | .sl _,_,_,h=>by
  rcases h with⟨h,_⟩ | ⟨_,h,_⟩ <;> (cases h; rfl)
 | .pair a b,x,_,⟨c1,c2,h,h1,h2⟩=>by subst h; simp[dt h1,dt h2,Ty.w]
 | .opt t,x,_,h=>by
  rcases h with⟨h,_⟩ | ⟨_,_,_,h,_⟩ <;> (cases h; rfl)
 | .es _,_,_,h=>h.elim
theorem bF:∀ {t:Ty} {x:t.den} {cs:List AV},CR t x cs→∀ a∈cs,a.frz=true
 | .int _,_,_,h,a,ha | .bool,_,_,h,a,ha | .str,_,_,h,a,ha=>by cases h; simp at ha; subst ha; rfl
 | .sl _,_,_,h,a,ha=>by
  rcases h with⟨h,_⟩ | ⟨_,h,_⟩ <;> (cases h; simp at ha; subst ha; rfl)
 | .pair a b,x,_,⟨c1,c2,h,h1,h2⟩,c,hc=>by
  subst h;rcases List.mem_append.1 hc with hc | hc
  ·exact bF h1 c hc
  ·exact bF h2 c hc
 | .opt t,x,_,h,a,ha=>by
  rcases h with⟨h,_⟩ | ⟨_,_,_,h,_⟩ <;> (cases h; simp at ha; subst ha; rfl)
 | .es _,_,_,h,_,_=>h.elim
inductive Loc where
 | real (b c n:Nat)
 | virt
 | tok (y:Int)
 | rls (b c n:Nat) (f:Nat→Option (Nat×Nat×Nat))
 | pol (g:List (Int×Nat))
 | mlk (b:Nat)
 | hnd (b c n:Nat)
def Loc.has:Loc→Nat→Prop
 | .real b _ _,x=>x=b
 | .rls b _ n f,x=>x=b∨∃ i p,i < n∧f i=some p∧x=p.1
 | .pol g,x=>∃ k,aZ g k=some x
 | _,_=>False
def ilv:Option (Nat×Nat×Nat)→AV
 | none=>.emp
 | some (b,c,n)=>.slc b n c
class YP where
 l:Nat
 pins:List AV
 ob:Int→Obj
instance (priority:=low) YP.dflt:YP:=⟨0,[],fun _=>.deferred none⟩
variable [YP]
def mw (f:Nat)(as:List AV):AV:=bif Nat.beq f YB then .yld YP.l YP.pins as else .fn f as
theorem ew {f:Nat}{as:List AV}(h:Nat.beq f YB=false):mw f as = .fn f as:=by simp[mw,h]
theorem fnA_yb {as:List AV}:mw YB as = .yld YP.l YP.pins as:=by simp[mw,YB]
theorem iJ (f:Nat)(as:List AV):(Nat.beq f YB=false∧mw f as = .fn f as)∨(Nat.beq f YB=true∧mw f as = .yld YP.l YP.pins as):=by
 cases h:Nat.beq f YB with
 | true=>exact .inr ⟨rfl,by simp[mw,h]⟩
 | false=>exact .inl ⟨rfl,by simp[mw,h]⟩
theorem jP (f:Nat)(as:List AV):(mw f as).val=mw f as∧(mw f as).df∧(mw f as).one=true∧cellsOf (mw f as)=[mw f as]:=by
 rcases iJ f as with⟨_,h⟩ | ⟨_,h⟩ <;> (rw[h]; exact⟨rfl,trivial,rfl,rfl⟩)
abbrev Pi:=Nat→Option Loc
def Ext (π π':Pi):Prop:=∀ b x,π b=some x→π' b=some x
theorem Ext.refl (π:Pi):Ext π π:=fun _ _ h=>h
theorem Ext.trans {π π1 π2:Pi}(h:Ext π π1)(k:Ext π1 π2):Ext π π2:=fun b x hx=>k b x (h b x hx)
mutual
def RelV (π:Pi):DV→AV→Prop
 | .undef,_=>True
 | .v x,a=>CR x.t x.x [a]
 | .emp,a=>a = .emp
 | .nilp,a=>a = .nilp
 | .nilm,a=>a = .nilm
 | .agg ds,a=>∃ as,a = .agg as∧RelVs π ds as
 | .tup ds,a=>∃ as,a = .tup as∧RelVs π ds as
 | .elm ds,a=>∃ as,a = .elm as∧RelVs π ds as
 | .ptr b o,a=>∃ b' c n,π b=some (.real b' c n)∧a = .ptr b' o
 | .rptr b k i j,a=>∃ b' c n,π b=some (.real b' c n)∧i < n∧a = .rptr b' k i j
 | .slc b,a=>(∃ b' c n,π b=some (.real b' c n)∧a = .slc b' n c)∨(π b=some .virt∧a = .emp)
 | .slo b k o m,a=>∃ b' c n,π b=some (.real b' c n)∧o+m≤n∧a = .slo b' k o m
 | .mp b,a=>∃ b' c n,π b=some (.real b' c n)∧a = .mp b'
 | .stk b,a=>∃ y,π b=some (.tok y)∧a = .int .i64 y
 | .slr b,a=>(∃ b' c n f,π b=some (.rls b' c n f)∧a = .slc b' n c)∨(π b=some .virt∧a = .emp)
 | .orow b i,a=>∃ b' c n f,π b=some (.rls b' c n f)∧i < n∧a = .rptr b' 1 i 0
 | .irow b i,a=>∃ b' c n f,π b=some (.rls b' c n f)∧i < n∧a=ilv (f i)
 | .iptr b k i j o,a=>∃ b' c n f b2 c2 n2,π b=some (.rls b' c n f)∧i < n∧f i=some (b2,c2,n2)∧j < n2∧a = .rptr b2 k j o
 | .pel b key o,a=>∃ g x,π b=some (.pol g)∧aZ g key=some x∧a = .ptr x o
 | .mpl b,a=>∃ b',π b=some (.mlk b')∧a = .mp b'
 | .slh b,a=>∃ b' c n,π b=some (.hnd b' c n)∧a = .slc b' n c
 | .hrow b i,a=>∃ b' c n,π b=some (.hnd b' c n)∧i < n∧a = .rptr b' 1 i 0
 | .fn f ds,a=>∃ as,a=mw f as∧RelVs π ds as
 | .whn g d,a=>∃ a',a = .whn g a'∧(g=true→RelV π d a')
def RelVs (π:Pi):List DV→List AV→Prop
 | [],as=>as=[]
 | d::ds,as=>∃ a as',as=a::as'∧RelV π d a∧RelVs π ds as'
end
mutual
theorem RelV.ext {π π':Pi}(h:Ext π π'):∀ (d:DV) {a:AV},RelV π d a→RelV π' d a
 | .undef,_,_=>by simp only[RelV]
 | .v x,a,k=>by simp only[RelV]at k ⊢; exact k
 | .emp,a,k=>by simp only[RelV]at k ⊢; exact k
 | .nilp,a,k=>by simp only[RelV]at k ⊢; exact k
 | .nilm,a,k=>by simp only[RelV]at k ⊢; exact k
 | .agg ds,a,k=>by
  simp only[RelV]at k ⊢; obtain⟨as,k1,k2⟩:=k; exact⟨as,k1,RelVs.ext h ds k2⟩
 | .tup ds,a,k=>by
  simp only[RelV]at k ⊢; obtain⟨as,k1,k2⟩:=k; exact⟨as,k1,RelVs.ext h ds k2⟩
 | .elm ds,a,k=>by
  simp only[RelV]at k ⊢; obtain⟨as,k1,k2⟩:=k; exact⟨as,k1,RelVs.ext h ds k2⟩
 | .fn f ds,a,k=>by
  simp only[RelV]at k ⊢; obtain⟨as,k1,k2⟩:=k; exact⟨as,k1,RelVs.ext h ds k2⟩
 | .ptr b o,a,k=>by simp only[RelV]at k ⊢; obtain⟨b',c,n,k1,k2⟩:=k; exact⟨b',c,n,h _ _ k1,k2⟩
 | .rptr b _ i j,a,k=>by simp only[RelV]at k ⊢; obtain⟨b',c,n,k1,k2⟩:=k; exact⟨b',c,n,h _ _ k1,k2⟩
 | .slc b,a,k=>by
  simp only[RelV]at k ⊢;rcases k with⟨b',c,n,k1,k2⟩ | ⟨k1,k2⟩
  ·exact .inl ⟨b',c,n,h _ _ k1,k2⟩
  ·exact .inr ⟨h _ _ k1,k2⟩
 | .slo b _ _ _,a,k=>by simp only[RelV]at k ⊢; obtain⟨b',c,n,k1,k2⟩:=k; exact⟨b',c,n,h _ _ k1,k2⟩
 | .mp b,a,k=>by simp only[RelV]at k ⊢; obtain⟨b',c,n,k1,k2⟩:=k; exact⟨b',c,n,h _ _ k1,k2⟩
 | .stk b,a,k=>by simp only[RelV]at k ⊢; obtain⟨y,k1,k2⟩:=k; exact⟨y,h _ _ k1,k2⟩
 | .slr b,a,k=>by
  simp only[RelV]at k ⊢;rcases k with⟨b',c,n,f,k1,k2⟩ | ⟨k1,k2⟩
  ·exact .inl ⟨b',c,n,f,h _ _ k1,k2⟩
  ·exact .inr ⟨h _ _ k1,k2⟩
 | .orow b i,a,k=>by simp only[RelV]at k ⊢; obtain⟨b',c,n,f,k1,k2⟩:=k; exact⟨b',c,n,f,h _ _ k1,k2⟩
 | .irow b i,a,k=>by simp only[RelV]at k ⊢; obtain⟨b',c,n,f,k1,k2⟩:=k; exact⟨b',c,n,f,h _ _ k1,k2⟩
 | .iptr b _ i j o,a,k=>by simp only[RelV]at k ⊢; obtain⟨b',c,n,f,b2,c2,n2,k1,k2⟩:=k; exact⟨b',c,n,f,b2,c2,n2,h _ _ k1,k2⟩
 | .pel b _ _,a,k=>by simp only[RelV]at k ⊢; obtain⟨g,x,k1,k2⟩:=k; exact⟨g,x,h _ _ k1,k2⟩
 | .mpl b,a,k=>by simp only[RelV]at k ⊢; obtain⟨b',k1,k2⟩:=k; exact⟨b',h _ _ k1,k2⟩
 | .slh b,a,k=>by simp only[RelV]at k ⊢; obtain⟨b',c,n,k1,k2⟩:=k; exact⟨b',c,n,h _ _ k1,k2⟩
 | .hrow b _,a,k=>by simp only[RelV]at k ⊢; obtain⟨b',c,n,k1,k2⟩:=k; exact⟨b',c,n,h _ _ k1,k2⟩
 | .whn g d,a,k=>by simp only[RelV]at k ⊢; obtain⟨a',k1,k2⟩:=k; exact⟨a',k1,fun g=>RelV.ext h d (k2 g)⟩
theorem RelVs.ext {π π':Pi}(h:Ext π π'):∀ (ds:List DV) {as:List AV},RelVs π ds as→RelVs π' ds as
 | [],as,k=>by simp only[RelVs]at k ⊢; exact k
 | d::ds,as,k=>by
  simp only[RelVs]at k ⊢; obtain⟨a,as',k1,k2,k3⟩:=k; exact⟨a,as',k1,RelV.ext h d k2,RelVs.ext h ds k3⟩
end
section
variable {π:Pi}
theorem aB:∀ {ds:List DV} {as:List AV},RelVs π ds as→as.length=ds.length
 | [],as,h=>by simp only[RelVs]at h; subst h; rfl
 | d::ds,as,h=>by simp only[RelVs]at h; obtain⟨a,as',rfl,_,h⟩:=h; simp[aB h]
theorem RelVs_nil:RelVs π [] []:=by simp only[RelVs]
theorem RelVs_cons {d:DV}{ds:List DV}{a:AV}{as:List AV}(h:RelV π d a)(k:RelVs π ds as):RelVs π (d::ds) (a::as):=by
 simp only[RelVs]; exact⟨a,as,rfl,h,k⟩
theorem aA {d:DV}{a:AV}(h:RelV π d a):RelVs π [d] [a]:=RelVs_cons h RelVs_nil
theorem du:∀ {ds ds':List DV} {as as':List AV},RelVs π ds as→RelVs π ds' as'→RelVs π (ds++ds') (as++as')
 | [],_,as,_,h,k=>by simp only[RelVs]at h; subst h; exact k
 | d::ds,_,as,_,h,k=>by
  simp only[RelVs]at h; obtain⟨a,as',rfl,h1,h⟩:=h; exact RelVs_cons h1 (du h k)
theorem cg:∀ {ds:List DV} {as:List AV} (n:Nat),RelVs π ds as→RelVs π (ds.drop n) (as.drop n)
 | ds,as,0,h=>by simpa using h
 | [],as,n+1,h=>by simp only[RelVs]at h; subst h; simpa using RelVs_nil
 | d::ds,as,n+1,h=>by
  simp only[RelVs]at h; obtain⟨a,as',rfl,h1,h⟩:=h; simpa using cg n h
theorem dv:∀ {ds:List DV} {as:List AV} (n:Nat),RelVs π ds as→RelVs π (ds.take n) (as.take n)
 | ds,as,0,h=>by simpa using RelVs_nil
 | [],as,n+1,h=>by simp only[RelVs]at h; subst h; simpa using RelVs_nil
 | d::ds,as,n+1,h=>by
  simp only[RelVs]at h; obtain⟨a,as',rfl,h1,h⟩:=h; simpa using RelVs_cons h1 (dv n h)
theorem cH {cs vs:List DV}{cs' vs':List AV}(o:Nat)(h:RelVs π cs cs')(k:RelVs π vs vs'):RelVs π (vg cs o vs) (cJ cs' o vs'):=by
 unfold vg cJ;rw[aB k];exact du (dv o h) (du k (cg _ h))
theorem lW:∀ {ds:List DV} {as:List AV} (i:Nat) {d:DV} {r:List DV},RelVs π ds as→ds.drop i=d::r→i < as.length∧RelV π d (at_ as i)
 | [],as,i,d,r,h,hd=>by simp at hd
 | d::ds,as,0,d',r,h,hd=>by
  simp only[RelVs]at h; obtain⟨a,as',rfl,h1,h⟩:=h; cases hd; exact⟨by simp,h1⟩
 | d::ds,as,i+1,d',r,h,hd=>by
  simp only[RelVs]at h; obtain⟨a,as',rfl,h1,h⟩:=h;have:=lW i h (by simpa using hd);exact⟨by simpa using this.1,by simpa [at_]using this.2⟩
theorem aR:∀ {t:Ty} {x:t.den} {cs:List AV},CR t x cs→RelVs π (ak t x) cs
 | .int _,_,_,h=>by
  have h':=h; simp only[CR]at h; subst h;exact aA (by simp only[RelV]; exact h')
 | .bool,_,_,h=>by
  have h':=h; simp only[CR]at h; subst h;exact aA (by simp only[RelV]; exact h')
 | .str,_,_,h=>by
  have h':=h; simp only[CR]at h; subst h;exact aA (by simp only[RelV]; exact h')
 | .sl t,x,cs,h=>by
  have h':=h;rcases h with⟨h,_⟩ | ⟨_,h,_⟩ <;> (subst h; exact aA (by simp only[RelV]; exact h'))
 | .pair a b,x,_,⟨c1,c2,h,h1,h2⟩=>by subst h; exact du (aR h1) (aR h2)
 | .opt t,x,cs,h=>by
  have h':=h;rcases h with⟨h,_⟩ | ⟨_,_,_,h,_⟩ <;> (subst h; exact aA (by simp only[RelV]; exact h'))
 | .es _,_,_,h=>h.elim
theorem gU (p:Option (Nat×Nat×Nat)):(ilv p).one=true∧(ilv p).val=ilv p∧(ilv p).df∧cellsOf (ilv p)=[ilv p]:=by
 cases p with
 | none=>exact⟨rfl,rfl,trivial,rfl⟩
 | some p=>exact⟨rfl,rfl,trivial,rfl⟩
theorem bc {d:DV}{a:AV}(h:RelV π d a)(hd:d.df.all id=true):RelV π d.val a.val:=by
 cases d with
 | undef=>simp only[DV.val,RelV]
 | whn g d=>simp only[RelV]at h; obtain⟨a',rfl,h⟩:=h; exact h (by simpa [DV.df]using hd)
 | v x=>
  have e:a.val=a:=by
   have:=bF (by simpa only[RelV]using h) a (by simp);cases a <;> simp[AV.frz]at this <;> rfl
  rw[e]; exact h
 | emp=>simp only[RelV]at h; subst h; simp only[DV.val,AV.val,RelV]
 | nilp=>simp only[RelV]at h; subst h; simp only[DV.val,AV.val,RelV]
 | nilm=>simp only[RelV]at h; subst h; simp only[DV.val,AV.val,RelV]
 | slc b=>
  have h':=h;simp only[RelV]at h;rcases h with⟨b',c,n,_,rfl⟩ | ⟨_,rfl⟩ <;> exact h'
 | agg ds=>have h':=h; simp only[RelV]at h; obtain⟨as,rfl,_⟩:=h; exact h'
 | tup ds=>have h':=h; simp only[RelV]at h; obtain⟨as,rfl,_⟩:=h; exact h'
 | elm ds=>have h':=h; simp only[RelV]at h; obtain⟨as,rfl,_⟩:=h; exact h'
 | fn f ds=>have h':=h; simp only[RelV]at h; obtain⟨as,rfl,_⟩:=h; rw[(jP f as).1]; exact h'
 | ptr b o=>have h':=h; simp only[RelV]at h; obtain⟨_,_,_,_,rfl⟩:=h; exact h'
 | rptr b k i j=>have h':=h; simp only[RelV]at h; obtain⟨_,_,_,_,_,rfl⟩:=h; exact h'
 | slo b k o m=>have h':=h; simp only[RelV]at h; obtain⟨_,_,_,_,_,rfl⟩:=h; exact h'
 | mp b=>have h':=h; simp only[RelV]at h; obtain⟨_,_,_,_,rfl⟩:=h; exact h'
 | stk b=>have h':=h; simp only[RelV]at h; obtain⟨_,_,rfl⟩:=h; exact h'
 | slr b=>
  have h':=h;simp only[RelV]at h;rcases h with⟨b',c,n,f,_,rfl⟩ | ⟨_,rfl⟩ <;> exact h'
 | orow b i=>have h':=h; simp only[RelV]at h; obtain⟨_,_,_,_,_,_,rfl⟩:=h; exact h'
 | irow b i=>have h':=h; simp only[RelV]at h; obtain⟨_,_,_,f,_,_,rfl⟩:=h; rw[(gU (f i)).2.1]; exact h'
 | iptr b k i j o=>have h':=h; simp only[RelV]at h; obtain⟨_,_,_,_,_,_,_,_,_,_,_,rfl⟩:=h; exact h'
 | pel b k o=>have h':=h; simp only[RelV]at h; obtain⟨_,_,_,_,rfl⟩:=h; exact h'
 | mpl b=>have h':=h; simp only[RelV]at h; obtain⟨_,_,rfl⟩:=h; exact h'
 | slh b=>have h':=h; simp only[RelV]at h; obtain⟨_,_,_,_,rfl⟩:=h; exact h'
 | hrow b i=>have h':=h; simp only[RelV]at h; obtain⟨_,_,_,_,_,rfl⟩:=h; exact h'
theorem bj {d:DV}{a:AV}(h:RelV π d a)(hd:d.df.all id=true):a.df:=by
 cases d with
 | undef=>simp[DV.df]at hd
 | whn g d=>simp only[RelV]at h; obtain⟨a',rfl,h⟩:=h; show g=true; simpa [DV.df]using hd
 | v x=>
  have:=bF (by simpa only[RelV]using h) a (by simp);cases a <;> simp[AV.frz]at this <;> trivial
 | emp=>simp only[RelV]at h; subst h; trivial
 | nilp=>simp only[RelV]at h; subst h; trivial
 | nilm=>simp only[RelV]at h; subst h; trivial
 | slc b=>
  simp only[RelV]at h;rcases h with⟨b',c,n,_,rfl⟩ | ⟨_,rfl⟩ <;> trivial
 | agg ds=>simp only[RelV]at h; obtain⟨as,rfl,_⟩:=h; trivial
 | tup ds=>simp only[RelV]at h; obtain⟨as,rfl,_⟩:=h; trivial
 | elm ds=>simp only[RelV]at h; obtain⟨as,rfl,_⟩:=h; trivial
 | fn f ds=>simp only[RelV]at h; obtain⟨as,rfl,_⟩:=h; exact(jP f as).2.1
 | ptr b o=>simp only[RelV]at h; obtain⟨_,_,_,_,rfl⟩:=h; trivial
 | rptr b k i j=>simp only[RelV]at h; obtain⟨_,_,_,_,_,rfl⟩:=h; trivial
 | slo b k o m=>simp only[RelV]at h; obtain⟨_,_,_,_,_,rfl⟩:=h; trivial
 | mp b=>simp only[RelV]at h; obtain⟨_,_,_,_,rfl⟩:=h; trivial
 | stk b=>simp only[RelV]at h; obtain⟨_,_,rfl⟩:=h; trivial
 | slr b=>
  simp only[RelV]at h;rcases h with⟨b',c,n,f,_,rfl⟩ | ⟨_,rfl⟩ <;> trivial
 | orow b i=>simp only[RelV]at h; obtain⟨_,_,_,_,_,_,rfl⟩:=h; trivial
 | irow b i=>simp only[RelV]at h; obtain⟨_,_,_,f,_,_,rfl⟩:=h; exact(gU (f i)).2.2.1
 | iptr b k i j o=>simp only[RelV]at h; obtain⟨_,_,_,_,_,_,_,_,_,_,_,rfl⟩:=h; trivial
 | pel b k o=>simp only[RelV]at h; obtain⟨_,_,_,_,rfl⟩:=h; trivial
 | mpl b=>simp only[RelV]at h; obtain⟨_,_,rfl⟩:=h; trivial
 | slh b=>simp only[RelV]at h; obtain⟨_,_,_,_,rfl⟩:=h; trivial
 | hrow b i=>simp only[RelV]at h; obtain⟨_,_,_,_,_,rfl⟩:=h; trivial
theorem pk {d:DV}{a:AV}(h:RelV π d a)(hd:d.one=true):a.one=true∧cellsOf a=[a]:=by
 cases d with
 | v x=>
  have:=bF (by simpa only[RelV]using h) a (by simp);cases a <;> simp[AV.frz]at this <;> exact⟨rfl,rfl⟩
 | emp=>simp only[RelV]at h; subst h; exact⟨rfl,rfl⟩
 | nilp=>simp only[RelV]at h; subst h; exact⟨rfl,rfl⟩
 | nilm=>simp only[RelV]at h; subst h; exact⟨rfl,rfl⟩
 | slc b=>
  simp only[RelV]at h;rcases h with⟨b',c,n,_,rfl⟩ | ⟨_,rfl⟩ <;> exact⟨rfl,rfl⟩
 | elm ds=>simp only[RelV]at h; obtain⟨as,rfl,_⟩:=h; exact⟨rfl,rfl⟩
 | fn f ds=>simp only[RelV]at h; obtain⟨as,rfl,_⟩:=h; exact(jP f as).2.2
 | ptr b o=>simp only[RelV]at h; obtain⟨_,_,_,_,rfl⟩:=h; exact⟨rfl,rfl⟩
 | rptr b k i j=>simp only[RelV]at h; obtain⟨_,_,_,_,_,rfl⟩:=h; exact⟨rfl,rfl⟩
 | slo b k o m=>simp only[RelV]at h; obtain⟨_,_,_,_,_,rfl⟩:=h; exact⟨rfl,rfl⟩
 | mp b=>simp only[RelV]at h; obtain⟨_,_,_,_,rfl⟩:=h; exact⟨rfl,rfl⟩
 | slr b=>
  simp only[RelV]at h;rcases h with⟨b',c,n,f,_,rfl⟩ | ⟨_,rfl⟩ <;> exact⟨rfl,rfl⟩
 | irow b i=>simp only[RelV]at h; obtain⟨_,_,_,f,_,_,rfl⟩:=h; exact⟨(gU (f i)).1,(gU (f i)).2.2.2⟩
 | pel b k o=>simp only[RelV]at h; obtain⟨_,_,_,_,rfl⟩:=h; exact⟨rfl,rfl⟩
 | mpl b=>simp only[RelV]at h; obtain⟨_,_,rfl⟩:=h; exact⟨rfl,rfl⟩
 | slh b=>simp only[RelV]at h; obtain⟨_,_,_,_,rfl⟩:=h; exact⟨rfl,rfl⟩
 | _=>simp[DV.one]at hd
theorem jQ:∀ {ds:List DV} {as:List AV},RelVs π ds as→ds.all DV.one=true→as.all AV.one=true
 | [],as,h,_=>by simp only[RelVs]at h; subst h; rfl
 | d::ds,as,h,k=>by
  simp only[RelVs]at h; obtain⟨a,as',rfl,h1,h⟩:=h;simp only[List.all_cons,Bool.and_eq_true]at k ⊢;exact⟨(pk h1 k.1).1,jQ h k.2⟩
theorem bu {d:DV}{a:AV}(h:RelV π d a)(hd:(aY d).all DV.one=true):RelVs π (aY d) (cellsOf a)∧(cellsOf a).all AV.one=true:=by
 by_cases e:∃ ds,d = .agg ds
 ·obtain⟨ds,rfl⟩:=e;simp only[RelV]at h;obtain⟨as,rfl,h⟩:=h;exact⟨h,jQ h hd⟩
 ·have e':aY d=[d]:=by
   cases d <;> first | rfl | (exact absurd ⟨_,rfl⟩ e)
  rw[e']at hd ⊢;have:=pk h (by simpa using hd);rw[this.2];exact⟨aA h,by simpa using this.1⟩
theorem ol {t:Ty}{d:DV}{x:t.den}{a:AV}(h:oa none t d=some x)(k:RelV π d a):CR t x [a]:=by
 unfold oa at h;split at h
 ·rename_i t' y;split at h
  ·rename_i he; subst he; cases h; simpa only[RelV]using k
  ·cases h
 ·split at h
  ·cases h; simp only[RelV]at k; subst k; exact .inl ⟨rfl,rfl⟩
  ·cases h
 ·simp at h
 ·simp at h
 ·simp at h
 ·cases h
theorem jR:∀ {t:Ty} {ds:List DV} {x:t.den} {rest:List DV} {as:List AV},dec none t ds=some (x,rest)→RelVs π ds as→∃ c as',as=c++as'∧CR t x c∧RelVs π rest as'
 | .pair a b,ds,x,rest,as,h,k=>by
  simp only[dec]at h;split at h
  ·rename_i y ds1 h1;split at h
   ·rename_i z ds2 h2;cases h;obtain⟨c1,as1,rfl,g1,k1⟩:=jR h1 k;obtain⟨c2,as2,rfl,g2,k2⟩:=jR h2 k1;exact⟨c1++c2,as2,by simp,⟨c1,c2,rfl,g1,g2⟩,k2⟩
   ·cases h
  ·cases h
 | .es _,ds,x,rest,as,h,k=>by simp[dec]at h
 | .opt _,[],x,rest,as,h,k=>by simp[dec]at h
 | .opt t,d::ds,x,rest,as,h,k=>by
  simp only[dec]at h;simp only[RelVs]at k;obtain⟨a,as',rfl,k1,k2⟩:=k;split at h
  ·rename_i es;split at h
   ·rename_i y hy;cases h;simp only[RelV]at k1;obtain⟨bs,rfl,k1⟩:=k1;obtain⟨c,r,rfl,g,g2⟩:=jR hy k1;simp only[RelVs]at g2; subst g2;exact⟨[.elm c],as',by simp,.inr ⟨y,c,rfl,rfl,g⟩,k2⟩
   ·cases h
  ·cases h;simp only[RelV]at k1; subst k1;exact⟨[.nilp],as',rfl,.inl ⟨rfl,rfl⟩,k2⟩
  ·split at h
   ·rename_i y hy;cases h;exact⟨[a],as',rfl,ol hy k1,k2⟩
   ·cases h
 | .int _,[],x,rest,as,h,k | .bool,[],x,rest,as,h,k | .str,[],x,rest,as,h,k | .sl _,[],x,rest,as,h,k=>by simp[dec]at h
 | .int _,d::ds,x,rest,as,h,k | .bool,d::ds,x,rest,as,h,k | .str,d::ds,x,rest,as,h,k | .sl _,d::ds,x,rest,as,h,k=>by
  simp only[dec]at h;split at h
  ·rename_i y hy;cases h;simp only[RelVs]at k;obtain⟨a,as',rfl,k1,k2⟩:=k;exact⟨[a],as',rfl,ol hy k1,k2⟩
  ·cases h
theorem bk {t:Ty}{ds:List DV}{x:t.den}{as:List AV}(h:cf none t ds=some x)(k:RelVs π ds as):CR t x as:=by
 unfold cf at h;split at h
 ·rename_i y hy;cases h;obtain⟨c,as',rfl,g,k'⟩:=jR hy k;simp only[RelVs]at k';subst k'
  simpa using g
 ·cases h
end
def MR (ag:Bool)(t:Ty)(x:t.den)(a:AV):Prop:=match ag with
 | true=>∃ cs,a = .agg cs∧CR t x cs
 | false=>CR t x [a]
def na (ag:Bool)(t:Ty):List (List Int×t.den)→List (List Int×AV)→Prop
 | [],es=>es=[]
 | (k,x)::l,es=>∃ a l',es=(k,a)::l'∧MR ag t x a∧na ag t l l'
section
variable {π:Pi} {ag:Bool} {t:Ty}
theorem om {x:t.den}{a:AV}(h:MR ag t x a):RelV π (zD ag t x) a:=by
 cases ag with
 | true=>obtain⟨cs,rfl,h⟩:=h; simp only[zD,RelV]; exact⟨cs,rfl,aR h⟩
 | false=>simp only[zD,RelV]; exact h
theorem vu {d:DV}{x:t.den}{a:AV}(h:FI ag t d=some x)(k:RelV π d a):MR ag t x a:=by
 cases ag with
 | true=>
  unfold FI at h;split at h
  ·simp only[RelV]at k; obtain⟨as,rfl,k⟩:=k; exact⟨as,rfl,bk h k⟩
  ·rename_i he; cases he
  ·cases h
 | false=>
  simp only[FI]at h;exact ol h k
theorem oq:∀ {es:List (List Int×t.den)} {es':List (List Int×AV)},na ag t es es'→es'.length=es.length
 | [],_,h=>by simp only[na]at h; subst h; rfl
 | (k,x)::l,_,h=>by simp only[na]at h; obtain⟨a,l',rfl,_,h⟩:=h; simp[oq h]
theorem ot:∀ {es:List (List Int×t.den)} {es':List (List Int×AV)} (k:List Int),na ag t es es'→(ef es k=none∧bK es' k=none)∨∃ x a,ef es k=some x∧bK es' k=some a∧MR ag t x a
 | [],_,k,h=>by simp only[na]at h; subst h; exact .inl ⟨rfl,rfl⟩
 | (k',x)::l,_,k,h=>by
  simp only[na]at h;obtain⟨a,l',rfl,h1,h⟩:=h;by_cases e:k'=k
  ·right; exact⟨x,a,by simp[ef,e],by simp[bK,e],h1⟩
  ·have e1:ef ((k',x)::l) k=ef l k:=by simp[ef,e]
   have e2:bK ((k',a)::l') k=bK l' k:=by simp[bK,e]
   rw[e1,e2];exact ot k h
theorem ou:∀ {es:List (List Int×t.den)} {es':List (List Int×AV)} (k:List Int) {x:t.den} {a:AV},na ag t es es'→MR ag t x a→na ag t (oe es k x) (mput es' k a)
 | [],_,k,x,a,h,h1=>by simp only[na]at h; subst h; simp only[oe,mput,na]; exact⟨a,[],rfl,h1,rfl⟩
 | (k',y)::l,_,k,x,a,h,h1=>by
  simp only[na]at h;obtain⟨b,l',rfl,h2,h⟩:=h;by_cases e:k'=k
  ·subst e; simp only[oe,mput,if_true,na]; exact⟨a,l',rfl,h1,h⟩
  ·simp only[oe,mput,e,if_false,na]; exact⟨b,_,rfl,h2,ou k h h1⟩
theorem pm:∀ (es:List (List Int×AV)) (k:List Int) (v0 v:AV),(mput es k v0).set (aT es k) (((mput es k v0).getD (aT es k) default).1,v)=mput es k v
 | [],k,v0,v=>by simp[mput,aT]
 | (k',u)::l,k,v0,v=>by
  by_cases e:k'=k
  ·subst e; simp[mput,aT,List.findIdx_cons]
  ·have ih:=pm l k v0 v;have e1:aT ((k',u)::l) k=aT l k+1:=by simp[aT,List.findIdx_cons,e]
   rw[e1];simp only[mput,e,if_false,List.set_cons_succ,List.getD_cons_succ];rw[ih]
theorem rK {t:Ty}{z:AV}(h:qD t z=true):CR t t.zero [z]:=by
 unfold qD at h;split at h
 ·simp only[Bool.and_eq_true,kM,decide_eq_true_eq]at h; obtain⟨rfl,rfl⟩:=h; rfl
 ·rename_i b; cases b
  ·rfl
  ·cases h
 ·simp only[decide_eq_true_eq]at h; subst h; rfl
 ·exact .inl ⟨rfl,rfl⟩
 ·exact .inl ⟨rfl,rfl⟩
 ·cases h
theorem fQ:∀ {t:Ty} {zs rest:List AV},kN t zs=some rest→∃ c,zs=c++rest∧CR t t.zero c
 | .pair a b,zs,rest,h=>by
  simp only[kN]at h;split at h
  ·rename_i z1 h1;obtain⟨c1,rfl,g1⟩:=fQ h1;obtain⟨c2,rfl,g2⟩:=fQ h;exact⟨c1++c2,by simp,c1,c2,rfl,g1,g2⟩
  ·cases h
 | .es _,zs,rest,h=>by simp[kN]at h
 | .int _,[],_,h | .bool,[],_,h | .str,[],_,h | .sl _,[],_,h | .opt _,[],_,h=>by simp[kN]at h
 | .int _,z::zs,rest,h | .bool,z::zs,rest,h | .str,z::zs,rest,h | .sl _,z::zs,rest,h | .opt _,z::zs,rest,h=>by
  simp only[kN]at h;cases hz:qD _ z with
  | true=>rw[hz]at h; cases h; exact⟨[z],rfl,rK hz⟩
  | false=>rw[hz]at h; cases h
theorem vw {z:AV}(h:EU ag t z=true):MR ag t t.zero z:=by
 unfold EU at h;split at h
 ·rename_i zs;split at h
  ·rename_i hz; obtain⟨c,rfl,g⟩:=fQ hz; exact⟨c,by simp,g⟩
  ·cases h
 ·exact rK h
 ·cases h
end
end Go.Proofs.YtdkaijofmigmbaaGreat.D
