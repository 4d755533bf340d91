/- An own program logic over the kit's walk, part 15: a drawn region in one order of ours. -/
import Derived.Test.YtjoncejabdjekaaL14
set_option linter.unusedVariables false
set_option linter.unusedSimpArgs false
namespace Go.Proofs.Ytjoncejabdjekaa.L
open Go

inductive Reach (ops : Array Oper) : Nat → Nat → Prop
  | one {j : Nat} {o : Oper} {d : Edge} : ops[j]? = some o → d ∈ o.after → Region.binds .any d = true → Reach ops j d.on
  | step {j i : Nat} {o : Oper} {d : Edge} : ops[j]? = some o → d ∈ o.after → Region.binds .any d = true → Reach ops d.on i → Reach ops j i

def Closed (ops : Array Oper) (listed : Array Bool) : Prop := ∀ (k : Nat) (o : Oper), ops[k]? = some o → listed.getD k false = true → ∀ d ∈ o.after, Region.binds .any d = true → listed.getD d.on false = true

theorem Closed.reach {ops : Array Oper} {listed : Array Bool} (h : Closed ops listed) {k i : Nat} (hr : Reach ops k i) : listed.getD k false = true → listed.getD i false = true := by
  induction hr with
  | one h1 h2 h3 => exact fun hk => h _ _ h1 hk _ h2 h3
  | step h1 h2 h3 _ ih => exact fun hk => ih (h _ _ h1 hk _ h2 h3)
theorem ready_reach {ops : Array Oper} {listed : Array Bool} (h : Closed ops listed) {j i : Nat} (hj : j ∈ Region.ready .any ops listed) (hr : Reach ops j i) : listed.getD i false = true := by
  obtain ⟨_, o, ho, ha⟩ := mem_ready.1 hj
  cases hr with
  | one h1 h2 h3 => rw [ho] at h1; cases h1; exact ha _ h2 h3
  | step h1 h2 h3 h4 => rw [ho] at h1; cases h1; exact h.reach h4 (ha _ h2 h3)

theorem lt_listed {listed : Array Bool} {i : Nat} (h : listed.getD i true = false) : i < listed.size := by
  rcases Nat.lt_or_ge i listed.size with h' | h'
  · exact h'
  · simp [Array.getElem?_eq_none h'] at h
theorem unlisted_ne {listed : Array Bool} {i : Nat} (h : listed.getD i true = false) (h' : listed.getD i false = true) : False := by
  have := lt_listed h
  simp [this] at h h'
  rw [h] at h'; cases h'

theorem Closed.put {ops : Array Oper} {listed : Array Bool} (h : Closed ops listed) {i : Nat} (hi : i ∈ Region.ready .any ops listed) : Closed ops (listed.setIfInBounds i true) := by
  intro k o ho hk d hd hb
  by_cases hki : i = k
  · subst hki
    obtain ⟨_, o', ho', ha⟩ := mem_ready.1 hi
    rw [ho] at ho'; cases ho'
    exact getD_set_true (ha d hd hb)
  · rw [getD_set_ne false hki] at hk
    exact getD_set_true (h k o ho hk d hd hb)

theorem before_sound (ops : Array Oper) (j i : Nat) (h : ((Region.before ops).getD j 0).testBit i = true) : Reach ops j i := by
  have key : (Region.before ops).size = ops.size ∧ ∀ j i, ((Region.before ops).getD j 0).testBit i = true → Reach ops j i := by
    unfold Region.before
    refine Array.foldl_induction (motive := fun k (acc : Array Nat) => acc.size = k ∧ ∀ j i, (Array.getD acc j 0).testBit i = true → Reach ops j i) ⟨rfl, fun j i h => by simp at h⟩ ?_
    rintro k acc ⟨hs, ih⟩
    have hk : ops[k.1]? = some ops[k.1] := Array.getElem?_eq_getElem k.2
    refine ⟨by simp [hs], fun j i hj => ?_⟩
    by_cases hjk : j = acc.size
    · subst hjk
      simp only [Array.getD_eq_getD_getElem?, Array.getElem?_push_size, Option.getD_some] at hj
      have inner : ∀ i, (Array.foldl (fun s e => if Region.binds .any e then s ||| 2 ^ e.on ||| acc.getD e.on 0 else s) 0 (ops[k.1]).after).testBit i = true → Reach ops k.1 i := by
        refine Array.foldl_induction (motive := fun _ s => ∀ i, Nat.testBit s i = true → Reach ops k.1 i) (fun i h => by simp at h) ?_
        intro m s hi i h
        split at h
        · rename_i hb
          simp only [Nat.testBit_or, Bool.or_eq_true] at h
          rcases h with (h | h) | h
          · exact hi i h
          · have : ((ops[k.1]).after[m]).on = i := by
              rw [Nat.testBit_two_pow] at h
              simpa using h
            rw [← this]
            exact .one hk (Array.getElem_mem _) hb
          · exact .step hk (Array.getElem_mem _) hb (ih _ _ h)
        · exact hi i h
      rw [hs]
      exact inner i (by simpa [Array.getD_eq_getD_getElem?] using hj)
    · have : (acc.push (Array.foldl (fun s e => if Region.binds .any e then s ||| 2 ^ e.on ||| acc.getD e.on 0 else s) 0 (ops[k.1]).after)).getD j 0 = acc.getD j 0 := by
        simp only [Array.getD_eq_getD_getElem?, Array.getElem?_push, if_neg hjk]
      exact ih j i (by rw [← this]; exact hj)
  exact key.2 j i h

section
variable {P : Program} {T : Tbl} {R : Nat → Prop} {ops : Array Oper} {aops : Array AOper} {K : Env → Store → Prop}

theorem xoAt_mono {i : Nat} {K K' : Env → Store → Prop} (h : ∀ e s, K e s → K' e s) {e : Env} {s : Store} (hx : xoAt P T R aops i K e s) : xoAt P T R aops i K' e s := by
  unfold xoAt at *
  split
  · simp only [*] at hx; exact xo_mono h hx
  · simp only [*] at hx; exact h _ _ hx

theorem xoAt_comm {i j : Nat} (h : ∀ a b, aops[i]? = some a → aops[j]? = some b → cmB a b = true) {e : Env} {s : Store} (hx : xoAt P T R aops i (xoAt P T R aops j K) e s) : xoAt P T R aops j (xoAt P T R aops i K) e s := by
  cases hi : aops[i]? with
  | none =>
    have f : ∀ K : Env → Store → Prop, xoAt P T R aops i K = K := fun K => by funext e s; simp [xoAt, hi]
    rw [f] at hx ⊢; exact hx
  | some a => cases hj : aops[j]? with
    | none =>
      have f : ∀ K : Env → Store → Prop, xoAt P T R aops j K = K := fun K => by funext e s; simp [xoAt, hj]
      rw [f] at hx ⊢; exact hx
    | some b =>
      have f : ∀ K : Env → Store → Prop, xoAt P T R aops i K = xo P T R a K := fun K => by funext e s; simp [xoAt, hi]
      have g : ∀ K : Env → Store → Prop, xoAt P T R aops j K = xo P T R b K := fun K => by funext e s; simp [xoAt, hj]
      rw [g, f] at hx ⊢
      exact xo_comm (h a b hi hj) hx

/-- What is left is in a list. -/
def Left (ops : Array Oper) (listed : Array Bool) (l : List Nat) : Prop := ∀ i, i < ops.size → listed.getD i true = false → i ∈ l
theorem Left.put {listed : Array Bool} {l : List Nat} (h : Left ops listed l) (i : Nat) : Left ops (listed.setIfInBounds i true) (l.erase i) := by
  intro k hk hu
  by_cases hik : i = k
  · subst hik
    have := lt_listed hu
    simp at this
    simp [this] at hu
  · rw [getD_set_ne true hik] at hu
    exact (List.mem_erase_of_ne (Ne.symm hik)).2 (h k hk hu)
theorem ready_lt {listed : Array Bool} {i : Nat} (hi : i ∈ Region.ready .any ops listed) : i < ops.size ∧ listed.getD i true = false := by
  obtain ⟨h, o, ho, _⟩ := mem_ready.1 hi
  exact ⟨(Array.getElem?_eq_some_iff.1 ho).1, h⟩

theorem awAny_first {i : Nat} : ∀ (fuel : Nat) (listed : Array Bool) (l : List Nat) (e : Env) (s : Store), Left ops listed l → l.length ≤ fuel + 1 → Closed ops listed →
    (∀ j, j < ops.size → j ≠ i → listed.getD j true = false → ¬ Reach ops j i → ∀ a b, aops[i]? = some a → aops[j]? = some b → cmB a b = true) →
    i ∈ Region.ready .any ops listed → xoAt P T R aops i (awAny P T R ops aops K fuel (listed.setIfInBounds i true)) e s → awAny P T R ops aops K (fuel + 1) listed e s
  | 0, listed, l, e, s, hl, hlen, hc, hf, hi, hx => by
    refine ⟨fun h => (by rw [h] at hi; cases hi), fun j hj => ?_⟩
    by_cases hji : j = i
    · subst hji; exact hx
    · have h1 := hl i (ready_lt hi).1 (ready_lt hi).2
      have h2 := hl j (ready_lt hj).1 (ready_lt hj).2
      match l, hlen, h1, h2 with
      | [x], _, h1, h2 => simp at h1 h2; omega
  | fuel + 1, listed, l, e, s, hl, hlen, hc, hf, hi, hx => by
    refine ⟨fun h => (by rw [h] at hi; cases hi), fun j hj => ?_⟩
    by_cases hji : j = i
    · subst hji; exact hx
    · have hj' := ready_mono hj hji
      have h1 : xoAt P T R aops i (xoAt P T R aops j (awAny P T R ops aops K fuel ((listed.setIfInBounds i true).setIfInBounds j true))) e s :=
        xoAt_mono (fun e s h => h.2 j hj') hx
      have hnr : ¬ Reach ops j i := fun hr => unlisted_ne (ready_lt hi).2 (ready_reach hc hj hr)
      have h2 := xoAt_comm (hf j (ready_lt hj).1 hji (ready_lt hj).2 hnr) h1
      refine xoAt_mono (fun e' s' h3 => awAny_first fuel (listed.setIfInBounds j true) (l.erase j) e' s' (hl.put j) ?_ (hc.put hj) ?_ (ready_mono hi (Ne.symm hji)) ?_) h2
      · have := List.length_erase_of_mem (hl j (ready_lt hj).1 (ready_lt hj).2)
        omega
      · intro k hk hki hu hnr a b
        refine hf k hk hki ?_ hnr a b
        by_cases hjk : j = k
        · subst hjk; exact (ready_lt hj).2
        · rw [getD_set_ne true hjk] at hu; exact hu
      · rw [Array.setIfInBounds_comm _ _ hji]; exact h3

def freeB (bm : Array Nat) (aops : Array AOper) (listed : Array Bool) (i : Nat) (a : AOper) : List Nat → Bool
  | [] => true
  | j :: l => (j == i || listed.getD j true || (bm.getD j 0).testBit i || (match aops[j]? with
    | some b => cmB a b
    | none => false)) && freeB bm aops listed i a l

def permB (ops : Array Oper) (bm : Array Nat) (aops : Array AOper) : List Nat → Array Bool → Bool
  | [], listed => (Region.ready .any ops listed).isEmpty
  | i :: l, listed => (Region.ready .any ops listed).contains i && (match aops[i]? with
    | some a => freeB bm aops listed i a (List.range ops.size)
    | none => false) && permB ops bm aops l (listed.setIfInBounds i true)

theorem freeB_spec {bm : Array Nat} {listed : Array Bool} {i : Nat} {a : AOper} : ∀ {l : List Nat}, freeB bm aops listed i a l = true → ∀ j ∈ l, j ≠ i → listed.getD j true = false → (bm.getD j 0).testBit i = false → ∀ b, aops[j]? = some b → cmB a b = true
  | k :: l, h, j, hj, hji, hu, hb, b, hab => by
    simp only [freeB, Bool.and_eq_true] at h
    rcases List.mem_cons.1 hj with rfl | hj
    · have h1 := h.1
      rw [hu, hb, hab] at h1
      simpa [hji] using h1
    · exact freeB_spec h.2 j hj hji hu hb b hab

def pick' (aops : Array AOper) : List Nat → List AOper
  | [] => []
  | i :: l => match aops[i]? with
    | some a => a :: pick' aops l
    | none => []

theorem awAny_perm : ∀ (π : List Nat) (fuel : Nat) (listed : Array Bool) (l : List Nat) (e : Env) (s : Store), Left ops listed l → l.length ≤ fuel → Closed ops listed →
    permB ops (Region.before ops) aops π listed = true → xr P T R (pick' aops π) K e s → awAny P T R ops aops K fuel listed e s
  | [], fuel, listed, l, e, s, hl, hlen, hc, hp, hx => by
    have h0 : Region.ready .any ops listed = [] := by simpa [permB] using hp
    cases fuel with
    | zero => exact ⟨h0, hx⟩
    | succ m => exact ⟨fun _ => hx, fun i hi => by rw [h0] at hi; cases hi⟩
  | i :: π, fuel, listed, l, e, s, hl, hlen, hc, hp, hx => by
    simp only [permB, Bool.and_eq_true] at hp
    obtain ⟨⟨h1, h2⟩, h3⟩ := hp
    have hi : i ∈ Region.ready .any ops listed := by simpa using h1
    cases ha : aops[i]? with
    | none => rw [ha] at h2; cases h2
    | some a =>
      simp only [ha] at h2
      have hmem := hl i (ready_lt hi).1 (ready_lt hi).2
      have hlen' := List.length_erase_of_mem hmem
      have hpos : 0 < l.length := List.length_pos_of_mem hmem
      cases fuel with
      | zero => omega
      | succ m =>
        refine awAny_first m listed l e s hl hlen hc ?_ hi ?_
        · intro j hj hji hu hnr a' b hab hb
          rw [ha] at hab; cases hab
          refine freeB_spec h2 j (List.mem_range.2 hj) hji hu ?_ b hb
          cases hbit : ((Region.before ops).getD j 0).testBit i with
          | false => rfl
          | true => exact absurd (before_sound ops j i hbit) hnr
        · simp only [xoAt, ha]
          simp only [pick', ha, xr] at hx
          exact xo_mono (fun e' s' h => awAny_perm π m _ (l.erase i) e' s' (hl.put i) (by omega) (hc.put hi) h3 h) hx
end

theorem OkOpers.at {P : Program} {n : Nat} {ops : Array Oper} : ∀ {l : List Oper} {l' : List AOper}, OkOpers P n ops l l' → l'.length = l.length ∧ ∀ (i : Nat) (o : Oper) (ao : AOper), l[i]? = some o → l'[i]? = some ao → OkOper P n ops o ao
  | [], [], _ => ⟨rfl, fun i o ao h => by simp at h⟩
  | o :: l, a :: l', h => by
    obtain ⟨h1, h2⟩ := OkOpers.at h.2
    refine ⟨by simp [h1], fun i o' ao ho ha => ?_⟩
    cases i with
    | zero => simp at ho ha; subst ho; subst ha; exact h.1
    | succ i => exact h2 i o' ao (by simpa using ho) (by simpa using ha)
  | [], _ :: _, h => h.elim
  | _ :: _, [], h => h.elim

/-- A drawn region, told in one order. -/
theorem awp_region_any {P : Program} {T : Tbl} {R : Nat → Prop} (hT : TblOK P T) (hm : P.follows .mixedOrders = true) {n id : Nat} {ops : Array Oper} {l' l'' : List AOper} {π : List Nat} {K : Exit → Env → Store → Prop} {e : Env} {s : Store} (hk : OkOpers P n ops ops.toList l')
    (hp : permB ops (Region.before ops) l'.toArray π (Array.replicate ops.size false) = true) (hl : pick' l'.toArray π = l'') (hR : ∀ b, R b → own s b) (h : xr P T R l'' (fun e s => K .normal e s) e s) :
    awp P n (.region id ops true) K e s := by
  subst hl
  intro a w hf
  obtain ⟨h1, h2⟩ := hk.at
  have hmv : Mv (own s) (own s) w { w with drawn := w.drawn + 1 } := ⟨rfl, rfl, rfl, Nat.le_refl _, fun _ _ _ => rfl, fun _ h => .inl h⟩
  refine wp_region_any hm (wpAny_sound' hT (aops := l'.toArray) (by simpa using h1) (fun i o ao ho ha => h2 i o ao (by simpa using ho) (by simpa using ha)) ops.size _ e s a _ ⟨hf.sz, ?_, ?_, hf.df⟩ (fun b hb => hf.st.lt (hR b hb)) ?_
    (awAny_perm π ops.size _ (List.range ops.size) e s (fun i hi _ => List.mem_range.2 hi) (by simp) ?_ hp h))
  · exact fun b x hx => (hf.st b x hx).mv hmv rfl
  · exact fun t => (hf.env t).mv hmv
  · exact hmv
  · intro k o ho hk
    have hlt := (Array.getElem?_eq_some_iff.1 ho).1
    simp [hlt] at hk
end Go.Proofs.Ytjoncejabdjekaa.L
