/- promise: what Owed and Still of the program come to. -/
import Derived.Test.YtjoncejabdjekaaS8
set_option linter.unusedVariables false
set_option linter.unusedSimpArgs false
namespace Go.Proofs.Ytjoncejabdjekaa.D
open Go Go.Proofs Go.Proofs.Ytjoncejabdjekaa.L

/-- A loop, told by what holds of its states. -/
theorem while_ex {σ ρ : Type} {step : σ → Option (σ ⊕ ρ)} (n : Nat) (R : Nat → σ → Prop) (Q : ρ → Prop) (x0 : σ) (h0 : R 0 x0) (h1 : ∀ k x, k < n → R k x → ∃ y, step x = some (.inl y) ∧ R (k + 1) y)
    (h2 : ∀ x, R n x → ∃ r, step x = some (.inr r) ∧ Q r) (hn : n < 18446744073709551616) : ∃ r, whileF step x0 = some r ∧ Q r := by
  have key : ∀ (d k m : Nat) (x : σ), k + d = n → d < m → R k x → ∃ r, goF step m x = some r ∧ Q r := by
    intro d
    induction d with
    | zero =>
      intro k m x hk hm hx
      cases m with
      | zero => omega
      | succ m =>
        have : k = n := by omega
        subst this
        obtain ⟨r, h3, h4⟩ := h2 x hx
        exact ⟨r, by simp only [goF, h3], h4⟩
    | succ d ih =>
      intro k m x hk hm hx
      cases m with
      | zero => omega
      | succ m =>
        obtain ⟨y, h3, h4⟩ := h1 k x (by omega) hx
        obtain ⟨r, h5, h6⟩ := ih (k + 1) m y (by omega) (by omega) h4
        exact ⟨r, by simp only [goF, h3]; exact h5, h6⟩
  exact key n 0 _ x0 (by omega) hn h0

section
variable {c : Cmp} {l : List Ran}
theorem okR_nat {ns : Nat} {r : Ran} (h : okR ns r = true) : ∃ s0 k0 : Nat, r.2.2 = (s0 : Int) ∧ r.2.1 = (k0 : Int) ∧ s0 < 100 ∧ k0 < ns := by
  simp only [okR, Bool.and_eq_true, wi_iff] at h
  exact ⟨r.2.2.toNat, r.2.1.toNat, by omega, by omega, by omega, by omega⟩

theorem OweI.zero (hv : valid c = true) : OweI c l 0 0 [] [] (times c) := by
  have e : ∀ s k, seenB l 0 s k = false := fun _ _ => rfl
  have e1 : ∀ i, cntB c l 0 i = 0 := fun i => by
    have := sumN_bd (f := fun k => b01 (fitP (prm c i) (shw c k) && seenB l 0 (prm c i).1 k)) (a := 0) (b := 0) (n := c.1.length) (fun k _ => by
      show 0 ≤ b01 (fitP (prm c i) (shw c k) && seenB l 0 (prm c i).1 k) ∧ b01 (fitP (prm c i) (shw c k) && seenB l 0 (prm c i).1 k) ≤ 0
      rw [e, Bool.and_false]; decide)
    unfold cntB; omega
  have e3 : ∀ i, i < c.2.length → wantB c l 0 i = (prm c i).2.1 := fun i hi => by
    have := valid_times hv hi
    unfold wantB; rw [e1]; omega
  have e4 : paidB c l 0 = 0 := by
    have := sumN_bd (f := fun i => (prm c i).2.1 - wantB c l 0 i) (a := 0) (b := 0) (n := c.2.length) (fun i hi => by
      show 0 ≤ (prm c i).2.1 - wantB c l 0 i ∧ (prm c i).2.1 - wantB c l 0 i ≤ 0
      rw [e3 i hi]; omega)
    unfold paidB; omega
  have e5 : disB c l 0 = 0 := by
    have := sumN_bd (f := fun s => sumN c.1.length fun k => b01 (seenB l 0 (s : Nat) k)) (a := 0) (b := 0) (n := 100) (fun s _ => by
      have := sumN_bd (f := fun k => b01 (seenB l 0 (s : Nat) k)) (a := 0) (b := 0) (n := c.1.length) (fun k _ => by
        show 0 ≤ b01 (seenB l 0 (s : Nat) k) ∧ b01 (seenB l 0 (s : Nat) k) ≤ 0
        rw [e]; decide)
      omega)
    unfold disB; omega
  refine ⟨by unfold extraB; rw [e4, e5]; rfl, fun s k => ?_, fun i k hi hk => by rw [e, Bool.and_false]; rfl, by simp [times], fun i hi => by rw [times_get hi, e3 i hi]⟩
  rw [e]; simp [kget, dof]

theorem owe_step (hv : valid c = true) {m : Nat} (hm : m < l.length) (hl : l.length ≤ 30) (hr : okR c.1.length (ran l m) = true) {ex : Int} {seen done : DoneM} {w : List Int} (h : OweI c l m ex seen done w) :
    ∃ ex' seen' done' w', p41_0 ex l (l.length : Int) (m : Int) c c.1 c.2 seen done w = some (.inl (ex', l, (l.length : Int), ((m + 1 : Nat) : Int), c, c.1, c.2, seen', done', w')) ∧ OweI c l (m + 1) ex' seen' done' w' ∧ ex ≤ ex' := by
  obtain ⟨s0, k0, hs0, hk0, hs, hk⟩ := okR_nat hr
  have hc := valid_len hv
  have hg : ix l (m : Int) = ran l m := ix_nat _ _
  have hx := extraB_bd (l := l) hv m
  have hex := h.ex
  have f1 : fits .i64 (ex + 1) = true := fits_of (by omega) (by omega)
  have f3 := fits_nat (show m < 9223372036854775807 by omega)
  have hsn := h.sn (ran l m).2.2 (ran l m).2.1
  have f2 : fits .i64 (dof (kget seen [(ran l m).2.2, (ran l m).2.1]) 0 + 1) = true := fits_of (by omega) (by omega)
  cases hseen : seenB l m (ran l m).2.2 (ran l m).2.1 with
  | true =>
    have hd : decide ((1 : Int) < dof (kget seen [(ran l m).2.2, (ran l m).2.1]) 0 + 1) = true := by
      rw [hseen] at hsn
      simp only [decide_eq_true_eq]
      have : ¬ dof (kget seen [(ran l m).2.2, (ran l m).2.1]) 0 = 0 := fun h => by have := hsn.2.2.1 h; simp at this
      omega
    refine ⟨_, _, _, _, ?_, h.same hseen _ rfl, Int.le_refl _⟩
    simp only [p41_0, q41_0, lt_nat_t hm, cond_true, inR_nat hm, chk_t, hg, f2, dof_kput, if_true, hd, f3, cast_succ]
  | false =>
    have hz : dof (kget seen [(ran l m).2.2, (ran l m).2.1]) 0 = 0 := hsn.2.2.2 hseen
    have hd : decide ((1 : Int) < 0 + 1) = false := by decide
    have f2' : fits .i64 ((0 : Int) + 1) = true := by decide
    rw [hz] at f2
    have hn : seenB l m (s0 : Int) (k0 : Int) = false := by rw [← hs0, ← hk0]; exact hseen
    have hk0' : inR (ran l m).2.1 c.1.length = true := by rw [hk0]; exact inR_nat hk
    rcases P56v1_eq c (ran l m) (by omega) with ⟨i, hi, hspot, hP⟩ | ⟨hno, hP⟩
    · have hneg : decide ((i : Int) < 0) = false := by simp
      have hgp : ix c.2 (i : Int) = prm c i := ix_nat _ _
      have hgs : ix c.1 (k0 : Int) = shw c k0 := ix_nat _ _
      have hdn := h.dn i k0 hi hk
      rw [hspot, hs0, hn, Bool.and_false] at hdn
      have hdn0 : dof (kget done [(i : Int), (k0 : Int)]) 0 = 0 := hdn
      have h57 : P57 ((i : Int), (ran l m).2.1, c.1, c.2, done, w) = some (fitP (prm c i) (shw c k0), c.1, c.2, done, w) := by
        rw [P57_eq _ _ c done w (inR_nat hi) hk0', hk0, hgp, hgs, hdn0]; simp
      have huniq : ∀ i', i' < c.2.length → (prm c i').1 = (s0 : Int) → i' = i := fun i' hi' e => spot_inj hv hi' hi (by rw [e, hspot, hs0])
      have hsp : (prm c i).1 = (s0 : Int) := by rw [hspot, hs0]
      cases hfit : fitP (prm c i) (shw c k0) with
      | false =>
        refine ⟨ex + 1, kput seen [(s0 : Int), (k0 : Int)] 1, done, w, ?_, h.new hv hs0 hk0 hs hk hn h.wl (fun i' k' hi' hk' => ?_) ⟨0, 0, by omega, .inl rfl, fun i' _ => by simp, fun i' hi' e1 e2 => ?_, fun e => by simp at e⟩, by omega⟩
        · simp only [p41_0, q41_0, lt_nat_t hm, cond_true, inR_nat hm, chk_t, hg, hz, f2, dof_kput, if_true, hd, cond_false, hP, bind_some', hneg, h57, hfit, Bool.not_false, f1, f3, cast_succ]
          rw [hs0, hk0]; rfl
        · have : (decide ((prm c i').1 = (s0 : Int)) && (decide (k' = k0) && fitP (prm c i') (shw c k0))) = false := by
            by_cases e1 : (prm c i').1 = (s0 : Int)
            · rw [huniq i' hi' e1, hfit]; simp
            · simp [e1]
          rw [this]; simp [b01]
        · rw [huniq i' hi' e1, hfit] at e2; cases e2
      | true =>
        have hw : inR (i : Int) w.length = true := inR_nat (by rw [h.wl]; exact hi)
        have hd' : ∀ i' k' : Nat, i' < c.2.length → k' < c.1.length → dof (kget (kput done [(i : Int), (k0 : Int)] 1) [(i' : Int), (k' : Int)]) 0 = dof (kget done [(i' : Int), (k' : Int)]) 0 + b01 (decide ((prm c i').1 = (s0 : Int)) && (decide (k' = k0) && fitP (prm c i') (shw c k0))) := fun i' k' hi' hk' => by
          rw [dof_kput]
          by_cases hq : [(i' : Int), (k' : Int)] = [(i : Int), (k0 : Int)]
          · rw [if_pos hq]
            simp only [List.cons.injEq, and_true] at hq
            have e1 : i' = i := by omega
            have e2 : k' = k0 := by omega
            rw [e1, e2, hdn0, hsp, hfit]; simp [b01]
          · rw [if_neg hq]
            have : (decide ((prm c i').1 = (s0 : Int)) && (decide (k' = k0) && fitP (prm c i') (shw c k0))) = false := by
              by_cases e1 : (prm c i').1 = (s0 : Int)
              · have e2 := huniq i' hi' e1
                by_cases e3 : k' = k0
                · exfalso; apply hq; rw [e2, e3]
                · simp [e3]
              · simp [e1]
            rw [this]; simp [b01]
        have hwb := wantB_bd (l := l) hv m hi
        have ht := valid_times hv hi
        have hwa := h.wa i hi
        cases hw0 : decide (ix w (i : Int) = 0) with
        | true =>
          have hw0' := of_decide_eq_true hw0
          refine ⟨ex + 1, kput seen [(s0 : Int), (k0 : Int)] 1, kput done [(i : Int), (k0 : Int)] 1, w, ?_, h.new hv hs0 hk0 hs hk hn h.wl hd' ⟨0, 0, by omega, .inl rfl, fun i' _ => by simp, fun i' hi' e1 e2 => .inr ⟨rfl, by rw [huniq i' hi' e1]; exact hw0'⟩, fun e => by simp at e⟩, by omega⟩
          have f4 : fits .i64 (dof (kget done [(i : Int), (ran l m).2.1]) 0 + 1) = true := by rw [hk0, hdn0]; decide
          simp only [p41_0, q41_0, lt_nat_t hm, cond_true, inR_nat hm, chk_t, hg, hz, f2, dof_kput, if_true, hd, cond_false, hP, bind_some', hneg, h57, hfit, Bool.not_true, hw, hw0, f1, f3, f4, cast_succ]
          rw [hs0, hk0, hdn0]; rfl
        | false =>
          have hw0' := of_decide_eq_false hw0
          have f4 : fits .i64 (dof (kget done [(i : Int), (ran l m).2.1]) 0 + 1) = true := by rw [hk0, hdn0]; decide
          have f5 : fits .i64 (ix w (i : Int) - 1) = true := fits_of (by omega) (by omega)
          refine ⟨ex, kput seen [(s0 : Int), (k0 : Int)] 1, kput done [(i : Int), (k0 : Int)] 1, w.set i (ix w (i : Int) - 1), ?_, h.new hv hs0 hk0 hs hk hn (by simp [h.wl]) hd' ⟨i, 1, by omega, .inr ⟨rfl, hi⟩, fun i' hi' => ?_, fun i' hi' e1 e2 => .inl ⟨huniq i' hi' e1, rfl, ?_⟩, fun _ => ⟨hsp, hfit⟩⟩, Int.le_refl _⟩
          · simp only [p41_0, q41_0, lt_nat_t hm, cond_true, inR_nat hm, chk_t, hg, hz, f2, dof_kput, if_true, hd, cond_false, hP, bind_some', hneg, h57, hfit, Bool.not_true, hw, hw0, f1, f3, f4, f5, Int.toNat_natCast, cast_succ]
            rw [hs0, hk0, hdn0]; rfl
          · rw [ix_nat, getD_set _ _ _ _ _ (by rw [h.wl]; exact hi')]
            by_cases e : i' = i
            · rw [if_pos e, if_pos e, e]
            · rw [if_neg e, if_neg e, ix_nat]; omega
          · rw [huniq i' hi' e1]; omega
    · have hneg : decide ((-1 : Int) < 0) = true := by decide
      refine ⟨ex + 1, kput seen [(s0 : Int), (k0 : Int)] 1, done, w, ?_, h.new hv hs0 hk0 hs hk hn h.wl (fun i' k' hi' hk' => ?_) ⟨0, 0, by omega, .inl rfl, fun i' _ => by simp, fun i' hi' e1 e2 => absurd (by rw [hs0]; exact e1) (hno i' hi'), fun e => by simp at e⟩, by omega⟩
      · simp only [p41_0, q41_0, lt_nat_t hm, cond_true, inR_nat hm, chk_t, hg, hz, f2, dof_kput, if_true, hd, cond_false, hP, bind_some', hneg, f1, f3, cast_succ]
        rw [hs0, hk0]; rfl
      · have : decide ((prm c i').1 = (s0 : Int)) = false := by
          have := hno i' hi'
          rw [hs0] at this
          simp [this]
        rw [this]; simp [b01]

theorem P41_eq (hv : valid c = true) (hr : RepOk c.1.length l) : ∃ ex seen done w, P41 (c, l) = some (ex, c.1, c.2, done, w) ∧ OweI c l l.length ex seen done w := by
  have hc := valid_len hv
  obtain ⟨r, e, hQ⟩ := while_ex (step := fun x => p41_0 x.1 x.2.1 x.2.2.1 x.2.2.2.1 x.2.2.2.2.1 x.2.2.2.2.2.1 x.2.2.2.2.2.2.1 x.2.2.2.2.2.2.2.1 x.2.2.2.2.2.2.2.2.1 x.2.2.2.2.2.2.2.2.2) l.length
    (fun k x => ∃ ex seen done w, x = (ex, l, (l.length : Int), (k : Int), c, c.1, c.2, seen, done, w) ∧ OweI c l k ex seen done w)
    (fun r => ∃ ex seen done w, r = (ex, c, c.1, c.2, seen, done, w) ∧ OweI c l l.length ex seen done w)
    ((0 : Int), l, (l.length : Int), (0 : Int), c, c.1, c.2, [], [], times c) ⟨_, _, _, _, rfl, OweI.zero hv⟩
    (fun k x hk ⟨ex, seen, done, w, hx, hI⟩ => by
      subst hx
      obtain ⟨ex', seen', done', w', h1, h2, _⟩ := owe_step hv hk hr.len (hr.ok _ (ran_mem hk)) hI
      exact ⟨_, h1, ex', seen', done', w', rfl, h2⟩)
    (fun x ⟨ex, seen, done, w, hx, hI⟩ => by
      subst hx
      exact ⟨_, by simp only [p41_0, q41_0, lt_nat_f, cond_false], ex, seen, done, w, rfl, hI⟩) (by have := hr.len; omega)
  obtain ⟨ex, seen, done, w, rfl, hI⟩ := hQ
  refine ⟨ex, seen, done, w, ?_, hI⟩
  have e' : L41_0 ((0 : Int), l, (l.length : Int), (0 : Int), c, c.1, c.2, [], [], times c) = some (ex, c, c.1, c.2, seen, done, w) := e
  simp only [P41, p41, q41, P37_eq c (by omega), bind_some', e']
theorem owe_at (hv : valid c = true) (hr : RepOk c.1.length l) : ∀ m, m ≤ l.length → ∃ ex seen done w, OweI c l m ex seen done w
  | 0, _ => ⟨_, _, _, _, OweI.zero hv⟩
  | m + 1, hm => by
    obtain ⟨ex, seen, done, w, h⟩ := owe_at hv hr m (by omega)
    obtain ⟨ex', seen', done', w', _, h2, _⟩ := owe_step hv (show m < l.length by omega) hr.len (hr.ok _ (ran_mem (by omega))) h
    exact ⟨_, _, _, _, h2⟩
theorem extra_step (hv : valid c = true) (hr : RepOk c.1.length l) {m : Nat} (hm : m < l.length) : extraB c l m ≤ extraB c l (m + 1) := by
  obtain ⟨ex, seen, done, w, h⟩ := owe_at hv hr m (by omega)
  obtain ⟨ex', seen', done', w', _, h2, h3⟩ := owe_step hv hm hr.len (hr.ok _ (ran_mem hm)) h
  rw [← h.ex, ← h2.ex]; exact h3
theorem want_step (m i : Nat) : wantB c l (m + 1) i ≤ wantB c l m i ∧ wantB c l m i - 1 ≤ wantB c l (m + 1) i := by
  have h := sumN_one (f := fun k => b01 (fitP (prm c i) (shw c k) && seenB l m (prm c i).1 k)) (g := fun k => b01 (fitP (prm c i) (shw c k) && seenB l (m + 1) (prm c i).1 k)) (j := (ran l m).2.1.toNat)
    (fun k hk => by
      show b01 (fitP (prm c i) (shw c k) && seenB l (m + 1) (prm c i).1 k) = b01 (fitP (prm c i) (shw c k) && seenB l m (prm c i).1 k)
      rw [seenB_succ]
      have : decide ((ran l m).2.1 = (k : Int)) = false := by simp; omega
      rw [this, Bool.and_false, Bool.or_false])
    (by
      show b01 (fitP (prm c i) (shw c _) && seenB l m (prm c i).1 _) ≤ b01 (fitP (prm c i) (shw c _) && seenB l (m + 1) (prm c i).1 _) ∧ b01 (fitP (prm c i) (shw c _) && seenB l (m + 1) (prm c i).1 _) ≤ b01 (fitP (prm c i) (shw c _) && seenB l m (prm c i).1 _) + 1
      rw [seenB_succ]
      generalize fitP (prm c i) (shw c (ran l m).2.1.toNat) = a; generalize seenB l m (prm c i).1 ((ran l m).2.1.toNat : Nat) = b; generalize (decide ((ran l m).2.2 = (prm c i).1) && decide ((ran l m).2.1 = ((ran l m).2.1.toNat : Int))) = d
      cases a <;> cases b <;> cases d <;> decide)
    c.1.length
  have h1 : cntB c l m i ≤ cntB c l (m + 1) i := h.1
  have h2 : cntB c l (m + 1) i ≤ cntB c l m i + 1 := h.2.1
  unfold wantB; omega
end
end Go.Proofs.Ytjoncejabdjekaa.D
