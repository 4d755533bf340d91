/- promise: what is owed after reports: it depends on which spots were shown in which showings, and on nothing else. -/
import Derived.Test.YtjoncejabdjekaaS7
set_option linter.unusedVariables false
set_option linter.unusedSimpArgs false
namespace Go.Proofs.Ytjoncejabdjekaa.D
open Go Go.Proofs Go.Proofs.Ytjoncejabdjekaa.L

theorem sumN_upd {f g : Nat → Int} {j : Nat} {d : Int} (h1 : ∀ k, k ≠ j → g k = f k) (h2 : g j = f j + d) : ∀ n, sumN n g = sumN n f + (if j < n then d else 0)
  | 0 => by simp [sumN, foldN]
  | n + 1 => by
    rw [sumN_succ, sumN_succ, sumN_upd h1 h2 n]
    by_cases e : n = j
    · subst e; rw [h2]; simp; omega
    · rw [h1 n e]
      by_cases hj : j < n
      · rw [if_pos hj, if_pos (by omega)]; omega
      · rw [if_neg hj, if_neg (by omega)]; omega

/-- Whether one of the first m reports tells of a spot in a showing. -/
def seenB (l : List Ran) (m : Nat) (s k : Int) : Bool := !(allB m fun j => !(decide ((ran l j).2.2 = s) && decide ((ran l j).2.1 = k)))
theorem seenB_iff {l : List Ran} {m : Nat} {s k : Int} : seenB l m s k = true ↔ ∃ j, j < m ∧ (ran l j).2.2 = s ∧ (ran l j).2.1 = k := by
  unfold seenB
  constructor
  · intro h
    cases ha : (allB m fun j => !(decide ((ran l j).2.2 = s) && decide ((ran l j).2.1 = k))) with
    | true => rw [ha] at h; cases h
    | false =>
      obtain ⟨j, hj, hf, _⟩ := allB_false ha
      simp at hf
      exact ⟨j, hj, hf⟩
  · rintro ⟨j, hj, h1, h2⟩
    cases ha : (allB m fun j => !(decide ((ran l j).2.2 = s) && decide ((ran l j).2.1 = k))) with
    | false => rfl
    | true => have := allB_true.1 ha j hj; simp [h1, h2] at this
theorem seenB_succ (l : List Ran) (m : Nat) (s k : Int) : seenB l (m + 1) s k = (seenB l m s k || (decide ((ran l m).2.2 = s) && decide ((ran l m).2.1 = k))) := by
  simp only [seenB, allB]
  cases (allB m fun j => !(decide ((ran l j).2.2 = s) && decide ((ran l j).2.1 = k))) <;> cases (decide ((ran l m).2.2 = s) && decide ((ran l m).2.1 = k)) <;> rfl

section
variable (c : Cmp) (l : List Ran)
def cntB (m i : Nat) : Int := sumN c.1.length fun k => b01 (fitP (prm c i) (shw c k) && seenB l m (prm c i).1 k)
def disB (m : Nat) : Int := sumN 100 fun s => sumN c.1.length fun k => b01 (seenB l m (s : Nat) k)
def wantB (m i : Nat) : Int := max 0 ((prm c i).2.1 - cntB c l m i)
def paidB (m : Nat) : Int := sumN c.2.length fun i => (prm c i).2.1 - wantB c l m i
def extraB (m : Nat) : Int := disB c l m - paidB c l m
structure OweI (m : Nat) (ex : Int) (seen done : DoneM) (w : List Int) : Prop where
  ex : ex = extraB c l m
  sn : ∀ s k : Int, 0 ≤ dof (kget seen [s, k]) 0 ∧ dof (kget seen [s, k]) 0 ≤ m ∧ (dof (kget seen [s, k]) 0 = 0 ↔ seenB l m s k = false)
  dn : ∀ i k : Nat, i < c.2.length → k < c.1.length → dof (kget done [(i : Int), (k : Int)]) 0 = b01 (fitP (prm c i) (shw c k) && seenB l m (prm c i).1 k)
  wl : w.length = c.2.length
  wa : ∀ i : Nat, i < c.2.length → ix w (i : Int) = wantB c l m i
end

section
variable {c : Cmp} {l : List Ran}
theorem cntB_bd (m i : Nat) : 0 ≤ cntB c l m i ∧ cntB c l m i ≤ c.1.length := by
  have := sumN_bd (f := fun k => b01 (fitP (prm c i) (shw c k) && seenB l m (prm c i).1 k)) (a := 0) (b := 1) (n := c.1.length) (fun _ _ => b01_bd _)
  unfold cntB; omega
theorem disB_bd (m : Nat) : 0 ≤ disB c l m ∧ disB c l m ≤ 100 * c.1.length := by
  have h := sumN_bd (f := fun s => sumN c.1.length fun k => b01 (seenB l m (s : Nat) k)) (a := 0) (b := c.1.length) (n := 100) (fun s _ => by
    have := sumN_bd (f := fun k => b01 (seenB l m (s : Nat) k)) (a := 0) (b := 1) (n := c.1.length) (fun _ _ => b01_bd _)
    omega)
  unfold disB; omega
theorem wantB_bd (hv : valid c = true) (m : Nat) {i : Nat} (hi : i < c.2.length) : 0 ≤ wantB c l m i ∧ wantB c l m i ≤ (prm c i).2.1 := by
  have h1 := valid_times hv hi
  have h2 := cntB_bd (c := c) (l := l) m i
  unfold wantB; omega
theorem paidB_bd (hv : valid c = true) (m : Nat) : 0 ≤ paidB c l m ∧ paidB c l m ≤ 48 := by
  have h := sumN_bd (f := fun i => (prm c i).2.1 - wantB c l m i) (a := 0) (b := 8) (n := c.2.length) (fun i hi => by
    have h1 := wantB_bd (l := l) hv m hi
    have h2 := valid_times hv hi
    show 0 ≤ (prm c i).2.1 - wantB c l m i ∧ (prm c i).2.1 - wantB c l m i ≤ 8
    omega)
  have := valid_len hv
  unfold paidB; omega
theorem extraB_bd (hv : valid c = true) (m : Nat) : -48 ≤ extraB c l m ∧ extraB c l m ≤ 800 := by
  have h1 := disB_bd (c := c) (l := l) m; have h2 := paidB_bd (l := l) hv m; have := valid_len hv
  unfold extraB; omega

/-- The promise of a spot. -/
theorem P56v1_eq (c : Cmp) (r : Ran) (h : c.2.length < 1000000) : (∃ i : Nat, i < c.2.length ∧ (prm c i).1 = r.2.2 ∧ P56v1 (c.2, r) = some (i : Int)) ∨ ((∀ i, i < c.2.length → (prm c i).1 ≠ r.2.2) ∧ P56v1 (c.2, r) = some (-1)) := by
  have hg : ∀ j : Nat, ix c.2 (j : Int) = prm c j := fun j => ix_nat _ _
  have h1 : ∀ k, k < c.2.length → p56v1_0 c.2 r (c.2.length : Int) (k : Int) = some (cond (!decide ((prm c k).1 = r.2.2)) (.inl (c.2, r, (c.2.length : Int), ((k + 1 : Nat) : Int))) (.inr (.inl (k : Int)))) := by
    intro k hk
    simp only [p56v1_0, q56v1_0, lt_nat_t hk, cond_true, inR_nat hk, chk_t, hg, P58, p58, q58, bind_some', fits_nat (show k < 9223372036854775807 by omega), cast_succ]
    cases decide ((prm c k).1 = r.2.2) <;> rfl
  have h2 : p56v1_0 c.2 r (c.2.length : Int) (c.2.length : Int) = some (.inr (.inr ())) := by
    simp only [p56v1_0, q56v1_0, lt_nat_f, cond_false]
  cases hn : (allB c.2.length fun k => !decide ((prm c k).1 = r.2.2)) with
  | true =>
    have : L56v1_0 (c.2, r, (c.2.length : Int), 0) = some (.inr ()) := while_run c.2.length (fun k => (c.2, r, (c.2.length : Int), (k : Int))) _ (fun k hk => by
      have := allB_true.1 hn k hk
      rw [h1 k hk, this]; rfl) h2 (by omega)
    refine .inr ⟨fun i hi => by have := allB_true.1 hn i hi; simpa using this, ?_⟩
    simp only [P56v1, p56v1, q56v1, this, bind_some', elim_inr]
  | false =>
    obtain ⟨k, hk, hf, ht⟩ := allB_false hn
    have : L56v1_0 (c.2, r, (c.2.length : Int), 0) = some (.inl (k : Int)) := while_run k (fun k => (c.2, r, (c.2.length : Int), (k : Int))) _ (fun i hi => by
      have := ht i hi
      rw [h1 i (by omega), this]; rfl) (by rw [h1 k hk, hf]; rfl) (by omega)
    refine .inl ⟨k, hk, by simpa using hf, ?_⟩
    simp only [P56v1, p56v1, q56v1, this, bind_some', elim_inl]
theorem spot_inj (hv : valid c = true) {i j : Nat} (hi : i < c.2.length) (hj : j < c.2.length) (e : (prm c i).1 = (prm c j).1) : i = j := by
  have key : ∀ {a b : Nat}, a < b → b < c.2.length → (prm c a).1 ≠ (prm c b).1 := fun {a b} h hb => by
    simp only [valid, Bool.and_eq_true, decide_eq_true_eq] at hv
    have := allB_true.1 hv.2.2.2 b hb
    simp only [Bool.and_eq_true] at this
    have h2 : (!decide ((prm c a).1 = (prm c b).1)) = true := allB_true.1 this.2 a h
    simpa using h2
  rcases Nat.lt_trichotomy i j with h | h | h
  · exact absurd e (key h hj)
  · exact h
  · exact absurd e.symm (key h hi)

/-- A spot that was shown there before. -/
theorem OweI.same {m : Nat} {ex : Int} {seen done : DoneM} {w : List Int} (h : OweI c l m ex seen done w) (hs : seenB l m (ran l m).2.2 (ran l m).2.1 = true) (v : Int) (hv : v = dof (kget seen [(ran l m).2.2, (ran l m).2.1]) 0 + 1) :
    OweI c l (m + 1) ex (kput seen [(ran l m).2.2, (ran l m).2.1] v) done w := by
  have e : ∀ s k, seenB l (m + 1) s k = seenB l m s k := fun s k => by
    rw [seenB_succ]
    cases hd : (decide ((ran l m).2.2 = s) && decide ((ran l m).2.1 = k)) with
    | false => simp
    | true =>
      simp only [Bool.and_eq_true, decide_eq_true_eq] at hd
      rw [← hd.1, ← hd.2, hs]; rfl
  have e1 : ∀ i, cntB c l (m + 1) i = cntB c l m i := fun i => by simp only [cntB, e]
  have e2 : disB c l (m + 1) = disB c l m := by simp only [disB, e]
  have e3 : ∀ i, wantB c l (m + 1) i = wantB c l m i := fun i => by simp only [wantB, e1]
  refine ⟨by rw [h.ex]; simp only [extraB, paidB, e2, e3], fun s k => ?_, fun i k hi hk => by rw [e]; exact h.dn i k hi hk, h.wl, fun i hi => by rw [e3]; exact h.wa i hi⟩
  have h1 := h.sn s k
  have h2 := h.sn (ran l m).2.2 (ran l m).2.1
  rw [dof_kput, e]
  by_cases hq : [s, k] = [(ran l m).2.2, (ran l m).2.1]
  · rw [if_pos hq]
    simp only [List.cons.injEq, and_true] at hq
    rw [hq.1, hq.2, hs]
    refine ⟨by omega, by omega, by simp; omega⟩
  · rw [if_neg hq]; exact ⟨h1.1, by omega, h1.2.2⟩

/-- A spot that was not shown there before. -/
theorem OweI.new {m : Nat} {ex : Int} {seen done : DoneM} {w : List Int} (hv : valid c = true) (h : OweI c l m ex seen done w) {s0 k0 : Nat} (hs0 : (ran l m).2.2 = (s0 : Int)) (hk0 : (ran l m).2.1 = (k0 : Int)) (hs : s0 < 100) (hk : k0 < c.1.length)
    (hn : seenB l m s0 k0 = false) {ex' : Int} {done' : DoneM} {w' : List Int} (hw : w'.length = c.2.length)
    (hd : ∀ i k : Nat, i < c.2.length → k < c.1.length → dof (kget done' [(i : Int), (k : Int)]) 0 = dof (kget done [(i : Int), (k : Int)]) 0 + b01 (decide ((prm c i).1 = s0) && (decide (k = k0) && fitP (prm c i) (shw c k0))))
    (hx : ∃ j d, ex' = ex + 1 - d ∧ (d = 0 ∨ (d = 1 ∧ j < c.2.length)) ∧ (∀ i, i < c.2.length → ix w' (i : Int) = ix w (i : Int) - (if i = j then d else 0)) ∧
      (∀ i, i < c.2.length → (prm c i).1 = s0 → fitP (prm c i) (shw c k0) = true → (i = j ∧ d = 1 ∧ 0 < ix w (i : Int)) ∨ (d = 0 ∧ ix w (i : Int) = 0)) ∧ (d = 1 → (prm c j).1 = s0 ∧ fitP (prm c j) (shw c k0) = true)) :
    OweI c l (m + 1) ex' (kput seen [(s0 : Int), (k0 : Int)] 1) done' w' := by
  obtain ⟨j, d, hx1, hx2, hx3, hx4, hx5⟩ := hx
  have e : ∀ s k : Int, seenB l (m + 1) s k = (seenB l m s k || (decide ((s0 : Int) = s) && decide ((k0 : Int) = k))) := fun s k => by rw [seenB_succ, hs0, hk0]
  have e1 : ∀ i, i < c.2.length → cntB c l (m + 1) i = cntB c l m i + b01 (decide ((prm c i).1 = s0) && fitP (prm c i) (shw c k0)) := fun i hi => by
    have h1 := sumN_upd (f := fun k => b01 (fitP (prm c i) (shw c k) && seenB l m (prm c i).1 k)) (g := fun k => b01 (fitP (prm c i) (shw c k) && seenB l (m + 1) (prm c i).1 k)) (j := k0) (d := b01 (decide ((prm c i).1 = s0) && fitP (prm c i) (shw c k0)))
      (fun k hk => by
        have : decide ((k0 : Int) = (k : Int)) = false := by simp; omega
        simp only [e, this, Bool.and_false, Bool.or_false])
      (by
        by_cases hi2 : (prm c i).1 = s0
        · simp only [e, hi2, hn]
          simp [b01]
        · have : decide ((s0 : Int) = (prm c i).1) = false := by simp; exact fun h => hi2 h.symm
          simp [e, this, hi2, b01])
      c.1.length
    rw [if_pos hk] at h1
    exact h1
  have e2 : disB c l (m + 1) = disB c l m + 1 := by
    have h1 := sumN_upd (f := fun s => sumN c.1.length fun k => b01 (seenB l m (s : Nat) k)) (g := fun s => sumN c.1.length fun k => b01 (seenB l (m + 1) (s : Nat) k)) (j := s0) (d := 1)
      (fun s hs => by
        have : decide ((s0 : Int) = (s : Int)) = false := by simp; omega
        simp only [e, this, Bool.false_and, Bool.or_false])
      (by
        have h2 := sumN_upd (f := fun k => b01 (seenB l m (s0 : Nat) k)) (g := fun k => b01 (seenB l (m + 1) (s0 : Nat) k)) (j := k0) (d := 1)
          (fun k hk => by
            have : decide ((k0 : Int) = (k : Int)) = false := by simp; omega
            simp only [e, this, Bool.and_false, Bool.or_false])
          (by simp [e, hn, b01])
          c.1.length
        rw [if_pos hk] at h2
        exact h2)
      100
    rw [if_pos hs] at h1
    exact h1
  have e3 : ∀ i, i < c.2.length → wantB c l (m + 1) i = wantB c l m i - (if i = j then d else 0) := fun i hi => by
    have h1 := h.wa i hi
    have h2 := wantB_bd (l := l) hv m hi
    unfold wantB at h1 h2 ⊢
    rw [e1 i hi]
    cases hb : (decide ((prm c i).1 = s0) && fitP (prm c i) (shw c k0)) with
    | false =>
      have : (if i = j then d else 0) = 0 := by
        by_cases hij : i = j
        · rw [if_pos hij]
          rcases hx2 with h3 | ⟨h3, _⟩
          · exact h3
          · exfalso
            have := hx5 h3
            rw [← hij] at this
            simp [this.1, this.2] at hb
        · rw [if_neg hij]
      rw [this]; simp [b01]
    | true =>
      simp only [Bool.and_eq_true, decide_eq_true_eq] at hb
      have hb1 : b01 true = 1 := rfl
      rw [hb1]
      rcases hx4 i hi hb.1 hb.2 with ⟨h3, h4, h5⟩ | ⟨h4, h5⟩
      · rw [if_pos h3, h4]; omega
      · have : (if i = j then d else 0) = 0 := by rw [h4]; simp
        rw [this]; omega
  have e4 : paidB c l (m + 1) = paidB c l m + d := by
    rcases hx2 with h3 | ⟨h3, h4⟩
    · rw [h3, Int.add_zero]
      refine sumN_congr fun i hi => ?_
      rw [e3 i hi, h3]; simp
    · have h5 : paidB c l (m + 1) = sumN c.2.length fun i => ((prm c i).2.1 - wantB c l m i) + (if i = j then d else 0) := sumN_congr fun i hi => by rw [e3 i hi]; omega
      have h6 := sumN_upd (f := fun i => (prm c i).2.1 - wantB c l m i) (g := fun i => ((prm c i).2.1 - wantB c l m i) + (if i = j then d else 0)) (j := j) (d := d) (fun k hk => by simp [hk]) (by simp) c.2.length
      rw [if_pos h4] at h6
      rw [h5, h6]; rfl
  refine ⟨by rw [hx1, h.ex]; unfold extraB; rw [e2, e4]; omega, fun s k => ?_, fun i k hi hk2 => ?_, hw, fun i hi => by rw [hx3 i hi, e3 i hi, h.wa i hi]⟩
  · have h1 := h.sn s k
    rw [dof_kput, e]
    by_cases hq : [s, k] = [(s0 : Int), (k0 : Int)]
    · rw [if_pos hq]
      simp only [List.cons.injEq, and_true] at hq
      rw [hq.1, hq.2]
      refine ⟨by omega, by omega, by simp⟩
    · rw [if_neg hq]
      have : (decide ((s0 : Int) = s) && decide ((k0 : Int) = k)) = false := by
        cases hh : (decide ((s0 : Int) = s) && decide ((k0 : Int) = k)) with
        | false => rfl
        | true => simp only [Bool.and_eq_true, decide_eq_true_eq] at hh; exact absurd (by rw [hh.1, hh.2]) hq
      rw [this, Bool.or_false]
      exact ⟨h1.1, by omega, h1.2.2⟩
  · rw [hd i k hi hk2, h.dn i k hi hk2, e]
    by_cases h1 : (prm c i).1 = s0
    · by_cases h2 : k = k0
      · subst h2
        rw [h1, hn]; simp [b01]
      · have : decide ((k0 : Int) = (k : Int)) = false := by simp; omega
        simp [this, h2, b01]
    · have : decide ((s0 : Int) = (prm c i).1) = false := by simp; exact fun h => h1 h.symm
      simp [this, h1, b01]
end
end Go.Proofs.Ytjoncejabdjekaa.D
