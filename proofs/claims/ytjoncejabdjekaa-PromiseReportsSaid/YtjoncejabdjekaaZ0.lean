/- Typed functions: what loops and checks come to. -/
import Derived.Test.YtjoncejabdjekaaD11
set_option linter.unusedVariables false
set_option linter.unusedSimpArgs false
namespace Go.Proofs.Ytjoncejabdjekaa.D
open Go Go.Proofs.Ytjoncejabdjekaa.L

theorem goF_run {σ ρ : Type} {step : σ → Option (σ ⊕ ρ)} (s : Nat → σ) (r : ρ) : ∀ (n k m : Nat), (∀ i, k ≤ i → i < k + n → step (s i) = some (.inl (s (i + 1)))) → step (s (k + n)) = some (.inr r) → n < m → goF step m (s k) = some r
  | n, k, 0, _, _, hm => by omega
  | 0, k, m + 1, _, h2, hm => by
    have h2' : step (s k) = some (.inr r) := h2
    simp only [goF, h2']
  | n + 1, k, m + 1, h1, h2, hm => by
    simp only [goF, h1 k (Nat.le_refl _) (by omega)]
    exact goF_run s r n (k + 1) m (fun i h3 h4 => h1 i (by omega) (by omega)) (by rwa [Nat.add_right_comm, Nat.add_assoc]) (by omega)
/-- A loop's rounds, written down. -/
theorem while_run {σ ρ : Type} {step : σ → Option (σ ⊕ ρ)} (n : Nat) (s : Nat → σ) (r : ρ) (h1 : ∀ i, i < n → step (s i) = some (.inl (s (i + 1)))) (h2 : step (s n) = some (.inr r)) (hn : n < 18446744073709551616) : whileF step (s 0) = some r :=
  goF_run s r n 0 _ (fun i _ h => h1 i (by omega)) (by rwa [Nat.zero_add]) hn

/-- All numbers below n. -/
def allB : Nat → (Nat → Bool) → Bool
  | 0, _ => true
  | n + 1, f => allB n f && f n
theorem allB_true {f : Nat → Bool} : ∀ {n : Nat}, allB n f = true ↔ ∀ k, k < n → f k = true
  | 0 => by simp [allB]
  | n + 1 => by
    simp only [allB, Bool.and_eq_true, allB_true]
    constructor
    · rintro ⟨h1, h2⟩ k hk
      by_cases h : k = n
      · rw [h]; exact h2
      · exact h1 k (by omega)
    · intro h; exact ⟨fun k hk => h k (by omega), h n (by omega)⟩
theorem allB_false {f : Nat → Bool} : ∀ {n : Nat}, allB n f = false → ∃ k, k < n ∧ f k = false ∧ ∀ i, i < k → f i = true
  | 0, h => by simp [allB] at h
  | n + 1, h => by
    cases hn : allB n f with
    | false => obtain ⟨k, h1, h2⟩ := allB_false hn; exact ⟨k, by omega, h2⟩
    | true => simp only [allB, hn, Bool.true_and] at h; exact ⟨n, by omega, h, fun i hi => allB_true.1 hn i hi⟩
theorem allB_congr {f g : Nat → Bool} : ∀ {n : Nat}, (∀ k, k < n → f k = g k) → allB n f = allB n g
  | 0, _ => rfl
  | n + 1, h => by simp only [allB]; rw [allB_congr (fun k hk => h k (by omega)), h n (by omega)]
/-- A loop that ends early at the first number that does not fit. -/
theorem while_all {σ ρ : Type} {step : σ → Option (σ ⊕ ρ)} (n : Nat) (s : Nat → σ) (ok : Nat → Bool) (bad fin : ρ) (h1 : ∀ k, k < n → step (s k) = some (cond (ok k) (.inl (s (k + 1))) (.inr bad)))
    (h2 : step (s n) = some (.inr fin)) (hn : n < 18446744073709551616) : whileF step (s 0) = some (cond (allB n ok) fin bad) := by
  cases h : allB n ok with
  | true => exact while_run n s fin (fun i hi => by rw [h1 i hi, allB_true.1 h i hi]; rfl) h2 hn
  | false =>
    obtain ⟨k, hk, hf, ht⟩ := allB_false h
    exact while_run k s bad (fun i hi => by rw [h1 i (by omega), ht i hi]; rfl) (by rw [h1 k hk, hf]; rfl) (by omega)
/-- As while_all; a round may need that the rounds before it did not end. -/
theorem while_all' {σ ρ : Type} {step : σ → Option (σ ⊕ ρ)} (n : Nat) (s : Nat → σ) (ok : Nat → Bool) (bad fin : ρ) (h1 : ∀ k, k < n → (∀ i, i < k → ok i = true) → step (s k) = some (cond (ok k) (.inl (s (k + 1))) (.inr bad)))
    (h2 : allB n ok = true → step (s n) = some (.inr fin)) (hn : n < 18446744073709551616) : whileF step (s 0) = some (cond (allB n ok) fin bad) := by
  cases h : allB n ok with
  | true => exact while_run n s fin (fun i hi => by rw [h1 i hi fun j hj => allB_true.1 h j (by omega), allB_true.1 h i hi]; rfl) (h2 h) hn
  | false =>
    obtain ⟨k, hk, hf, ht⟩ := allB_false h
    exact while_run k s bad (fun i hi => by rw [h1 i (by omega) fun j hj => ht j (by omega), ht i hi]; rfl) (by rw [h1 k hk ht, hf]; rfl) (by omega)
/-- The first number that fits, or n. -/
def firstB : Nat → (Nat → Bool) → Nat
  | 0, _ => 0
  | n + 1, f => bif Nat.blt (firstB n f) n then firstB n f else bif f n then n else n + 1
/-- Rounds of a sum. -/
def foldN {β : Type} (f : Nat → β → β) : Nat → β → β
  | 0, b => b
  | n + 1, b => f n (foldN f n b)

/-! ### Small words -/
theorem inR_nat {k n : Nat} (h : k < n) : inR (k : Int) n = true := by simp [inR]; omega
theorem inR_iff {i : Int} {n : Nat} : inR i n = true ↔ 0 ≤ i ∧ i < n := by simp [inR]
theorem inR_of {i : Int} {n : Nat} (h : 0 ≤ i) (h' : i < n) : inR i n = true := inR_iff.2 ⟨h, h'⟩
theorem fits_iff {n : Int} : fits .i64 n = true ↔ -9223372036854775808 ≤ n ∧ n ≤ 9223372036854775807 := by
  rw [fits, decide_eq_true_eq]
  have e1 : (2 : Int) ^ (64 - 1) = 9223372036854775808 := by decide
  have e2 : (2 : Int) ^ 64 = 18446744073709551616 := by decide
  simp only [IntKind.wrap, IntKind.bits, IntKind.signed, Bool.true_and, decide_eq_true_eq, e1, e2]
  constructor
  · intro h; rw [← h]; split <;> omega
  · rintro ⟨h1, h2⟩; split <;> omega
theorem fits_of {n : Int} (h : -9223372036854775808 ≤ n) (h' : n ≤ 9223372036854775807) : fits .i64 n = true := fits_iff.2 ⟨h, h'⟩
theorem fits_nat {k : Nat} (h : k < 9223372036854775807) : fits .i64 ((k : Int) + 1) = true := fits_of (by omega) (by omega)
theorem capOk_of {b n : Nat} (h : b * n ≤ 140737488355328) : capOk b n = true := by simp [capOk, h]
theorem chk_t {α : Type} {k : Option α} : chk true k = k := rfl
theorem chk_of {α : Type} {b : Bool} {k : Option α} (h : b = true) : chk b k = k := by rw [h]; rfl
theorem ix_nat {α : Type} [Inhabited α] (l : List α) (k : Nat) : ix l (k : Int) = l.getD k default := by simp [ix]
theorem wf64 {n : Int} (h : (Lit.int .i64 n).wf = true) : -9223372036854775808 ≤ n ∧ n ≤ 9223372036854775807 := by
  simp [Lit.wf, IntKind.min, IntKind.max, IntKind.signed, IntKind.bits] at h; omega
theorem cast_succ (k : Nat) : ((k + 1 : Nat) : Int) = (k : Int) + 1 := by omega
theorem lt_nat (k n : Nat) : decide ((k : Int) < (n : Int)) = decide (k < n) := by simp
theorem lt_nat_t {k n : Nat} (h : k < n) : decide ((k : Int) < (n : Int)) = true := by simp [h]
theorem lt_nat_f (n : Nat) : decide ((n : Int) < (n : Int)) = false := by simp
theorem bind_some' {α β : Type} (a : α) (f : α → Option β) : (some a).bind f = f a := rfl
theorem elim_inl {α β γ : Type} (f : α → γ) (g : β → γ) (a : α) : Sum.elim f g (Sum.inl a) = f a := rfl
theorem elim_inr {α β γ : Type} (f : α → γ) (g : β → γ) (a : β) : Sum.elim f g (Sum.inr a) = g a := rfl
theorem bind_cond {α β : Type} (c : Bool) (a b : α) (f : α → Option β) : (some (cond c a b)).bind f = cond c (f a) (f b) := by cases c <;> rfl
theorem not_decide_eq {α : Type} [DecidableEq α] (a : α) : (!decide (a = a)) = false := by simp
/-- Within two numbers. -/
def wi (x a b : Int) : Bool := decide (a ≤ x) && decide (x ≤ b)
theorem wi_iff {x a b : Int} : wi x a b = true ↔ a ≤ x ∧ x ≤ b := by simp [wi]
theorem wi_cond (x a b : Int) : (cond (decide (a ≤ x)) (some (decide (x ≤ b))) (some false)) = some (wi x a b) := by
  unfold wi; cases decide (a ≤ x) <;> rfl
end Go.Proofs.Ytjoncejabdjekaa.D
