/- Abstract code as a function over typed values, part 11: rounds. -/
import Derived.Test.YtjoncejabdjekaaD10
set_option linter.unusedVariables false
set_option linter.unusedSimpArgs false
namespace Go.Proofs.Ytjoncejabdjekaa.D
open Go Go.Proofs.Ytjoncejabdjekaa.L

theorem DC_eq {P : Program} {f : FuncId} {sh : FSh} {F F' : dens sh.ts → Option (dens sh.out.ts)} (h : F = F') (k : DC P f sh F) : DC P f sh F' := h ▸ k
theorem DTbl_cons' {P : Program} {f : FuncId} {sh : FSh} {F : dens sh.ts → Option (dens sh.out.ts)} {T : List FEnt} (h : DC P f sh F) (hv : (!sh.bw || vokB sh) = true) (hT : DTblOK P T) : DTblOK P (⟨f, sh, F⟩ :: T) := DTbl_cons (ent := ⟨f, sh, F⟩) h hv hT
theorem goF_eq {σ ρ : Type} {step : σ → Option (σ ⊕ ρ)} (I : σ → Prop) (μ : σ → Nat) (g : σ → ρ) (h : ∀ x, I x → step x = some (.inr (g x)) ∨ ∃ y, step x = some (.inl y) ∧ I y ∧ μ y < μ x ∧ g y = g x) :
    ∀ (n : Nat) (x : σ), I x → μ x < n → goF step n x = some (g x)
  | 0, x, hx, hn => by omega
  | n + 1, x, hx, hn => by
    rcases h x hx with h1 | ⟨y, h1, h2, h3, h4⟩
    · simp only [goF, h1]
    · simp only [goF, h1]
      rw [goF_eq I μ g h n y h2 (by omega), h4]
/-- A loop: what it comes to, told of every state that it can be in. -/
theorem whileF_eq {σ ρ : Type} {step : σ → Option (σ ⊕ ρ)} (I : σ → Prop) (μ : σ → Nat) (g : σ → ρ) (h : ∀ x, I x → step x = some (.inr (g x)) ∨ ∃ y, step x = some (.inl y) ∧ I y ∧ μ y < μ x ∧ g y = g x)
    (x : σ) (hx : I x) (hn : μ x < 18446744073709551616) : whileF step x = some (g x) := goF_eq I μ g h _ x hx hn
end Go.Proofs.Ytjoncejabdjekaa.D
