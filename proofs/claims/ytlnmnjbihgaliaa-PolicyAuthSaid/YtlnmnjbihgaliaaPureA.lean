import Derived.Test.YtlnmnjbihgaliaaPr13
set_option linter.unusedVariables false
set_option linter.unusedSimpArgs false
open Go.RowKit Go.Proofs.YtlnmnjbihgaliaaW.PrintWords
namespace Go.Proofs.Ytlnmnjbihgaliaa.Pr
theorem pureAuth : ambrylaw17_PolicyAuth.Pure := by
  intro a0 a1 hwf
  refine ⟨60, ?_⟩
  have h0 : 0 ≤ a0 ∧ a0 ≤ 255 := by have h : IntKind.u8.min ≤ a0 ∧ a0 ≤ IntKind.u8.max := (by simpa [Lit.wf] using hwf); exact h
  have hm : 0 ≤ Int.tmod a0 6 ∧ Int.tmod a0 6 < 6 := ⟨Int.tmod_nonneg _ h0.1, Int.tmod_lt_of_pos a0 (by omega)⟩
  have hc : Int.tmod a0 6 = 0 ∨ Int.tmod a0 6 = 1 ∨ Int.tmod a0 6 = 2 ∨ Int.tmod a0 6 = 3 ∨ Int.tmod a0 6 = 4 ∨ Int.tmod a0 6 = 5 := by omega
  unfold ambrylaw17_PolicyAuth.f
  rcases hc with h | h | h | h | h | h <;> rw [h] <;> cases a1 <;> decide +kernel
end Go.Proofs.Ytlnmnjbihgaliaa.Pr
