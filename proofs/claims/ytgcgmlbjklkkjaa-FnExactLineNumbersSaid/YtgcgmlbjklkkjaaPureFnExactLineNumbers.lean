/- LineNumbers of the program returns what the reference's returns, for every number: for the two games both are computed, for others both fail. No conditions. -/
import Derived.Test.YtgcgmlbjklkkjaaQFnExactLineNumbersx
namespace Go.Proofs.Ytgcgmlbjklkkjaa.Pure
open Go.RowKit Go.Proofs.Ytgcgmlbjklkkjaa.QFnExactLineNumbers Go.Proofs.YtgcgmlbjklkkjaaW.PrintWords Go.Proofs.YtgcgmlbjklkkjaaW.PrintLast Go.Proofs.YtgcgmlbjklkkjaaW.PrintMore
set_option linter.unusedVariables false
set_option linter.unusedSimpArgs false

/-! ### law_FnExactLineNumbers -/
theorem FnExactLineNumbers : laws_FnExactLineNumbers.Pure := by
  intro a _
  refine ⟨3000, ?_⟩
  by_cases h1 : a = 1
  · subst h1
    decide +kernel
  · by_cases h2 : a = 2
    · subst h2
      decide +kernel
    · have e1 : ∀ k, spec_LineNumbers.f k a = some ([], false) := by
        intro k
        unfold spec_LineNumbers.f spec_l11Game.f
        rw [if_neg h1, show (a == 2) = false from beq_eq_false_iff_ne.2 h2]
        rfl
      have e2 : ∀ k, impl_LineNumbers.f k a = some ([], false) := by
        intro k
        unfold impl_LineNumbers.f impl_within.f
        split
        · have : decide (a ≤ 2) = false := by simp; omega
          rw [this]; rfl
        · rfl
      unfold laws_FnExactLineNumbers.f
      rw [e1, e2]
      show laws_FnExactLineNumbers.j0 3000 a [] false [] false = some true
      unfold laws_FnExactLineNumbers.j0
      show ((impl_LineNumbers.f 2999 a).bind _) = _
      rw [e2]
      rfl

end Go.Proofs.Ytgcgmlbjklkkjaa.Pure
