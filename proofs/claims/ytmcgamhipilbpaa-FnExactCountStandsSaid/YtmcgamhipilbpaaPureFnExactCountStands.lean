/- CountStands of the program returns what the reference's returns, for every number: outside 1..10 both fail, and the ten others are computed. No conditions. -/
import Derived.Test.YtmcgamhipilbpaaPFnExactCountStandsx2
namespace Go.Proofs.Ytmcgamhipilbpaa.Pure
open Go.RowKit Go.Proofs.Ytmcgamhipilbpaa.PFnExactCountStands Go.Proofs.YtmcgamhipilbpaaW.PrintWords Go.Proofs.YtmcgamhipilbpaaW.PrintLast

theorem FnExactCountStands : laws_FnExactCountStands.Pure := by
  intro a _
  refine ⟨3000, ?_⟩
  by_cases h : 1 ≤ a ∧ a ≤ 10
  · obtain ⟨n, rfl⟩ : ∃ n : Nat, a = n := ⟨a.toNat, by omega⟩
    have h1 : n - 1 < 10 := by omega
    have h2 : n = (n - 1) + 1 := by omega
    revert h1 h2
    generalize n - 1 = m
    intro h1 h2
    subst h2
    clear h
    revert m
    decide +kernel
  · have e1 : ∀ k, spec_CountStands.f k a = some ([], false) := by
      intro k
      unfold spec_CountStands.f spec_l1In.f
      split
      · have : decide (a ≤ 10) = false := by simp; omega
        rw [this]; rfl
      · rfl
    have e2 : ∀ k, impl_CountStands.f k a = some ([], false) := by
      intro k
      unfold impl_CountStands.f impl_isPeople.f impl_within.f
      split
      · have : decide (a ≤ 10) = false := by simp; omega
        rw [this]; rfl
      · rfl
    unfold laws_FnExactCountStands.f
    rw [e1, e2]
    show laws_FnExactCountStands.j0 3000 a [] false [] false = some true
    unfold laws_FnExactCountStands.j0
    show ((impl_CountStands.f 2999 a).bind _) = _
    rw [e2]
    rfl

end Go.Proofs.Ytmcgamhipilbpaa.Pure
