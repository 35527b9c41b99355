/- ChangeCounts of the program returns what the reference's returns, for every number: outside 1..10 both fail, and the ten others are computed. No conditions. -/
import Derived.Test.YtmcgamhipilbpaaPFnExactChangeCountsx2
namespace Go.Proofs.Ytmcgamhipilbpaa.Pure
open Go.RowKit Go.Proofs.Ytmcgamhipilbpaa.PFnExactChangeCounts Go.Proofs.YtmcgamhipilbpaaW.PrintWords Go.Proofs.YtmcgamhipilbpaaW.PrintLast

theorem FnExactChangeCounts : laws_FnExactChangeCounts.Pure := by
  intro a _
  refine ⟨300, ?_⟩
  by_cases h : 1 ≤ a ∧ a ≤ 10
  · obtain ⟨n, rfl⟩ : ∃ n : Nat, a = n := ⟨a.toNat, by omega⟩
    have h1 : n - 1 < 10 := by omega
    have h2 : n = (n - 1) + 1 := by omega
    revert h1 h2
    generalize n - 1 = m
    intro h1 h2
    subst h2
    clear h
    revert m
    decide +kernel
  · have e1 : ∀ k, spec_ChangeCounts.f k a = some ([], false) := by
      intro k
      unfold spec_ChangeCounts.f spec_l1In.f
      split
      · have : decide (a ≤ 10) = false := by simp; omega
        rw [this]; rfl
      · rfl
    have e2 : ∀ k, impl_ChangeCounts.f k a = some ([], false) := by
      intro k
      unfold impl_ChangeCounts.f impl_isPeople.f impl_within.f
      split
      · have : decide (a ≤ 10) = false := by simp; omega
        rw [this]; rfl
      · rfl
    unfold laws_FnExactChangeCounts.f
    rw [e1, e2]
    show laws_FnExactChangeCounts.j0 300 a [] false [] false = some true
    unfold laws_FnExactChangeCounts.j0
    show ((impl_ChangeCounts.f 299 a).bind _) = _
    rw [e2]
    rfl

end Go.Proofs.Ytmcgamhipilbpaa.Pure
