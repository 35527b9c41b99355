/- NewHouse of the program returns what the reference's returns, for every two arguments: outside 2..24 seats both fail, the others are computed. No conditions (the card ties the library's table). -/
import Derived.Test.YtbohmfnjgjijdaaDoorQFnExactNewHousex
namespace Go.Proofs.YtbohmfnjgjijdaaDoor.Pure
open Go.RowKit Go.Proofs.YtbohmfnjgjijdaaDoor.QFnExactNewHouse Go.Proofs.YtbohmfnjgjijdaaDoorW.PrintWords Go.Proofs.YtbohmfnjgjijdaaDoorW.PrintLast Go.Proofs.YtbohmfnjgjijdaaDoorW.PrintMore
set_option linter.unusedVariables false
set_option linter.unusedSimpArgs false

/-! ### base -/
theorem wrap_id {x : Int} (h0 : -9223372036854775808 ≤ x) (h1 : x ≤ 9223372036854775807) : wrap64 x = x := by
  unfold wrap64
  omega
theorem wrap_one {i n : Nat} (h : i < n) (hn : n ≤ 4611686018427387904) : wrap64 ((i : Int) + 1) = ((i + 1 : Nat) : Int) := by
  unfold wrap64
  omega
theorem rd_nat (l : List Int) (i : Nat) : rd l (i : Int) = l.getD i 0 := by unfold rd; simp
theorem rd_get (l : List Int) (i : Nat) (h : i < l.length) : rd l (i : Int) = l[i] := by rw [rd_nat]; simp [List.getD, h]
theorem fuel {k d : Nat} (h : d < k) : ∃ m, k = m + 1 ∧ d ≤ m := ⟨k - 1, by omega, by omega⟩

/-! ### law_FnExactNewHouse -/
theorem FnExactNewHouse : laws_FnExactNewHouse.Pure := by
  intro a b _
  refine ⟨100, ?_⟩
  by_cases h : 2 ≤ a ∧ a ≤ 24
  · obtain ⟨n, rfl⟩ : ∃ n : Nat, a = n := ⟨a.toNat, by omega⟩
    have h1 : n - 2 < 23 := by omega
    have h2 : n = (n - 2) + 2 := by omega
    revert h1 h2
    generalize n - 2 = m
    intro h1 h2
    subst h2
    clear h
    revert m b
    decide +kernel
  · have e1 : ∀ k, spec_NewHouse.f (k + 1) a b = some (0, false, [], [], 0, false) := by
      intro k
      have o : spec_l12Own.f a b [] [] 0 = some (a, b, [], [], 0) := rfl
      have g : spec_l1In.f a 2 24 = some false := by
        unfold spec_l1In.f
        split
        · rw [show decide (a ≤ 24) = false from decide_eq_false (by omega)]
        · rfl
      unfold spec_NewHouse.f
      rw [o, Option.bind_some]
      dsimp only
      unfold spec_l12Good.f spec_l2Row.f
      rw [g]
      rfl
    have e2 : ∀ k, impl_NewHouse.f k a b = some (0, false, [], [], 0, false) := by
      intro k
      have g : impl_within.f a 2 24 = some false := by
        unfold impl_within.f
        split
        · rw [show decide (a ≤ 24) = false from decide_eq_false (by omega)]
        · rfl
      unfold impl_NewHouse.f impl_bench_valid.f
      rw [g]
      rfl
    unfold laws_FnExactNewHouse.f
    rw [e1, e2]
    show laws_FnExactNewHouse.j0 100 a b false false 0 false [] [] 0 0 false [] [] 0 = some true
    simp only [laws_FnExactNewHouse.j0]
    rw [e2]
    rfl

end Go.Proofs.YtbohmfnjgjijdaaDoor.Pure
