-- The given statement out of the pure one, for a law with a struct among its parameters. Written by rowlaw.py, a program of this session.
import Derived.Test.YtgcgmlbjklkkjaaRows
import Derived.Test.YtgcgmlbjklkkjaaPureFnExactReverseWon
import Derived.WalkKit
import Derived.ProofKit
import Derived.OpenShut
import Derived.ShutString
import Derived.ChangeOld
import Derived.Below
import Derived.SizedLaws
import Derived.Lib.SmallJoins
import Derived.Test.YtgcgmlbjklkkjaaWSized
namespace Go.Proofs.Ytgcgmlbjklkkjaa.fnExactReverseWon
open Go.ChangeShapes Go.WideShapes Go.ChangeAt Go.RowKit Go.Proofs.Ytgcgmlbjklkkjaa.QFnExactReverseWon Go.Proofs.YtgcgmlbjklkkjaaW.PrintWords Go.Proofs.YtgcgmlbjklkkjaaW.PrintLast
open Go.ChangeMaps (open_string shut_string)
set_option linter.unusedVariables false
theorem own : ownKnob Try.prog.godebug = none := by kernel_rfl
theorem laidOut : laidOutB Try.prog = true := by kernel_rfl
set_option maxRecDepth 100000 in
theorem lifted (os : Os) (started : os.Started) (H : Type) (enc : TypeId × Value → H) :
    ReturnsInHanded {} Try.checked os 6 .any (Rows.fnExactReverseWonSpec.pre6 enc Try.prog Try.f6 Rows.fnExactReverseWonRow.domain false) (Rows.fnExactReverseWonSpec.post enc Try.prog Try.f6 false true false false) := by
  refine returnsInHanded_of_change_sized (C := Try.checked) own started (by kernel_rfl) Try.func6
    (ChangeSpec.witness6 (enc := enc) (C := Try.checked) false ⟨#[], #[.agg #[.int .i64 0, .bool false, .slice none 0 0], .int .i64 0], []⟩ 8 (by kernel_rfl) (by kernel_rfl) (by kernel_rfl) (by kernel_rfl)) ?_
  intro W base args ds gs before hval0 hW hcnd hsz0 _
  have hsz : (DataW.weightsEach Try.prog (Try.f6.params.toList ++ Rows.fnExactReverseWonSpec.plain.varTypes Try.prog) (ds ++ gs)).all (· ≤ reachBytes) = true := hsz0
  have hval : ∀ (j : Nat) t v, Try.f6.params[j]? = some t → args[j]? = some v → Value.okWide Try.prog W .any base t v := hval0
  have hW' := hW
  obtain ⟨p, q, hA0, hV, rfl, hfz, hnd⟩ := hW
  have hA : DataW.TrodAll enc Try.prog W 0 (fun _ => true) true Try.f6.params.toList args.toList ds p := hA0
  rw [Try.params6] at hA hval hsz
  obtain ⟨v0, vs0, d0, ds0, p0, q0, hargs, rfl, rfl, h0, r0⟩ := trodAll_cons hA
  obtain ⟨v1, vs1, d1, ds1, p1, q1, rfl, rfl, rfl, h1, r1⟩ := trodAll_cons r0
  obtain ⟨rfl, rfl, rfl⟩ := trodAll_nil r1
  obtain rfl : args = #[v0, v1] := by cases args; simp_all
  obtain ⟨rfl, rfl⟩ := trodVars_none hV
  have k0 := h0
  have lt0 : ∀ x ∈ p0, x.block < W.heap.size := by obtain ⟨m, hm⟩ := k0; exact DataW.trod_lt m _ _ _ hm
  obtain ⟨v0_0, v0_1, v0_2, y0_0, y0_1, y0_2, n0, rfl, hd0, hp0, t0_0, t0_1, t0_2⟩ := Go.Joins.open_agg3 Try.underlying29 (by kernel_rfl) (by kernel_rfl) (hval 0 29 v0 rfl rfl) h0
  obtain ⟨a0_0, hba0_0, _, hwa0_0⟩ := DataW.trod_int Try.underlying3 t0_0
  obtain rfl : v0_0 = .int .i64 a0_0 := by simpa using hba0_0
  clear hba0_0
  obtain ⟨a0_1, hba0_1, _⟩ := DataW.trod_bool Try.underlying4 t0_1
  obtain rfl : v0_1 = .bool a0_1 := by simpa using hba0_1
  clear hba0_1
  obtain ⟨Aa0_2, Ca0_2, a0_2, sla0_2, hra0_2, hca0_2, hma0_2, hwa0_2⟩ : ∃ (A : Option Addr) (c : Nat) (l : List Int), v0_2 = .slice A l.length c ∧ Kd.C (Kd.int .i64) W A l.length l ∧ l.length ≤ c ∧ l.length ≤ maxLen ∧ ∀ x ∈ l, (Lit.int .i64 x).wf = true := by
    rcases open_ints Try.underlying22 Try.underlying3 (by kernel_rfl) t0_2 with ⟨hcs, _⟩ | ⟨x, l, c, zs, hcs, _, hl, hm, hz, _, hcell, hwz⟩
    · obtain rfl : v0_2 = .slice none 0 0 := by simpa using hcs
      exact ⟨none, 0, [], rfl, Kd.C_nil _ _, Nat.le_refl _, Nat.zero_le _, fun x hx => by cases hx⟩
    · obtain rfl : v0_2 = .slice (some x) l c := by simpa using hcs
      obtain ⟨l0, e1, hr0, hm0, hw0, hc0⟩ := ReadsInt.ofRowC (w := W) (k := .i64) (a := some x) (len := l) (cap := c) (zs := zs) (.inr ⟨x, rfl, hl, hm, by simpa using hz, hcell, hwz⟩)
      exact ⟨some x, c, l0, by rw [e1], Kd.C_of_reads (d := (0 : Int)) (h1 := fun _ => rfl) hr0, hc0, hm0, hw0⟩
  subst sla0_2
  have k1 := h1
  have lt1 : ∀ x ∈ p1, x.block < W.heap.size := by obtain ⟨m, hm⟩ := k1; exact DataW.trod_lt m _ _ _ hm
  obtain ⟨a1, rfl, rfl, rfl, hwa1⟩ := open_int Try.underlying3 (hval 1 3 v1 rfl rfl) h1
  obtain ⟨k, h⟩ := Pure.FnExactReverseWon a0_0 a0_1 a0_2 a1 hwa0_0 hma0_2 hwa0_2 hwa1
  refine (laws_FnExactReverseWon.calls k a0_0 a0_1 _ _ a0_2 a1 true W hra0_2 hca0_2 h).mono fun e W' ⟨he, bel0⟩ => ?_
  have bel : Below W.heap.size W W' := bel0
  subst he
  exact ⟨_, rfl, _, _, _, [], _, [], hW', trodAll_mk1 (shut_bool Try.underlying4 _), (trodAll_cons_mk (Below.trod laidOut (by kernel_rfl) (of_decide_eq_true (by kernel_rfl)) k0 bel lt0) (trodAll_cons_mk (shut_int Try.underlying3 hwa1) trodAll_mk0)), rfl, bel.frame _, fun h => by cases h⟩
theorem over : Rows.fnExactReverseWonRow.holds Try.pinned (OpenSpec.ofChange Rows.fnExactReverseWonSpec) :=
  OpenClaim.holds_of_wide 6 Try.f6 rfl rfl rfl rfl rfl rfl rfl ⟨rfl, rfl, rfl, rfl, rfl⟩ rfl rfl rfl rfl rfl (by kernel_rfl) Try.func6 (by kernel_rfl)
    (of_decide_eq_true (by kernel_rfl)) (by unfold Func.isWrapper; first | (rw [if_pos (by decide +kernel)]; kernel_rfl) | (rw [if_neg (by decide +kernel)]; exact ⟨rfl, rfl⟩))
    (fun os started H enc _ => lifted os started H enc)
theorem proved : Rows.FnExactReverseWonSaid := over
#print axioms proved
end Go.Proofs.Ytgcgmlbjklkkjaa.fnExactReverseWon
namespace Go.Proofs.Ytgcgmlbjklkkjaa
/-- The row, under a short name, for the claim. -/
theorem fnExactReverseWon_holds : Rows.FnExactReverseWonSaid := fnExactReverseWon.proved
end Go.Proofs.Ytgcgmlbjklkkjaa
