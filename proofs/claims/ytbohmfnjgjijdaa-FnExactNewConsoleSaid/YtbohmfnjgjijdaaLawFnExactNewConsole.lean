-- The given statement out of the pure one, for a law with a struct among its parameters. Written by rowlaw.py, a program of this session.
import Derived.Test.YtbohmfnjgjijdaaRows
import Derived.Test.YtbohmfnjgjijdaaPureFnExactNewConsole
import Derived.WalkKit
import Derived.ProofKit
import Derived.OpenShut
import Derived.ShutString
import Derived.ChangeOld
import Derived.Below
import Derived.SizedLaws
import Derived.Lib.SmallJoins
import Derived.Test.YtbohmfnjgjijdaaVNewConsoleSized
namespace Go.Proofs.Ytbohmfnjgjijdaa.fnExactNewConsole
open Go.ChangeShapes Go.WideShapes Go.ChangeAt Go.RowKit Go.Proofs.Ytbohmfnjgjijdaa.QFnExactNewConsole Go.Proofs.YtbohmfnjgjijdaaW.PrintWords Go.Proofs.YtbohmfnjgjijdaaW.PrintLast
open Go.ChangeMaps (open_string shut_string)
set_option linter.unusedVariables false
theorem own : ownKnob Try.prog.godebug = none := by kernel_rfl
theorem laidOut : laidOutB Try.prog = true := by kernel_rfl
theorem arr5 {α : Type} {cs : Array α} (h : cs.size = 5) : ∃ c0 c1 c2 c3 c4, cs = #[c0, c1, c2, c3, c4] := by
  obtain ⟨l⟩ := cs
  match l, h with
  | [c0, c1, c2, c3, c4], _ => exact ⟨c0, c1, c2, c3, c4, rfl⟩
theorem open_t24 {H : Type} {enc : TypeId × Value → H} {w : World} {base : Nat} {spare : Nat → Bool} {held : Bool} {fuel : Nat} {v0 v1 v2 : Value} {y : DataW H × List MemPlace} (h : DataW.trod enc Try.prog w base spare held fuel 24 [v0, v1, v2] = some y) :
    ∃ (y0 y1 y2 : DataW H × List MemPlace) (n : Nat), DataW.trod enc Try.prog w base spare held n 3 [v0] = some y0 ∧ DataW.trod enc Try.prog w base spare held n 4 [v1] = some y1 ∧ DataW.trod enc Try.prog w base spare held n 22 [v2] = some y2 := by
  obtain ⟨xs, n, _, rfl, hl, hlen, hf⟩ := DataW.trod_struct Try.underlying24 h
  have c3 : Try.prog.cellsOf 3 = 1 := by kernel_rfl
  have c4 : Try.prog.cellsOf 4 = 1 := by kernel_rfl
  have c22 : Try.prog.cellsOf 22 = 1 := by kernel_rfl
  match xs, hlen with
  | [y0, y1, y2], _ => exact ⟨y0, y1, y2, n, by simpa [c3] using hf 0 _ rfl, by simpa [c4] using hf 1 _ rfl, by simpa [c22] using hf 2 _ rfl⟩
theorem open_t26 {H : Type} {enc : TypeId × Value → H} {w : World} {base : Nat} {spare : Nat → Bool} {held : Bool} {fuel : Nat} {v0 v1 v2 v3 v4 : Value} {y : DataW H × List MemPlace} (h : DataW.trod enc Try.prog w base spare held fuel 26 [v0, v1, v2, v3, v4] = some y) :
    ∃ (y0 y1 y2 : DataW H × List MemPlace) (n : Nat), DataW.trod enc Try.prog w base spare held n 24 [v0, v1, v2] = some y0 ∧ DataW.trod enc Try.prog w base spare held n 22 [v3] = some y1 ∧ DataW.trod enc Try.prog w base spare held n 3 [v4] = some y2 := by
  obtain ⟨xs, n, _, rfl, hl, hlen, hf⟩ := DataW.trod_struct Try.underlying26 h
  have c24 : Try.prog.cellsOf 24 = 3 := by kernel_rfl
  have c22 : Try.prog.cellsOf 22 = 1 := by kernel_rfl
  have c3 : Try.prog.cellsOf 3 = 1 := by kernel_rfl
  match xs, hlen with
  | [y0, y1, y2], _ => exact ⟨y0, y1, y2, n, by simpa [c24] using hf 0 _ rfl, by simpa [c22] using hf 1 _ rfl, by simpa [c3] using hf 2 _ rfl⟩
set_option maxRecDepth 100000 in
theorem lifted (os : Os) (started : os.Started) (H : Type) (enc : TypeId × Value → H) :
    ReturnsInHanded {} Try.checked os 5 .any (Rows.fnExactNewConsoleSpec.pre6 enc Try.prog Try.f5 Rows.fnExactNewConsoleRow.domain false) (Rows.fnExactNewConsoleSpec.post enc Try.prog Try.f5 false true false false) := by
  refine returnsInHanded_of_change_sized (C := Try.checked) own started (by kernel_rfl) Try.func5
    (ChangeSpec.witness6 (enc := enc) (C := Try.checked) false ⟨#[], #[.agg #[.int .i64 0, .bool false, .slice none 0 0, .slice none 0 0, .int .i64 0]], []⟩ 8 (by kernel_rfl) (by kernel_rfl) (by kernel_rfl) (by kernel_rfl)) ?_
  intro W base args ds gs before hval0 hW hcnd hsz0 _
  have hsz : (DataW.weightsEach Try.prog (Try.f5.params.toList ++ Rows.fnExactNewConsoleSpec.plain.varTypes Try.prog) (ds ++ gs)).all (· ≤ reachBytes) = true := hsz0
  have hval : ∀ (j : Nat) t v, Try.f5.params[j]? = some t → args[j]? = some v → Value.okWide Try.prog W .any base t v := hval0
  have hW' := hW
  obtain ⟨p, q, hA0, hV, rfl, hfz, hnd⟩ := hW
  have hA : DataW.TrodAll enc Try.prog W 0 (fun _ => true) true Try.f5.params.toList args.toList ds p := hA0
  rw [Try.params5] at hA hval hsz
  obtain ⟨v0, vs0, d0, ds0, p0, q0, hargs, rfl, rfl, h0, r0⟩ := trodAll_cons hA
  obtain ⟨rfl, rfl, rfl⟩ := trodAll_nil r0
  obtain rfl : args = #[v0] := by cases args; simp_all
  obtain ⟨rfl, rfl⟩ := trodVars_none hV
  have k0 := h0
  have lt0 : ∀ x ∈ p0, x.block < W.heap.size := by obtain ⟨m, hm⟩ := k0; exact DataW.trod_lt m _ _ _ hm
  obtain ⟨cs0, rfl, hcz0⟩ := okWide_struct Try.underlying26 (hval 0 26 v0 rfl rfl)
  obtain ⟨v0_0, v0_1, v0_2, v0_3, v0_4, rfl⟩ := arr5 (hcz0.trans (by kernel_rfl : Try.prog.cellsOf 26 = 5))
  obtain ⟨fuel0, hf0⟩ := h0
  have hf0' : DataW.trod enc Try.prog W 0 (fun _ => true) true fuel0 26 [v0_0, v0_1, v0_2, v0_3, v0_4] = some (d0, p0) := hf0
  obtain ⟨y0_1_0, y0_1_1, y0_1_2, n0_1, t0_1_0, t0_1_1, t0_1_2⟩ := open_t26 hf0'
  obtain ⟨y0_2_0, y0_2_1, y0_2_2, n0_2, t0_2_0, t0_2_1, t0_2_2⟩ := open_t24 t0_1_0
  obtain ⟨a0_0_0, hba0_0_0, _, hwa0_0_0⟩ := DataW.trod_int Try.underlying3 t0_2_0
  obtain rfl : v0_0 = .int .i64 a0_0_0 := by simpa using hba0_0_0
  clear hba0_0_0
  obtain ⟨a0_0_1, hba0_0_1, _⟩ := DataW.trod_bool Try.underlying4 t0_2_1
  obtain rfl : v0_1 = .bool a0_0_1 := by simpa using hba0_0_1
  clear hba0_0_1
  obtain ⟨Aa0_0_2, Ca0_0_2, a0_0_2, sla0_0_2, hra0_0_2, hca0_0_2, hma0_0_2, hwa0_0_2⟩ : ∃ (A : Option Addr) (c : Nat) (l : List Int), v0_2 = .slice A l.length c ∧ Kd.C (Kd.int .i64) W A l.length l ∧ l.length ≤ c ∧ l.length ≤ maxLen ∧ ∀ x ∈ l, (Lit.int .i64 x).wf = true := by
    rcases open_ints Try.underlying22 Try.underlying3 (by kernel_rfl) t0_2_2 with ⟨hcs, _⟩ | ⟨x, l, c, zs, hcs, _, hl, hm, hz, _, hcell, hwz⟩
    · obtain rfl : v0_2 = .slice none 0 0 := by simpa using hcs
      exact ⟨none, 0, [], rfl, Kd.C_nil _ _, Nat.le_refl _, Nat.zero_le _, fun x hx => by cases hx⟩
    · obtain rfl : v0_2 = .slice (some x) l c := by simpa using hcs
      obtain ⟨l0, e1, hr0, hm0, hw0, hc0⟩ := ReadsInt.ofRowC (w := W) (k := .i64) (a := some x) (len := l) (cap := c) (zs := zs) (.inr ⟨x, rfl, hl, hm, by simpa using hz, hcell, hwz⟩)
      exact ⟨some x, c, l0, by rw [e1], Kd.C_of_reads (d := (0 : Int)) (h1 := fun _ => rfl) hr0, hc0, hm0, hw0⟩
  subst sla0_0_2
  obtain ⟨Aa0_1, Ca0_1, a0_1, sla0_1, hra0_1, hca0_1, hma0_1, hwa0_1⟩ : ∃ (A : Option Addr) (c : Nat) (l : List Int), v0_3 = .slice A l.length c ∧ Kd.C (Kd.int .i64) W A l.length l ∧ l.length ≤ c ∧ l.length ≤ maxLen ∧ ∀ x ∈ l, (Lit.int .i64 x).wf = true := by
    rcases open_ints Try.underlying22 Try.underlying3 (by kernel_rfl) t0_1_1 with ⟨hcs, _⟩ | ⟨x, l, c, zs, hcs, _, hl, hm, hz, _, hcell, hwz⟩
    · obtain rfl : v0_3 = .slice none 0 0 := by simpa using hcs
      exact ⟨none, 0, [], rfl, Kd.C_nil _ _, Nat.le_refl _, Nat.zero_le _, fun x hx => by cases hx⟩
    · obtain rfl : v0_3 = .slice (some x) l c := by simpa using hcs
      obtain ⟨l0, e1, hr0, hm0, hw0, hc0⟩ := ReadsInt.ofRowC (w := W) (k := .i64) (a := some x) (len := l) (cap := c) (zs := zs) (.inr ⟨x, rfl, hl, hm, by simpa using hz, hcell, hwz⟩)
      exact ⟨some x, c, l0, by rw [e1], Kd.C_of_reads (d := (0 : Int)) (h1 := fun _ => rfl) hr0, hc0, hm0, hw0⟩
  subst sla0_1
  obtain ⟨a0_2, hba0_2, _, hwa0_2⟩ := DataW.trod_int Try.underlying3 t0_1_2
  obtain rfl : v0_4 = .int .i64 a0_2 := by simpa using hba0_2
  clear hba0_2
  obtain ⟨k, h⟩ := Pure.FnExactNewConsole a0_0_0 a0_0_1 a0_0_2 a0_1 a0_2 hwa0_0_0 hma0_0_2 hwa0_0_2 hma0_1 hwa0_1 hwa0_2
  refine (laws_FnExactNewConsole.calls k a0_0_0 a0_0_1 _ _ a0_0_2 _ _ a0_1 a0_2 true W hra0_0_2 hca0_0_2 hra0_1 hca0_1 h).mono fun e W' ⟨he, bel0⟩ => ?_
  have bel : Below W.heap.size W W' := bel0
  subst he
  exact ⟨_, rfl, _, _, _, [], _, [], hW', trodAll_mk1 (shut_bool Try.underlying4 _), (trodAll_cons_mk (Below.trod laidOut (by kernel_rfl) (of_decide_eq_true (by kernel_rfl)) k0 bel lt0) trodAll_mk0), rfl, bel.frame _, fun h => by cases h⟩
theorem over : Rows.fnExactNewConsoleRow.holds Try.pinned (OpenSpec.ofChange Rows.fnExactNewConsoleSpec) :=
  OpenClaim.holds_of_wide 5 Try.f5 rfl rfl rfl rfl rfl rfl rfl ⟨rfl, rfl, rfl, rfl, rfl⟩ rfl rfl rfl rfl rfl (by kernel_rfl) Try.func5 (by kernel_rfl)
    (of_decide_eq_true (by kernel_rfl)) (by unfold Func.isWrapper; first | (rw [if_pos (by decide +kernel)]; kernel_rfl) | (rw [if_neg (by decide +kernel)]; exact ⟨rfl, rfl⟩))
    (fun os started H enc _ => lifted os started H enc)
theorem proved : Rows.FnExactNewConsoleSaid := over
#print axioms proved
end Go.Proofs.Ytbohmfnjgjijdaa.fnExactNewConsole
namespace Go.Proofs.Ytbohmfnjgjijdaa
/-- The row, under a short name, for the claim. -/
theorem fnExactNewConsole_holds : Rows.FnExactNewConsoleSaid := fnExactNewConsole.proved
end Go.Proofs.Ytbohmfnjgjijdaa
