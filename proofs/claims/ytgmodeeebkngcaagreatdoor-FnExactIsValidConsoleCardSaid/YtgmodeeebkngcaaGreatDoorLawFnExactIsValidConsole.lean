-- The given statement out of the pure one, for a law with a struct among its parameters. Written by rowlaw.py, a program of this session.
import Derived.Test.YtgmodeeebkngcaaGreatDoorCards
import Derived.Test.YtgmodeeebkngcaaGreatDoorTie
import Derived.Test.YtgmodeeebkngcaaGreatDoorPureFnExactIsValidConsole
import Derived.WalkKit
import Derived.ProofKit
import Derived.OpenShut
import Derived.ShutString
import Derived.ChangeOld
import Derived.Below
import Derived.SizedLaws
import Derived.Lib.SmallJoins
import Derived.Test.YtgmodeeebkngcaaGreatDoorVIsValidConsoleSized
import Derived.Deep.DeepHandedRow
import Derived.Lib.LaidTab
import Derived.Stop.LaidErr
namespace Go.Proofs.YtgmodeeebkngcaaGreatDoor.fnExactIsValidConsole
open Go.ChangeShapes Go.WideShapes Go.ChangeAt Go.RowKit Go.Proofs.YtgmodeeebkngcaaGreatDoor.QFnExactIsValidConsole Go.Proofs.YtgmodeeebkngcaaGreatDoorW.PrintWords Go.Proofs.YtgmodeeebkngcaaGreatDoorW.PrintLast
open Go.ChangeMaps (open_string shut_string)
set_option linter.unusedVariables false
theorem own : ownKnob Tryz.prog.godebug = none := by kernel_rfl
theorem laidOut : laidOutB Tryz.prog = true := by kernel_rfl
theorem arr8 {α : Type} {cs : Array α} (h : cs.size = 8) : ∃ c0 c1 c2 c3 c4 c5 c6 c7, cs = #[c0, c1, c2, c3, c4, c5, c6, c7] := by
  obtain ⟨l⟩ := cs
  match l, h with
  | [c0, c1, c2, c3, c4, c5, c6, c7], _ => exact ⟨c0, c1, c2, c3, c4, c5, c6, c7, rfl⟩
theorem open_t24 {H : Type} {enc : TypeId × Value → H} {w : World} {base : Nat} {spare : Nat → Bool} {held : Bool} {fuel : Nat} {v0 v1 v2 : Value} {y : DataW H × List MemPlace} (h : DataW.trod enc Tryz.prog w base spare held fuel 24 [v0, v1, v2] = some y) :
    ∃ (y0 y1 y2 : DataW H × List MemPlace) (n : Nat), DataW.trod enc Tryz.prog w base spare held n 3 [v0] = some y0 ∧ DataW.trod enc Tryz.prog w base spare held n 4 [v1] = some y1 ∧ DataW.trod enc Tryz.prog w base spare held n 22 [v2] = some y2 := by
  obtain ⟨xs, n, _, rfl, hl, hlen, hf⟩ := DataW.trod_struct Tryz.underlying24 h
  have c3 : Tryz.prog.cellsOf 3 = 1 := by kernel_rfl
  have c4 : Tryz.prog.cellsOf 4 = 1 := by kernel_rfl
  have c22 : Tryz.prog.cellsOf 22 = 1 := by kernel_rfl
  match xs, hlen with
  | [y0, y1, y2], _ => exact ⟨y0, y1, y2, n, by simpa [c3] using hf 0 _ rfl, by simpa [c4] using hf 1 _ rfl, by simpa [c22] using hf 2 _ rfl⟩
theorem open_t26 {H : Type} {enc : TypeId × Value → H} {w : World} {base : Nat} {spare : Nat → Bool} {held : Bool} {fuel : Nat} {v0 v1 v2 v3 v4 : Value} {y : DataW H × List MemPlace} (h : DataW.trod enc Tryz.prog w base spare held fuel 26 [v0, v1, v2, v3, v4] = some y) :
    ∃ (y0 y1 y2 : DataW H × List MemPlace) (n : Nat), DataW.trod enc Tryz.prog w base spare held n 24 [v0, v1, v2] = some y0 ∧ DataW.trod enc Tryz.prog w base spare held n 22 [v3] = some y1 ∧ DataW.trod enc Tryz.prog w base spare held n 3 [v4] = some y2 := by
  obtain ⟨xs, n, _, rfl, hl, hlen, hf⟩ := DataW.trod_struct Tryz.underlying26 h
  have c24 : Tryz.prog.cellsOf 24 = 3 := by kernel_rfl
  have c22 : Tryz.prog.cellsOf 22 = 1 := by kernel_rfl
  have c3 : Tryz.prog.cellsOf 3 = 1 := by kernel_rfl
  match xs, hlen with
  | [y0, y1, y2], _ => exact ⟨y0, y1, y2, n, by simpa [c24] using hf 0 _ rfl, by simpa [c22] using hf 1 _ rfl, by simpa [c3] using hf 2 _ rfl⟩
theorem open_t28 {H : Type} {enc : TypeId × Value → H} {w : World} {base : Nat} {spare : Nat → Bool} {held : Bool} {fuel : Nat} {v0 v1 v2 : Value} {y : DataW H × List MemPlace} (h : DataW.trod enc Tryz.prog w base spare held fuel 28 [v0, v1, v2] = some y) :
    ∃ (y0 y1 y2 : DataW H × List MemPlace) (n : Nat), DataW.trod enc Tryz.prog w base spare held n 9 [v0] = some y0 ∧ DataW.trod enc Tryz.prog w base spare held n 9 [v1] = some y1 ∧ DataW.trod enc Tryz.prog w base spare held n 3 [v2] = some y2 := by
  obtain ⟨xs, n, _, rfl, hl, hlen, hf⟩ := DataW.trod_struct Tryz.underlying28 h
  have c9 : Tryz.prog.cellsOf 9 = 1 := by kernel_rfl
  have c3 : Tryz.prog.cellsOf 3 = 1 := by kernel_rfl
  match xs, hlen with
  | [y0, y1, y2], _ => exact ⟨y0, y1, y2, n, by simpa [c9] using hf 0 _ rfl, by simpa [c9] using hf 1 _ rfl, by simpa [c3] using hf 2 _ rfl⟩
theorem open_t30 {H : Type} {enc : TypeId × Value → H} {w : World} {base : Nat} {spare : Nat → Bool} {held : Bool} {fuel : Nat} {v0 v1 v2 v3 v4 v5 v6 v7 : Value} {y : DataW H × List MemPlace} (h : DataW.trod enc Tryz.prog w base spare held fuel 30 [v0, v1, v2, v3, v4, v5, v6, v7] = some y) :
    ∃ (y0 y1 : DataW H × List MemPlace) (n : Nat), DataW.trod enc Tryz.prog w base spare held n 26 [v0, v1, v2, v3, v4] = some y0 ∧ DataW.trod enc Tryz.prog w base spare held n 28 [v5, v6, v7] = some y1 := by
  obtain ⟨xs, n, _, rfl, hl, hlen, hf⟩ := DataW.trod_struct Tryz.underlying30 h
  have c26 : Tryz.prog.cellsOf 26 = 5 := by kernel_rfl
  have c28 : Tryz.prog.cellsOf 28 = 3 := by kernel_rfl
  match xs, hlen with
  | [y0, y1], _ => exact ⟨y0, y1, n, by simpa [c26] using hf 0 _ rfl, by simpa [c28] using hf 1 _ rfl⟩
theorem gTab : Tryz.prog.globalNamed "internal/strconv.uint64pow10" = some 1 := by kernel_rfl
theorem gTabType : (Tryz.prog.globals[1]?).map (·.type) = some 140 := by kernel_rfl
theorem cellsT : Tryz.prog.cellsOf 140 = 20 := by kernel_rfl
theorem cellsE : Tryz.prog.cellsOf 108 = 1 := by kernel_rfl
/-- What the row's list gives: the table's cells hold its numbers. -/
theorem table {W : World} (h : laidMetH Tryz.prog Rows.fnExactIsValidConsoleRow.laid W) : Lib.TabIs Tryz.prog W "internal/strconv.uint64pow10" .u64 [1, 10, 100, 1000, 10000, 100000, 1000000, 10000000, 100000000, 1000000000, 10000000000, 100000000000, 1000000000000, 10000000000000, 100000000000000, 1000000000000000, 10000000000000000, 100000000000000000, 1000000000000000000, 10000000000000000000] :=
  Lib.tabIs_of_head gTab gTabType Tryz.underlying140 Tryz.underlying108 cellsE cellsT (laidMet.tail (laidMet.tail (show laidMet Tryz.prog Rows.fnExactIsValidConsoleRow.laid W from h)))
theorem tabOK {W : World} (h : laidMetH Tryz.prog Rows.fnExactIsValidConsoleRow.laid W) : QFnExactIsValidConsole.TabOK W := by
  have := table h
  rw [show ([1, 10, 100, 1000, 10000, 100000, 1000000, 10000000, 100000000, 1000000000, 10000000000, 100000000000, 1000000000000, 10000000000000, 100000000000000, 1000000000000000, 10000000000000000, 100000000000000000, 1000000000000000000, 10000000000000000000] : List Int) = Lib.pow10Tab by decide] at this
  exact this
set_option maxRecDepth 100000 in
theorem contract (H : Type) (enc : TypeId × Value → H) (W : World) (base : Nat) (args : Array Value) (ds gs : List (DataW H)) (before : List MemPlace)
    (hval : ∀ (j : Nat) t v, Tryz.f3.params[j]? = some t → args[j]? = some v → Value.okWide Tryz.prog W .any base t v)
    (hW : DataW.Whole enc Tryz.prog Tryz.f3.params.toList Rows.fnExactIsValidConsoleSpec.vars false W args.toList ds gs before)
    (hsz : (DataW.weightsEach Tryz.prog (Tryz.f3.params.toList ++ Rows.fnExactIsValidConsoleSpec.plain.varTypes Tryz.prog) (ds ++ gs)).all (· ≤ reachBytes) = true)
    (hL : laidMetH Tryz.prog Rows.fnExactIsValidConsoleRow.laid W) :
    Calls Tryz.prog 3 args W fun e W' => ∃ v, e = .returned v ∧ Rows.fnExactIsValidConsoleSpec.post enc Tryz.prog Tryz.f3 false true false false W args v W' := by
  have hW' := hW
  obtain ⟨p, q, hA0, hV, rfl, hfz, hnd⟩ := hW
  have hA : DataW.TrodAll enc Tryz.prog W 0 (fun _ => true) true Tryz.f3.params.toList args.toList ds p := hA0
  rw [Tryz.params3] at hA hval hsz
  obtain ⟨v0, vs0, d0, ds0, p0, q0, hargs, rfl, rfl, h0, r0⟩ := trodAll_cons hA
  obtain ⟨rfl, rfl, rfl⟩ := trodAll_nil r0
  obtain rfl : args = #[v0] := by cases args; simp_all
  obtain ⟨rfl, rfl⟩ := trodVars_none hV
  have k0 := h0
  have lt0 : ∀ x ∈ p0, x.block < W.heap.size := by obtain ⟨m, hm⟩ := k0; exact DataW.trod_lt m _ _ _ hm
  obtain ⟨cs0, rfl, hcz0⟩ := okWide_struct Tryz.underlying30 (hval 0 30 v0 rfl rfl)
  obtain ⟨v0_0, v0_1, v0_2, v0_3, v0_4, v0_5, v0_6, v0_7, rfl⟩ := arr8 (hcz0.trans (by kernel_rfl : Tryz.prog.cellsOf 30 = 8))
  obtain ⟨fuel0, hf0⟩ := h0
  have hf0' : DataW.trod enc Tryz.prog W 0 (fun _ => true) true fuel0 30 [v0_0, v0_1, v0_2, v0_3, v0_4, v0_5, v0_6, v0_7] = some (d0, p0) := hf0
  obtain ⟨y0_1_0, y0_1_1, n0_1, t0_1_0, t0_1_1⟩ := open_t30 hf0'
  obtain ⟨y0_2_0, y0_2_1, y0_2_2, n0_2, t0_2_0, t0_2_1, t0_2_2⟩ := open_t26 t0_1_0
  obtain ⟨y0_3_0, y0_3_1, y0_3_2, n0_3, t0_3_0, t0_3_1, t0_3_2⟩ := open_t24 t0_2_0
  obtain ⟨a0_0_0_0, hba0_0_0_0, _, hwa0_0_0_0⟩ := DataW.trod_int Tryz.underlying3 t0_3_0
  obtain rfl : v0_0 = .int .i64 a0_0_0_0 := by simpa using hba0_0_0_0
  clear hba0_0_0_0
  obtain ⟨a0_0_0_1, hba0_0_0_1, _⟩ := DataW.trod_bool Tryz.underlying4 t0_3_1
  obtain rfl : v0_1 = .bool a0_0_0_1 := by simpa using hba0_0_0_1
  clear hba0_0_0_1
  obtain ⟨Aa0_0_0_2, Ca0_0_0_2, a0_0_0_2, sla0_0_0_2, hra0_0_0_2, hca0_0_0_2, hma0_0_0_2, hwa0_0_0_2⟩ : ∃ (A : Option Addr) (c : Nat) (l : List Int), v0_2 = .slice A l.length c ∧ Kd.C (Kd.int .i64) W A l.length l ∧ l.length ≤ c ∧ l.length ≤ maxLen ∧ ∀ x ∈ l, (Lit.int .i64 x).wf = true := by
    rcases open_ints Tryz.underlying22 Tryz.underlying3 (by kernel_rfl) t0_3_2 with ⟨hcs, _⟩ | ⟨x, l, c, zs, hcs, _, hl, hm, hz, _, hcell, hwz⟩
    · obtain rfl : v0_2 = .slice none 0 0 := by simpa using hcs
      exact ⟨none, 0, [], rfl, Kd.C_nil _ _, Nat.le_refl _, Nat.zero_le _, fun x hx => by cases hx⟩
    · obtain rfl : v0_2 = .slice (some x) l c := by simpa using hcs
      obtain ⟨l0, e1, hr0, hm0, hw0, hc0⟩ := ReadsInt.ofRowC (w := W) (k := .i64) (a := some x) (len := l) (cap := c) (zs := zs) (.inr ⟨x, rfl, hl, hm, by simpa using hz, hcell, hwz⟩)
      exact ⟨some x, c, l0, by rw [e1], Kd.C_of_reads (d := (0 : Int)) (h1 := fun _ => rfl) hr0, hc0, hm0, hw0⟩
  subst sla0_0_0_2
  obtain ⟨Aa0_0_1, Ca0_0_1, a0_0_1, sla0_0_1, hra0_0_1, hca0_0_1, hma0_0_1, hwa0_0_1⟩ : ∃ (A : Option Addr) (c : Nat) (l : List Int), v0_3 = .slice A l.length c ∧ Kd.C (Kd.int .i64) W A l.length l ∧ l.length ≤ c ∧ l.length ≤ maxLen ∧ ∀ x ∈ l, (Lit.int .i64 x).wf = true := by
    rcases open_ints Tryz.underlying22 Tryz.underlying3 (by kernel_rfl) t0_2_1 with ⟨hcs, _⟩ | ⟨x, l, c, zs, hcs, _, hl, hm, hz, _, hcell, hwz⟩
    · obtain rfl : v0_3 = .slice none 0 0 := by simpa using hcs
      exact ⟨none, 0, [], rfl, Kd.C_nil _ _, Nat.le_refl _, Nat.zero_le _, fun x hx => by cases hx⟩
    · obtain rfl : v0_3 = .slice (some x) l c := by simpa using hcs
      obtain ⟨l0, e1, hr0, hm0, hw0, hc0⟩ := ReadsInt.ofRowC (w := W) (k := .i64) (a := some x) (len := l) (cap := c) (zs := zs) (.inr ⟨x, rfl, hl, hm, by simpa using hz, hcell, hwz⟩)
      exact ⟨some x, c, l0, by rw [e1], Kd.C_of_reads (d := (0 : Int)) (h1 := fun _ => rfl) hr0, hc0, hm0, hw0⟩
  subst sla0_0_1
  obtain ⟨a0_0_2, hba0_0_2, _, hwa0_0_2⟩ := DataW.trod_int Tryz.underlying3 t0_2_2
  obtain rfl : v0_4 = .int .i64 a0_0_2 := by simpa using hba0_0_2
  clear hba0_0_2
  obtain ⟨y0_4_0, y0_4_1, y0_4_2, n0_4, t0_4_0, t0_4_1, t0_4_2⟩ := open_t28 t0_1_1
  obtain ⟨a0_1_0, hba0_1_0, hda0_1_0⟩ := DataW.trod_string Tryz.underlying9 t0_4_0
  obtain rfl : v0_5 = .string a0_1_0 := by simpa using hba0_1_0
  obtain ⟨a0_1_1, hba0_1_1, hda0_1_1⟩ := DataW.trod_string Tryz.underlying9 t0_4_1
  obtain rfl : v0_6 = .string a0_1_1 := by simpa using hba0_1_1
  obtain ⟨a0_1_2, hba0_1_2, _, hwa0_1_2⟩ := DataW.trod_int Tryz.underlying3 t0_4_2
  obtain rfl : v0_7 = .int .i64 a0_1_2 := by simpa using hba0_1_2
  clear hba0_1_2
  obtain ⟨k, h⟩ := Pure.FnExactIsValidConsole a0_0_0_0 a0_0_0_1 a0_0_0_2 a0_0_1 a0_0_2 a0_1_0 a0_1_1 a0_1_2 hwa0_0_0_0 hma0_0_0_2 hwa0_0_0_2 hma0_0_1 hwa0_0_1 hwa0_0_2 hda0_1_0.2 hda0_1_1.2 hwa0_1_2
  refine (laws_FnExactIsValidConsole.calls k a0_0_0_0 a0_0_0_1 _ _ a0_0_0_2 _ _ a0_0_1 a0_0_2 a0_1_0 a0_1_1 a0_1_2 true W hra0_0_0_2 hca0_0_0_2 hra0_0_1 hca0_0_1 (tabOK hL) h).mono fun e W' ⟨he, bel0⟩ => ?_
  have bel : Below W.heap.size W W' := bel0
  subst he
  exact ⟨_, rfl, _, _, _, [], _, [], hW', trodAll_mk1 (shut_bool Tryz.underlying4 _), (trodAll_cons_mk (Below.trod laidOut (by kernel_rfl) (of_decide_eq_true (by kernel_rfl)) k0 bel lt0) trodAll_mk0), rfl, bel.frame _, fun h => by cases h⟩
/-- A world for the witness: the settled one, the tables holding what their initialisers lay. -/
noncomputable def laidWorld (os : Os) : World :=
  { World.holding Tryz.prog os ⟨#[], #[], []⟩ with heap := ((((World.holding Tryz.prog os ⟨#[], #[], []⟩).heap.modify 2 (fun
      | .cells _ t frozen => .cells #[.int .u8 0, .int .u8 1, .int .u8 28, .int .u8 2, .int .u8 29, .int .u8 14, .int .u8 24, .int .u8 3, .int .u8 30, .int .u8 22, .int .u8 20, .int .u8 15, .int .u8 25, .int .u8 17, .int .u8 4, .int .u8 8, .int .u8 31, .int .u8 27, .int .u8 13, .int .u8 23, .int .u8 21, .int .u8 19, .int .u8 16, .int .u8 7, .int .u8 26, .int .u8 12, .int .u8 18, .int .u8 6, .int .u8 11, .int .u8 5, .int .u8 10, .int .u8 9] t frozen
      | o => o)).modify 3 (fun
      | .cells _ t frozen => .cells #[.int .u8 0, .int .u8 1, .int .u8 56, .int .u8 2, .int .u8 57, .int .u8 49, .int .u8 28, .int .u8 3, .int .u8 61, .int .u8 58, .int .u8 42, .int .u8 50, .int .u8 38, .int .u8 29, .int .u8 17, .int .u8 4, .int .u8 62, .int .u8 47, .int .u8 59, .int .u8 36, .int .u8 45, .int .u8 43, .int .u8 51, .int .u8 22, .int .u8 53, .int .u8 39, .int .u8 33, .int .u8 30, .int .u8 24, .int .u8 18, .int .u8 12, .int .u8 5, .int .u8 63, .int .u8 55, .int .u8 48, .int .u8 27, .int .u8 60, .int .u8 41, .int .u8 37, .int .u8 16, .int .u8 46, .int .u8 35, .int .u8 44, .int .u8 21, .int .u8 52, .int .u8 32, .int .u8 23, .int .u8 11, .int .u8 54, .int .u8 26, .int .u8 40, .int .u8 15, .int .u8 34, .int .u8 20, .int .u8 31, .int .u8 10, .int .u8 25, .int .u8 14, .int .u8 19, .int .u8 9, .int .u8 13, .int .u8 8, .int .u8 7, .int .u8 6] t frozen
      | o => o)).modify 1 (fun
      | .cells _ t frozen => .cells #[.int .u64 1, .int .u64 10, .int .u64 100, .int .u64 1000, .int .u64 10000, .int .u64 100000, .int .u64 1000000, .int .u64 10000000, .int .u64 100000000, .int .u64 1000000000, .int .u64 10000000000, .int .u64 100000000000, .int .u64 1000000000000, .int .u64 10000000000000, .int .u64 100000000000000, .int .u64 1000000000000000, .int .u64 10000000000000000, .int .u64 100000000000000000, .int .u64 1000000000000000000, .int .u64 10000000000000000000] t frozen
      | o => o)) }
theorem laid_met (os : Os) : laidMet Tryz.prog Rows.fnExactIsValidConsoleRow.laid ((laidWorld os).forCall (fun _ _ => 0) ⟨#[], #[.agg #[.int .i64 0, .bool false, .slice none 0 0, .slice none 0 0, .int .i64 0, .string ByteArray.empty, .string ByteArray.empty, .int .i64 0]], []⟩).memory :=
  laidMet_of_run' 8 (by kernel_rfl) (by kernel_rfl)
theorem reads (os : Os) {H : Type} (enc : TypeId × Value → H) : ∃ places, DataW.whole enc Tryz.prog ((laidWorld os).forCall (fun _ _ => 0) ⟨#[], #[.agg #[.int .i64 0, .bool false, .slice none 0 0, .slice none 0 0, .int .i64 0, .string ByteArray.empty, .string ByteArray.empty, .int .i64 0]], []⟩).memory Tryz.f3.params.toList Rows.fnExactIsValidConsoleSpec.vars false (#[.agg #[.int .i64 0, .bool false, .slice none 0 0, .slice none 0 0, .int .i64 0, .string ByteArray.empty, .string ByteArray.empty, .int .i64 0]] : Array Value).toList 8 = some ([.agg [.agg [.agg [.lit (.int .i64 0), .lit (.bool false), .nil], .nil, .lit (.int .i64 0)], .agg [.lit (.string []), .lit (.string []), .lit (.int .i64 0)]]], [], places) :=
  ⟨[], by kernel_rfl⟩
set_option maxRecDepth 100000 in
theorem lifted (os : Os) (started : os.Started) (H : Type) (enc : TypeId × Value → H) (F : Stop.Interp) :
    ReturnsInHanded {} Tryz.checked os 3 .any ((OpenSpec.ofChange Rows.fnExactIsValidConsoleSpec).preRow enc Tryz.prog Tryz.f3 Rows.fnExactIsValidConsoleRow.domain false Rows.fnExactIsValidConsoleRow.laid) (((OpenSpec.ofChange Rows.fnExactIsValidConsoleSpec).at F).post enc Tryz.prog Tryz.f3 false true false false) := by
  obtain ⟨places, hx⟩ := reads os enc
  refine returnsInHanded_of_row (C := Tryz.checked) (s := OpenSpec.ofChange Rows.fnExactIsValidConsoleSpec) own started (by kernel_rfl) Tryz.func3
    (witness_row_at (enc := enc) (C := Tryz.checked) false (laidWorld os) #[.agg #[.int .i64 0, .bool false, .slice none 0 0, .slice none 0 0, .int .i64 0, .string ByteArray.empty, .string ByteArray.empty, .int .i64 0]] rfl (by kernel_rfl) (by kernel_rfl) (by kernel_rfl)
      (OpenSpec.preRow_of_cond 8 hx (by kernel_rfl) (fun k hk => by cases hk) (by kernel_rfl) (laid_met os))) ?_
  intro W base args ds gs before hval hW _ _ hsz hL _ _
  exact contract H enc W base args ds gs before hval hW hsz hL
theorem said : Rows.FnExactIsValidConsoleSaid :=
  OpenClaim.holds_of_cond 3 Tryz.f3 rfl rfl rfl rfl rfl rfl rfl ⟨rfl, rfl, rfl, rfl, rfl⟩ rfl rfl rfl rfl rfl (by kernel_rfl) Tryz.func3 (by kernel_rfl)
    (of_decide_eq_true (by kernel_rfl)) (by unfold Func.isWrapper; first | (rw [if_pos (by decide +kernel)]; kernel_rfl) | (rw [if_neg (by decide +kernel)]; exact ⟨rfl, rfl⟩))
    (fun os started H enc _ F => by rw [OpenClaim.pre_eq_preRow]; exact lifted os started H enc F)
/-- No parameter wants a stand-in; the program's own looks are off. -/
theorem plain (f : FuncId) (fn : Func) (hf : Tryz.pinned.checked.prog.funcNamed "loop.example/g01167/laws.FnExactIsValidConsole" = some f) (hfn : Tryz.pinned.checked.prog.funcs[f]? = some fn) :
    false = Tryz.pinned.checked.prog.looks [] ∧ ∀ (j : Nat) t, fn.params[j]? = some t → Tryz.pinned.checked.prog.wantsStandIn t = false := by
  obtain rfl : f = 3 := Option.some.inj ((show Tryz.prog.funcNamed "loop.example/g01167/laws.FnExactIsValidConsole" = some 3 by kernel_rfl).symm.trans hf) |>.symm
  obtain rfl : fn = Tryz.f3 := (Option.some.inj (Tryz.func3.symm.trans hfn)).symm
  refine ⟨by kernel_rfl, fun j t ht => ?_⟩
  have h : ∀ x ∈ Tryz.f3.params.toList, Tryz.prog.wantsStandIn x = false := by
    rw [Tryz.params3]
    intro x hx
    simp only [List.mem_cons, List.not_mem_nil, or_false] at hx
    subst hx; kernel_rfl
  exact h t (Array.mem_toList_iff.2 (Array.mem_of_getElem? ht))
theorem card : Rows.FnExactIsValidConsoleCardSaid :=
  Claim7.holds_tied_plain_at .later [] _ _ _ _ said (fun _ h => by cases h) (by kernel_rfl) (fun _ h => by cases h) fnExactIsValidConsole_row_tie rfl ⟨rfl, rfl⟩ (by kernel_rfl) rfl plain (by kernel_rfl)
#print axioms card
end Go.Proofs.YtgmodeeebkngcaaGreatDoor.fnExactIsValidConsole
namespace Go.Proofs.YtgmodeeebkngcaaGreatDoor
/-- The card, under a short name, for the claim. -/
theorem fnExactIsValidConsole_holds : Rows.FnExactIsValidConsoleCardSaid := fnExactIsValidConsole.card
end Go.Proofs.YtgmodeeebkngcaaGreatDoor
