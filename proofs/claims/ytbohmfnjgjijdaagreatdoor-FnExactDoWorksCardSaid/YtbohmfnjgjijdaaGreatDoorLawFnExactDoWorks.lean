-- The given statement out of the pure one, for a law with a struct among its parameters. Written by rowlaw.py, a program of this session.
import Derived.Test.YtbohmfnjgjijdaaGreatDoorCards
import Derived.Test.YtbohmfnjgjijdaaGreatDoorTie
import Derived.Test.YtbohmfnjgjijdaaGreatDoorPureFnExactDoWorks
import Derived.WalkKit
import Derived.ProofKit
import Derived.OpenShut
import Derived.ShutString
import Derived.ChangeOld
import Derived.Below
import Derived.SizedLaws
import Derived.Lib.SmallJoins
import Derived.Deep.Slices
import Derived.Test.YtbohmfnjgjijdaaGreatDoorVDoWorksSized
import Derived.Deep.DeepHandedRow
import Derived.Lib.LaidTab
import Derived.Stop.LaidErr
namespace Go.Proofs.YtbohmfnjgjijdaaGreatDoor.fnExactDoWorks
open Go.ChangeShapes Go.WideShapes Go.ChangeAt Go.RowKit Go.Proofs.YtbohmfnjgjijdaaGreatDoor.QFnExactDoWorks Go.Proofs.YtbohmfnjgjijdaaGreatDoorW.PrintWords Go.Proofs.YtbohmfnjgjijdaaGreatDoorW.PrintLast
open Go.ChangeMaps (open_string shut_string)
set_option linter.unusedVariables false
theorem own : ownKnob Tryz.prog.godebug = none := by kernel_rfl
theorem laidOut : laidOutB Tryz.prog = true := by kernel_rfl
theorem lenOf3 {α : Type} {cs : List α} (h : cs.length = 3) : ∃ u0 u1 u2, cs = [u0, u1, u2] := by
  match cs, h with
  | [u0, u1, u2], _ => exact ⟨u0, u1, u2, rfl⟩
theorem open_row66 {H : Type} {enc : TypeId × Value → H} {w : World} {base : Nat} {spare : Nat → Bool} {held : Bool} {fuel : Nat} {v : Value} {y : DataW H × List MemPlace} (h : DataW.trod enc Tryz.prog w base spare held fuel 27 [v] = some y) :
    ∃ (A : Option Addr) (c : Nat) (l : List S66), v = .slice A l.length c ∧ Kd.C k66 w A l.length l ∧ l.length ≤ c ∧ l.length ≤ maxLen := by
  rcases Go.Deep.open_slice Tryz.underlying27 h with ⟨hcs, _⟩ | ⟨a, len, cap, m, n, D, Pl, hcs, hb, hl, hm, hmm, hx, hi⟩
  · obtain rfl : v = .slice none 0 0 := by simpa using hcs
    exact ⟨none, 0, [], rfl, Kd.C_nil _ _, Nat.le_refl _, Nat.zero_le _⟩
  · obtain rfl : v = .slice (some a) len cap := by simpa using hcs
    have ce : Tryz.prog.cellsOf 66 = 3 := by kernel_rfl
    have c3 : Tryz.prog.cellsOf 3 = 1 := by kernel_rfl
    have hlm : len ≤ m := by rw [hmm]; split <;> omega
    have each : ∀ i, i < len → ∃ x : S66, w.cell? (a.add (i * 3 + 0)) = some (.int .i64 x.f0) ∧ w.cell? (a.add (i * 3 + 1)) = some (.int .i64 x.f1) ∧ w.cell? (a.add (i * 3 + 2)) = some (.int .i64 x.f2) := fun i hil => by
      obtain ⟨cs', h1, h2⟩ := hi i (by omega)
      rw [ce] at h1
      obtain ⟨_, hcl, hat⟩ := World.cells?_some h1
      obtain ⟨xs, n', _, _, _, hlen, hf⟩ := DataW.trod_struct Tryz.underlying66 h2
      obtain ⟨u0, u1, u2, rfl⟩ := lenOf3 hcl
      match xs, hlen with
      | [y0, y1, y2], _ =>
        obtain ⟨x0, hb0, _, _⟩ := DataW.trod_int Tryz.underlying3 (show DataW.trod enc Tryz.prog w base spare held n' 3 [u0] = some y0 by simpa [c3] using hf 0 _ rfl)
        obtain rfl : u0 = .int .i64 x0 := by simpa using hb0
        obtain ⟨x1, hb1, _, _⟩ := DataW.trod_int Tryz.underlying3 (show DataW.trod enc Tryz.prog w base spare held n' 3 [u1] = some y1 by simpa [c3] using hf 1 _ rfl)
        obtain rfl : u1 = .int .i64 x1 := by simpa using hb1
        obtain ⟨x2, hb2, _, _⟩ := DataW.trod_int Tryz.underlying3 (show DataW.trod enc Tryz.prog w base spare held n' 3 [u2] = some y2 by simpa [c3] using hf 2 _ rfl)
        obtain rfl : u2 = .int .i64 x2 := by simpa using hb2
        exact ⟨⟨x0, x1, x2⟩, by have z := hat 0 (by omega); rw [Go.Deep.add_add] at z; simpa using z, by have z := hat 1 (by omega); rw [Go.Deep.add_add] at z; simpa using z, by have z := hat 2 (by omega); rw [Go.Deep.add_add] at z; simpa using z⟩
    obtain ⟨l, hl0, hall⟩ : ∃ l : List S66, l.length = len ∧ ∀ i x, l[i]? = some x → w.cell? (a.add (i * 3 + 0)) = some (.int .i64 x.f0) ∧ w.cell? (a.add (i * 3 + 1)) = some (.int .i64 x.f1) ∧ w.cell? (a.add (i * 3 + 2)) = some (.int .i64 x.f2) := by
      obtain ⟨f, hf⟩ : ∃ f : Nat → S66, ∀ i, i < len → w.cell? (a.add (i * 3 + 0)) = some (.int .i64 (f i).f0) ∧ w.cell? (a.add (i * 3 + 1)) = some (.int .i64 (f i).f1) ∧ w.cell? (a.add (i * 3 + 2)) = some (.int .i64 (f i).f2) := by
        classical
        refine ⟨fun i => if g : i < len then Classical.choose (each i g) else z66, fun i hi => ?_⟩
        simp only [dif_pos hi]
        exact Classical.choose_spec (each i hi)
      refine ⟨(List.range len).map f, by simp, fun i x hix => ?_⟩
      have hil : i < len := by simpa using (List.getElem?_eq_some_iff.1 hix).1
      obtain rfl : f i = x := by simpa [List.getElem?_map, List.getElem?_range hil] using hix
      exact hf i hil
    subst hl0
    have hmx : maxLen ≤ 9223372036854775807 := by decide
    refine ⟨some a, cap, l, rfl, ⟨rfl, by omega, fun _ => ⟨a, rfl, fun j p hp => ?_⟩⟩, hl, by omega⟩
    obtain ⟨g0, g1, g2⟩ := hall j p hp
    refine ⟨[.int .i64 p.f0, .int .i64 p.f1, .int .i64 p.f2], rfl, ⟨_, _, rfl, rfl, ⟨_, _, rfl, rfl, rfl⟩⟩, fun i u hu => ?_⟩
    match i, hu with
    | 0, hu => cases hu; exact g0
    | 1, hu => cases hu; exact g1
    | 2, hu => cases hu; exact g2
theorem arr5 {α : Type} {cs : Array α} (h : cs.size = 5) : ∃ c0 c1 c2 c3 c4, cs = #[c0, c1, c2, c3, c4] := by
  obtain ⟨l⟩ := cs
  match l, h with
  | [c0, c1, c2, c3, c4], _ => exact ⟨c0, c1, c2, c3, c4, rfl⟩
theorem open_t24 {H : Type} {enc : TypeId × Value → H} {w : World} {base : Nat} {spare : Nat → Bool} {held : Bool} {fuel : Nat} {v0 v1 v2 : Value} {y : DataW H × List MemPlace} (h : DataW.trod enc Tryz.prog w base spare held fuel 24 [v0, v1, v2] = some y) :
    ∃ (y0 y1 y2 : DataW H × List MemPlace) (n : Nat), DataW.trod enc Tryz.prog w base spare held n 3 [v0] = some y0 ∧ DataW.trod enc Tryz.prog w base spare held n 4 [v1] = some y1 ∧ DataW.trod enc Tryz.prog w base spare held n 22 [v2] = some y2 := by
  obtain ⟨xs, n, _, rfl, hl, hlen, hf⟩ := DataW.trod_struct Tryz.underlying24 h
  have c3 : Tryz.prog.cellsOf 3 = 1 := by kernel_rfl
  have c4 : Tryz.prog.cellsOf 4 = 1 := by kernel_rfl
  have c22 : Tryz.prog.cellsOf 22 = 1 := by kernel_rfl
  match xs, hlen with
  | [y0, y1, y2], _ => exact ⟨y0, y1, y2, n, by simpa [c3] using hf 0 _ rfl, by simpa [c4] using hf 1 _ rfl, by simpa [c22] using hf 2 _ rfl⟩
theorem open_t26 {H : Type} {enc : TypeId × Value → H} {w : World} {base : Nat} {spare : Nat → Bool} {held : Bool} {fuel : Nat} {v0 v1 v2 v3 v4 : Value} {y : DataW H × List MemPlace} (h : DataW.trod enc Tryz.prog w base spare held fuel 26 [v0, v1, v2, v3, v4] = some y) :
    ∃ (y0 y1 y2 : DataW H × List MemPlace) (n : Nat), DataW.trod enc Tryz.prog w base spare held n 24 [v0, v1, v2] = some y0 ∧ DataW.trod enc Tryz.prog w base spare held n 22 [v3] = some y1 ∧ DataW.trod enc Tryz.prog w base spare held n 3 [v4] = some y2 := by
  obtain ⟨xs, n, _, rfl, hl, hlen, hf⟩ := DataW.trod_struct Tryz.underlying26 h
  have c24 : Tryz.prog.cellsOf 24 = 3 := by kernel_rfl
  have c22 : Tryz.prog.cellsOf 22 = 1 := by kernel_rfl
  have c3 : Tryz.prog.cellsOf 3 = 1 := by kernel_rfl
  match xs, hlen with
  | [y0, y1, y2], _ => exact ⟨y0, y1, y2, n, by simpa [c24] using hf 0 _ rfl, by simpa [c22] using hf 1 _ rfl, by simpa [c3] using hf 2 _ rfl⟩
theorem gTab : Tryz.prog.globalNamed "math/bits.deBruijn32tab" = some 0 := by kernel_rfl
theorem gTabType : (Tryz.prog.globals[0]?).map (·.type) = some 123 := by kernel_rfl
theorem cellsT : Tryz.prog.cellsOf 123 = 32 := by kernel_rfl
theorem cellsE : Tryz.prog.cellsOf 5 = 1 := by kernel_rfl
/-- What the row's list gives: the table's cells hold its numbers. -/
theorem table {W : World} (h : laidMetH Tryz.prog Rows.fnExactDoWorksRow.laid W) : Lib.TabIs Tryz.prog W "math/bits.deBruijn32tab" .u8 [0, 1, 28, 2, 29, 14, 24, 3, 30, 22, 20, 15, 25, 17, 4, 8, 31, 27, 13, 23, 21, 19, 16, 7, 26, 12, 18, 6, 11, 5, 10, 9] :=
  Lib.tabIs_of_head gTab gTabType Tryz.underlying123 Tryz.underlying5 cellsE cellsT (show laidMet Tryz.prog Rows.fnExactDoWorksRow.laid W from h)
theorem tabAt : ∀ j, j < 32 → ([0, 1, 28, 2, 29, 14, 24, 3, 30, 22, 20, 15, 25, 17, 4, 8, 31, 27, 13, 23, 21, 19, 16, 7, 26, 12, 18, 6, 11, 5, 10, 9] : List Int).getD j 0 = ((Lib.deBruijn32tab.getD j 0 : Nat) : Int) := by decide
theorem tabOK {W : World} (h : laidMetH Tryz.prog Rows.fnExactDoWorksRow.laid W) : QFnExactDoWorks.TabOK W := by
  intro j hj
  have hj : j < 32 := hj
  have := (table h).cell gTab j hj
  rw [tabAt j hj] at this
  exact this
set_option maxRecDepth 100000 in
theorem contract (H : Type) (enc : TypeId × Value → H) (W : World) (base : Nat) (args : Array Value) (ds gs : List (DataW H)) (before : List MemPlace)
    (hval : ∀ (j : Nat) t v, Tryz.f3.params[j]? = some t → args[j]? = some v → Value.okWide Tryz.prog W .any base t v)
    (hW : DataW.Whole enc Tryz.prog Tryz.f3.params.toList Rows.fnExactDoWorksSpec.vars false W args.toList ds gs before)
    (hsz : (DataW.weightsEach Tryz.prog (Tryz.f3.params.toList ++ Rows.fnExactDoWorksSpec.plain.varTypes Tryz.prog) (ds ++ gs)).all (· ≤ reachBytes) = true)
    (hL : laidMetH Tryz.prog Rows.fnExactDoWorksRow.laid W) :
    Calls Tryz.prog 3 args W fun e W' => ∃ v, e = .returned v ∧ Rows.fnExactDoWorksSpec.post enc Tryz.prog Tryz.f3 false true false false W args v W' := by
  have hW' := hW
  obtain ⟨p, q, hA0, hV, rfl, hfz, hnd⟩ := hW
  have hA : DataW.TrodAll enc Tryz.prog W 0 (fun _ => true) true Tryz.f3.params.toList args.toList ds p := hA0
  rw [Tryz.params3] at hA hval hsz
  obtain ⟨v0, vs0, d0, ds0, p0, q0, hargs, rfl, rfl, h0, r0⟩ := trodAll_cons hA
  obtain ⟨v1, vs1, d1, ds1, p1, q1, rfl, rfl, rfl, h1, r1⟩ := trodAll_cons r0
  obtain ⟨rfl, rfl, rfl⟩ := trodAll_nil r1
  obtain rfl : args = #[v0, v1] := by cases args; simp_all
  obtain ⟨rfl, rfl⟩ := trodVars_none hV
  have k0 := h0
  have lt0 : ∀ x ∈ p0, x.block < W.heap.size := by obtain ⟨m, hm⟩ := k0; exact DataW.trod_lt m _ _ _ hm
  obtain ⟨cs0, rfl, hcz0⟩ := okWide_struct Tryz.underlying26 (hval 0 26 v0 rfl rfl)
  obtain ⟨v0_0, v0_1, v0_2, v0_3, v0_4, rfl⟩ := arr5 (hcz0.trans (by kernel_rfl : Tryz.prog.cellsOf 26 = 5))
  obtain ⟨fuel0, hf0⟩ := h0
  have hf0' : DataW.trod enc Tryz.prog W 0 (fun _ => true) true fuel0 26 [v0_0, v0_1, v0_2, v0_3, v0_4] = some (d0, p0) := hf0
  obtain ⟨y0_1_0, y0_1_1, y0_1_2, n0_1, t0_1_0, t0_1_1, t0_1_2⟩ := open_t26 hf0'
  obtain ⟨y0_2_0, y0_2_1, y0_2_2, n0_2, t0_2_0, t0_2_1, t0_2_2⟩ := open_t24 t0_1_0
  obtain ⟨a0_0_0, hba0_0_0, _, hwa0_0_0⟩ := DataW.trod_int Tryz.underlying3 t0_2_0
  obtain rfl : v0_0 = .int .i64 a0_0_0 := by simpa using hba0_0_0
  clear hba0_0_0
  obtain ⟨a0_0_1, hba0_0_1, _⟩ := DataW.trod_bool Tryz.underlying4 t0_2_1
  obtain rfl : v0_1 = .bool a0_0_1 := by simpa using hba0_0_1
  clear hba0_0_1
  obtain ⟨Aa0_0_2, Ca0_0_2, a0_0_2, sla0_0_2, hra0_0_2, hca0_0_2, hma0_0_2, hwa0_0_2⟩ : ∃ (A : Option Addr) (c : Nat) (l : List Int), v0_2 = .slice A l.length c ∧ Kd.C (Kd.int .i64) W A l.length l ∧ l.length ≤ c ∧ l.length ≤ maxLen ∧ ∀ x ∈ l, (Lit.int .i64 x).wf = true := by
    rcases open_ints Tryz.underlying22 Tryz.underlying3 (by kernel_rfl) t0_2_2 with ⟨hcs, _⟩ | ⟨x, l, c, zs, hcs, _, hl, hm, hz, _, hcell, hwz⟩
    · obtain rfl : v0_2 = .slice none 0 0 := by simpa using hcs
      exact ⟨none, 0, [], rfl, Kd.C_nil _ _, Nat.le_refl _, Nat.zero_le _, fun x hx => by cases hx⟩
    · obtain rfl : v0_2 = .slice (some x) l c := by simpa using hcs
      obtain ⟨l0, e1, hr0, hm0, hw0, hc0⟩ := ReadsInt.ofRowC (w := W) (k := .i64) (a := some x) (len := l) (cap := c) (zs := zs) (.inr ⟨x, rfl, hl, hm, by simpa using hz, hcell, hwz⟩)
      exact ⟨some x, c, l0, by rw [e1], Kd.C_of_reads (d := (0 : Int)) (h1 := fun _ => rfl) hr0, hc0, hm0, hw0⟩
  subst sla0_0_2
  obtain ⟨Aa0_1, Ca0_1, a0_1, sla0_1, hra0_1, hca0_1, hma0_1, hwa0_1⟩ : ∃ (A : Option Addr) (c : Nat) (l : List Int), v0_3 = .slice A l.length c ∧ Kd.C (Kd.int .i64) W A l.length l ∧ l.length ≤ c ∧ l.length ≤ maxLen ∧ ∀ x ∈ l, (Lit.int .i64 x).wf = true := by
    rcases open_ints Tryz.underlying22 Tryz.underlying3 (by kernel_rfl) t0_1_1 with ⟨hcs, _⟩ | ⟨x, l, c, zs, hcs, _, hl, hm, hz, _, hcell, hwz⟩
    · obtain rfl : v0_3 = .slice none 0 0 := by simpa using hcs
      exact ⟨none, 0, [], rfl, Kd.C_nil _ _, Nat.le_refl _, Nat.zero_le _, fun x hx => by cases hx⟩
    · obtain rfl : v0_3 = .slice (some x) l c := by simpa using hcs
      obtain ⟨l0, e1, hr0, hm0, hw0, hc0⟩ := ReadsInt.ofRowC (w := W) (k := .i64) (a := some x) (len := l) (cap := c) (zs := zs) (.inr ⟨x, rfl, hl, hm, by simpa using hz, hcell, hwz⟩)
      exact ⟨some x, c, l0, by rw [e1], Kd.C_of_reads (d := (0 : Int)) (h1 := fun _ => rfl) hr0, hc0, hm0, hw0⟩
  subst sla0_1
  obtain ⟨a0_2, hba0_2, _, hwa0_2⟩ := DataW.trod_int Tryz.underlying3 t0_1_2
  obtain rfl : v0_4 = .int .i64 a0_2 := by simpa using hba0_2
  clear hba0_2
  have k1 := h1
  have lt1 : ∀ x ∈ p1, x.block < W.heap.size := by obtain ⟨m, hm⟩ := k1; exact DataW.trod_lt m _ _ _ hm
  obtain ⟨b1, len1, cap1, rfl⟩ := okWide_slice Tryz.underlying27 (hval 1 27 v1 rfl rfl)
  obtain ⟨fuel1, hf1⟩ := h1
  have hf1' : DataW.trod enc Tryz.prog W 0 (fun _ => true) true fuel1 27 [.slice b1 len1 cap1] = some (d1, p1) := hf1
  obtain ⟨z1, hz1⟩ : ∃ z, z = Value.slice b1 len1 cap1 := ⟨_, rfl⟩
  rw [← hz1] at hf1'
  obtain ⟨Aa1, Ca1, a1, sla1, hra1, hca1, hma1⟩ := open_row66 hf1'
  obtain ⟨rfl, rfl, rfl⟩ : b1 = Aa1 ∧ len1 = a1.length ∧ cap1 = Ca1 := by rw [hz1] at sla1; injection sla1 with e1 e2 e3; exact ⟨e1, e2, e3⟩
  clear sla1 hz1 hf1'
  obtain ⟨k, h⟩ := Pure.FnExactDoWorks a0_0_0 a0_0_1 a0_0_2 a0_1 a0_2 a1 hwa0_0_0 hma0_0_2 hwa0_0_2 hma0_1 hwa0_1 hwa0_2 hma1
  refine (laws_FnExactDoWorks.calls k a0_0_0 a0_0_1 _ _ a0_0_2 _ _ a0_1 a0_2 _ _ a1 true W hra0_0_2 hca0_0_2 hra0_1 hca0_1 hra1 hca1 (tabOK hL) h).mono fun e W' ⟨he, bel0⟩ => ?_
  have bel : Below W.heap.size W W' := bel0
  subst he
  exact ⟨_, rfl, _, _, _, [], _, [], hW', trodAll_mk1 (shut_bool Tryz.underlying4 _), (trodAll_cons_mk (Below.trod laidOut (by kernel_rfl) (of_decide_eq_true (by kernel_rfl)) k0 bel lt0) (trodAll_cons_mk (Below.trod laidOut (by kernel_rfl) (of_decide_eq_true (by kernel_rfl)) k1 bel lt1) trodAll_mk0)), rfl, bel.frame _, fun h => by cases h⟩
/-- A world for the witness: the settled one, the tables holding what their initialisers lay. -/
noncomputable def laidWorld (os : Os) : World :=
  { World.holding Tryz.prog os ⟨#[], #[], []⟩ with heap := ((World.holding Tryz.prog os ⟨#[], #[], []⟩).heap.modify 0 (fun
      | .cells _ t frozen => .cells #[.int .u8 0, .int .u8 1, .int .u8 28, .int .u8 2, .int .u8 29, .int .u8 14, .int .u8 24, .int .u8 3, .int .u8 30, .int .u8 22, .int .u8 20, .int .u8 15, .int .u8 25, .int .u8 17, .int .u8 4, .int .u8 8, .int .u8 31, .int .u8 27, .int .u8 13, .int .u8 23, .int .u8 21, .int .u8 19, .int .u8 16, .int .u8 7, .int .u8 26, .int .u8 12, .int .u8 18, .int .u8 6, .int .u8 11, .int .u8 5, .int .u8 10, .int .u8 9] t frozen
      | o => o)) }
theorem laid_met (os : Os) : laidMet Tryz.prog Rows.fnExactDoWorksRow.laid ((laidWorld os).forCall (fun _ _ => 0) ⟨#[], #[.agg #[.int .i64 0, .bool false, .slice none 0 0, .slice none 0 0, .int .i64 0], .slice none 0 0], []⟩).memory :=
  laidMet_of_run' 8 (by kernel_rfl) (by kernel_rfl)
theorem reads (os : Os) {H : Type} (enc : TypeId × Value → H) : ∃ places, DataW.whole enc Tryz.prog ((laidWorld os).forCall (fun _ _ => 0) ⟨#[], #[.agg #[.int .i64 0, .bool false, .slice none 0 0, .slice none 0 0, .int .i64 0], .slice none 0 0], []⟩).memory Tryz.f3.params.toList Rows.fnExactDoWorksSpec.vars false (#[.agg #[.int .i64 0, .bool false, .slice none 0 0, .slice none 0 0, .int .i64 0], .slice none 0 0] : Array Value).toList 8 = some ([.agg [.agg [.lit (.int .i64 0), .lit (.bool false), .nil], .nil, .lit (.int .i64 0)], .nil], [], places) :=
  ⟨[], by kernel_rfl⟩
set_option maxRecDepth 100000 in
theorem lifted (os : Os) (started : os.Started) (H : Type) (enc : TypeId × Value → H) (F : Stop.Interp) :
    ReturnsInHanded {} Tryz.checked os 3 .any ((OpenSpec.ofChange Rows.fnExactDoWorksSpec).preRow enc Tryz.prog Tryz.f3 Rows.fnExactDoWorksRow.domain false Rows.fnExactDoWorksRow.laid) (((OpenSpec.ofChange Rows.fnExactDoWorksSpec).at F).post enc Tryz.prog Tryz.f3 false true false false) := by
  obtain ⟨places, hx⟩ := reads os enc
  refine returnsInHanded_of_row (C := Tryz.checked) (s := OpenSpec.ofChange Rows.fnExactDoWorksSpec) own started (by kernel_rfl) Tryz.func3
    (witness_row_at (enc := enc) (C := Tryz.checked) false (laidWorld os) #[.agg #[.int .i64 0, .bool false, .slice none 0 0, .slice none 0 0, .int .i64 0], .slice none 0 0] rfl (by kernel_rfl) (by kernel_rfl) (by kernel_rfl)
      (OpenSpec.preRow_of_cond 8 hx (by kernel_rfl) (fun k hk => by cases hk) (by kernel_rfl) (laid_met os))) ?_
  intro W base args ds gs before hval hW _ _ hsz hL _ _
  exact contract H enc W base args ds gs before hval hW hsz hL
theorem said : Rows.FnExactDoWorksSaid :=
  OpenClaim.holds_of_cond 3 Tryz.f3 rfl rfl rfl rfl rfl rfl rfl ⟨rfl, rfl, rfl, rfl, rfl⟩ rfl rfl rfl rfl rfl (by kernel_rfl) Tryz.func3 (by kernel_rfl)
    (of_decide_eq_true (by kernel_rfl)) (by unfold Func.isWrapper; first | (rw [if_pos (by decide +kernel)]; kernel_rfl) | (rw [if_neg (by decide +kernel)]; exact ⟨rfl, rfl⟩))
    (fun os started H enc _ F => by rw [OpenClaim.pre_eq_preRow]; exact lifted os started H enc F)
/-- No parameter wants a stand-in; the program's own looks are off. -/
theorem plain (f : FuncId) (fn : Func) (hf : Tryz.pinned.checked.prog.funcNamed "loop.example/g01167/laws.FnExactDoWorks" = some f) (hfn : Tryz.pinned.checked.prog.funcs[f]? = some fn) :
    false = Tryz.pinned.checked.prog.looks [] ∧ ∀ (j : Nat) t, fn.params[j]? = some t → Tryz.pinned.checked.prog.wantsStandIn t = false := by
  obtain rfl : f = 3 := Option.some.inj ((show Tryz.prog.funcNamed "loop.example/g01167/laws.FnExactDoWorks" = some 3 by kernel_rfl).symm.trans hf) |>.symm
  obtain rfl : fn = Tryz.f3 := (Option.some.inj (Tryz.func3.symm.trans hfn)).symm
  refine ⟨by kernel_rfl, fun j t ht => ?_⟩
  have h : ∀ x ∈ Tryz.f3.params.toList, Tryz.prog.wantsStandIn x = false := by
    rw [Tryz.params3]
    intro x hx
    simp only [List.mem_cons, List.not_mem_nil, or_false] at hx
    rcases hx with rfl | rfl <;> kernel_rfl
  exact h t (Array.mem_toList_iff.2 (Array.mem_of_getElem? ht))
theorem card : Rows.FnExactDoWorksCardSaid :=
  Claim7.holds_tied_plain_at .later [] _ _ _ _ said (fun _ h => by cases h) (by kernel_rfl) (fun _ h => by cases h) fnExactDoWorks_row_tie rfl ⟨rfl, rfl⟩ (by kernel_rfl) rfl plain (by kernel_rfl)
#print axioms card
end Go.Proofs.YtbohmfnjgjijdaaGreatDoor.fnExactDoWorks
namespace Go.Proofs.YtbohmfnjgjijdaaGreatDoor
/-- The card, under a short name, for the claim. -/
theorem fnExactDoWorks_holds : Rows.FnExactDoWorksCardSaid := fnExactDoWorks.card
end Go.Proofs.YtbohmfnjgjijdaaGreatDoor
