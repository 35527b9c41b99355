-- Written by px.py, a program of this session, over the kit's printer: some functions have a definition and a proof of this session's own.
import Derived.Maps.Own
import Derived.Maps.OwnSet
import Derived.Maps.AppendAt
import Derived.Maps.RangeWalk
import Derived.Maps.OwnOps
import Derived.KernelRfl
import Derived.Laws.EntriesVeiled
import Derived.Test.YtgcgmlbjklkkjaaQFnExactReverseWonx0
import Derived.Test.YtgcgmlbjklkkjaaQFnExactReverseWonx6
import Derived.Test.YtgcgmlbjklkkjaaQFnExactReverseWonx7
namespace Go.Proofs.Ytgcgmlbjklkkjaa.QFnExactReverseWon
open Go.RowKit Go.Proofs.YtgcgmlbjklkkjaaW.PrintWords Go.Proofs.YtgcgmlbjklkkjaaW.PrintLast Go.Proofs.YtgcgmlbjklkkjaaW.PrintMore
attribute [local go_sem] max2_int min2_int max_two min_two max_three min_three max_four min_four   -- for this text's walks alone
set_option linter.unusedVariables false
set_option linter.unusedSimpArgs false

/-! ### impl_bench_moves: function 52 -/
def impl_bench_moves.l0 : Nat → Int → Int → List Int → Int → Int → Int → Bool → Option (List Int)
  | 0, _, _, _, _, _, _, _ => none
  | k + 1, x1, x2, x7, x13, x14, x258000, x258001 => if x14 < x13 then ((impl_bench_taking.f k x258000 x258001 x1 x2 x14).bind fun bt261 => (if bt261.2 = true then (if x7.length < 17592186044416 then (impl_bench_moves.l0 k x1 x2 (x7 ++ [x14]) x13 (wrap64 (x14 + 1)) x258000 x258001) else (none)) else (impl_bench_moves.l0 k x1 x2 x7 x13 (wrap64 (x14 + 1)) x258000 x258001))) else (some x7)
def impl_bench_moves.f (k : Nat) (a0_0 : Int) (a0_1 : Bool) (a1 : Int) (a2 : Int) : Option (List Int) := impl_bench_moves.l0 k a1 a2 (([] : List Int)) a0_0 0 a0_0 a0_1
theorem impl_bench_moves.mono_l : ∀ k, (∀ y0 y1 y2 y3 y4 y5 y6, LeO (impl_bench_moves.l0 k y0 y1 y2 y3 y4 y5 y6) (impl_bench_moves.l0 (k + 1) y0 y1 y2 y3 y4 y5 y6))
  | 0 => fun _ _ _ _ _ _ _ r h => by simp [impl_bench_moves.l0] at h
  | k + 1 => by
    have ih0 := impl_bench_moves.mono_l k
    · intro y0 y1 y2 y3 y4 y5 y6
      unfold impl_bench_moves.l0
      repeat' first
      | (with_reducible exact ih0 _ _ _ _ _ _ _)
      | (with_reducible exact impl_bench_taking.mono _ _ _ _ _ _)
      | (with_reducible exact LeO.refl _)
      | (with_reducible exact LeO.none _)
      | (with_reducible refine LeO.ite ?_ ?_)
      | (with_reducible refine LeO.bind ?_ (fun _ => ?_))
      | exact ih0 _ _ _ _ _ _ _
      | exact impl_bench_taking.mono _ _ _ _ _ _
      | exact LeO.none _
      | refine LeO.ite ?_ ?_
      | refine LeO.bind ?_ (fun _ => ?_)
theorem impl_bench_moves.mono : ∀ a0 a1 a2 a3 k, LeO (impl_bench_moves.f k a0 a1 a2 a3) (impl_bench_moves.f (k + 1) a0 a1 a2 a3) := by
  intro a0 a1 a2 a3 k
  have ih0 := impl_bench_moves.mono_l k
  unfold impl_bench_moves.f
  repeat' first
      | (with_reducible exact ih0 _ _ _ _ _ _ _)
      | (with_reducible exact impl_bench_taking.mono _ _ _ _ _ _)
      | (with_reducible exact LeO.refl _)
      | (with_reducible exact LeO.none _)
      | (with_reducible refine LeO.ite ?_ ?_)
      | (with_reducible refine LeO.bind ?_ (fun _ => ?_))
      | exact ih0 _ _ _ _ _ _ _
      | exact impl_bench_taking.mono _ _ _ _ _ _
      | exact LeO.none _
      | refine LeO.ite ?_ ?_
      | refine LeO.bind ?_ (fun _ => ?_)
set_option maxHeartbeats 8000000 in
set_option maxRecDepth 100000 in
theorem impl_bench_moves.calls (k : Nat) (a0_0 : Int) (a0_1 : Bool) (a1 : Int) (a2 : Int) (r : List Int) (w : World) (h : impl_bench_moves.f k a0_0 a0_1 a1 a2 = some r) :
    Calls Try.prog 52 #[.agg #[.int .i64 a0_0, .bool a0_1], .int .u32 a1, .int .i64 a2] w fun e w' => ∃ v0_ : Value, e = .returned (v0_) ∧ Kd.R (Kd.int .i64) 3 w' w.heap.size (fun _ => True) v0_ r ∧ Below w.heap.size w w' := by
  have hu57 := Try.underlying57
  have HB := Aside0.mk (Below.refl w.heap.size w)
  have H : (impl_bench_moves.l0 k a1 a2 (([] : List Int)) a0_0 0 a0_0 a0_1) = some r := h
  clear h
  obtain ⟨y258, hy258⟩ : ∃ y_ : List Int, y_ = (([] : List Int)) := ⟨_, rfl⟩
  replace H : (impl_bench_moves.l0 k a1 a2 y258 a0_0 0 a0_0 a0_1) = some r := by first | (rw [hy258]; with_reducible exact H) | (have H2_ := (Option.bind_some _ _).symm.trans H; rw [hy258]; with_reducible exact H2_) | (have H2_ := (Option.bind_some _ _).symm.trans H; with_reducible exact H2_) | with_reducible exact H | (rw [hy258]; exact H) | exact H
  have Ny258 := Aside0.mk hy258
  clear hy258
  have H' := Aside0.mk H
  clear H
  go_enter Try.func52, Try.ntmps52
  go_wp2_with (first | ((with_reducible refine gate_dst (N := 3) rfl ?_); refine box_event ?hg (N := 3) ?hd (cs := #[.int .i64 a0_0, .bool a0_1]) (t := 57) ?hr ?_; (case hd => rfl); (case hg => rfl); (case hr => first | (go_simp; done) | (go_simp; rfl)); intro gb257 hg w4 hbox hb; have n0_ := Aside0.mk (below_step (by repeat (first | (with_reducible first | exact HB.out | apply below_alloc | apply pw_below_drewN | apply below_drew1) | exact HB.out)) hb); have n1_ := Aside0.mk (hbox); have n2_ := Aside0.mk ((by rw [hg]; exact (below_size (by repeat (first | (with_reducible first | exact HB.out | apply below_alloc | apply pw_below_drewN | apply below_drew1) | exact HB.out))) : w.heap.size ≤ gb257)); have n3_ := Aside0.mk ((by rw [hg]; exact (below_size (by repeat (first | (with_reducible first | exact HB.out | apply below_alloc | apply pw_below_drewN | apply below_drew1) | exact HB.out))) : w.heap.size ≤ gb257)); clear HB; have HB := n0_; have BK257 := n1_; have GW257 := n2_; have GE257 := n3_; clear n0_ n1_ n2_ n3_; clear hb hbox hg) | ((with_reducible refine gate_dst (N := 11) rfl ?_); refine Kd.R_lit (Kd.int .i64) _ 3 ?hg (N := 11) ?hd (xs := ([] : List Int)) (inner := []) (ok := fun _ => True) (okp := fun _ => True) ?hr ?hp (fun _ hk => hk) trivial (Below.refl _ _) (Nat.le_refl _) (by simp) ?_; (case hd => rfl); (case hg => rfl); (case hr => first | (go_simp; done) | (go_simp; rfl)); (case hp => exact (Reps.none _ _)); intro v259 w5 ho6 hb hg_ hnew_; clear hg_ hnew_; (first | rw [← Ny258.out] at ho6 | (simp only [Int.reduceToNat] at ho6; rw [← Ny258.out] at ho6)); have n0_ := Aside0.mk (Kd.R_lower ho6 (below_size (by repeat (first | (with_reducible first | exact HB.out | apply below_alloc | apply pw_below_drewN | apply below_drew1 | refine below_set ?_ GE257.out) | exact HB.out)))); have n1_ := Aside0.mk (blk_below (g := gb257) (o := .cells #[.int .i64 a0_0, .bool a0_1] 57 (0, 0)) (by (with_reducible repeat (first | refine blk_drewN ?_ _ | refine blk_drew ?_ | refine blk_alloc ?_ _)); exact BK257.out) hb); have n2_ := Aside0.mk (below_step (by repeat (first | (with_reducible first | exact HB.out | apply below_alloc | apply pw_below_drewN | apply below_drew1 | refine below_set ?_ GE257.out) | exact HB.out)) hb); clear BK257; clear HB; have HO260 := n0_; have BK257 := n1_; have HB := n2_; clear n0_ n1_ n2_; clear hb ho6; have hcz7_0 : w5.cell? ⟨gb257, 0, none⟩ = some (.int .i64 a0_0) := (blk_cell BK257.out 0).trans rfl; have hcz7_1 : w5.cell? ⟨gb257, 1, none⟩ = some (.bool a0_1) := (blk_cell BK257.out 1).trans rfl; have hfz7_0 := blk_frozen BK257.out 0; have hfz7_1 := blk_frozen BK257.out 1))
  go_loopg [7, 14] k (fun kq v7 v14 w' => ∃ (x7_1 : List Int) (x14_1 : Int), v14 = .int .i64 x14_1 ∧ Aside0 (impl_bench_moves.l0 kq a1 a2 x7_1 a0_0 x14_1 a0_0 a0_1 = some r) ∧ Aside0 (kq ≤ k) ∧ Aside0 (Kd.R (Kd.int .i64) 3 w' w.heap.size (fun _ => True) v7 x7_1) ∧ Aside0 (w'.heap[gb257]? = some (.cells #[.int .i64 a0_0, .bool a0_1] 57 (0, 0))) ∧ Aside0 (Below w.heap.size w w'))
  case atStart => exact ⟨(y258), (0), (by first | rfl | (simp; done) | (simp [*]; done)), H', ⟨Nat.le_refl _⟩, ⟨by (with_reducible repeat (first | apply Kd.R_alloc | apply Kd.R_drewN | apply Kd.R_drew)); exact HO260.out⟩, ⟨by (with_reducible repeat (first | refine blk_drewN ?_ _ | refine blk_drew ?_ | refine blk_alloc ?_ _)); exact BK257.out⟩, ⟨by repeat (first | (with_reducible first | exact HB.out | apply below_alloc | apply pw_below_drewN | apply below_drew1 | refine below_set ?_ GE257.out) | exact HB.out)⟩⟩
  case round =>
    clear H'
    try clear p2
    try clear c5
    try clear hcz7_0
    try clear hcz7_1
    try clear hfz7_0
    try clear hfz7_1
    obtain ⟨x7_1, x14_1, rfl, HA, HK1, HO_7, BK257, HB⟩ := hrel
    cases gk with
    | zero => exact absurd HA.out (by simp [impl_bench_moves.l0])
    | succ k1 =>
      have H := HA.out
      clear HA
      simp only [impl_bench_moves.l0] at H
      by_cases c8 : x14_1 < a0_0
      · rw [if_pos c8] at H
        have c8b0 : decide (x14_1 < a0_0) = true := decide_eq_true c8
        clear c8
        replace H := Option.bind_eq_some_iff.mp H
        obtain ⟨⟨t261, t262⟩, A90, H⟩ := H
        replace H : (if t262 = true then (if x7_1.length < 17592186044416 then (impl_bench_moves.l0 k1 a1 a2 (x7_1 ++ [x14_1]) a0_0 (wrap64 (x14_1 + 1)) a0_0 a0_1) else (none)) else (impl_bench_moves.l0 k1 a1 a2 x7_1 a0_0 (wrap64 (x14_1 + 1)) a0_0 a0_1)) = some r := H
        have A9 := Aside0.mk A90
        clear A90
        by_cases c10 : t262 = true
        · subst c10
          have H1 : (if x7_1.length < 17592186044416 then (impl_bench_moves.l0 k1 a1 a2 (x7_1 ++ [x14_1]) a0_0 (wrap64 (x14_1 + 1)) a0_0 a0_1) else (none)) = some r := by rw [if_pos rfl] at H; exact H
          clear H
          have H := H1
          clear H1
          by_cases c11 : x7_1.length < 17592186044416
          · rw [if_pos c11] at H
            have LMc11 := Aside0.mk c11
            clear c11
            obtain ⟨y263, hy263⟩ : ∃ y_ : List Int, y_ = (x7_1 ++ [x14_1]) := ⟨_, rfl⟩
            replace H : (impl_bench_moves.l0 k1 a1 a2 y263 a0_0 (wrap64 (x14_1 + 1)) a0_0 a0_1) = some r := by first | (rw [hy263]; with_reducible exact H) | (have H2_ := (Option.bind_some _ _).symm.trans H; rw [hy263]; with_reducible exact H2_) | (have H2_ := (Option.bind_some _ _).symm.trans H; with_reducible exact H2_) | with_reducible exact H | (rw [hy263]; exact H) | exact H
            have Ny263 := Aside0.mk hy263
            clear hy263
            have H' := Aside0.mk H
            clear H
            have hcz12_0 : wr.cell? ⟨gb257, 0, none⟩ = some (.int .i64 a0_0) := (blk_cell BK257.out 0).trans rfl
            have hcz12_1 : wr.cell? ⟨gb257, 1, none⟩ = some (.bool a0_1) := (blk_cell BK257.out 1).trans rfl
            have hfz12_0 := blk_frozen BK257.out 0
            have hfz12_1 := blk_frozen BK257.out 1
            go_wp2_with (first | ((with_reducible refine gate_callee (f := 78) rfl ?_); refine goesL_ (some 22) rfl rfl Try.func78 (by kernel_rfl) rfl #[.agg #[.int .i64 a0_0, .bool a0_1], .int .u32 a1, .int .i64 a2, .int .i64 x14_1] rfl (by (try simp only [List.map_toArray, List.map_cons, List.map_nil]); first | done | rfl | (simp only [List.length_drop, List.length_take]; rfl)) ?_; (with_reducible refine (impl_bench_taking.calls k1 a0_0 a0_1 a1 a2 x14_1 t261 true _ A9.out).mono ?_); rintro e w13 ⟨rfl, hb⟩; refine ⟨_, rfl, ?_⟩; have n0_ := Aside0.mk (Kd.R_below (by (with_reducible repeat (first | apply Kd.R_alloc | apply Kd.R_drewN | apply Kd.R_drew)); exact HO_7.out) hb); have n1_ := Aside0.mk (blk_below (g := gb257) (o := .cells #[.int .i64 a0_0, .bool a0_1] 57 (0, 0)) (by (with_reducible repeat (first | refine blk_drewN ?_ _ | refine blk_drew ?_ | refine blk_alloc ?_ _)); exact BK257.out) hb); have n2_ := Aside0.mk (below_step (by repeat (first | (with_reducible first | exact HB.out | apply below_alloc | apply pw_below_drewN | apply below_drew1 | refine below_set ?_ GE257.out) | exact HB.out)) hb); clear HO_7; clear BK257; clear HB; have HO_7 := n0_; have BK257 := n1_; have HB := n2_; clear n0_ n1_ n2_; (try clear hb); (try clear hb2); (try clear hk); (try clear hi)) | ((with_reducible refine gate_builtin (b := .append) (xs := #[.tmp 26, .tmp 28]) rfl ?_); at_builtin; refine Kd.R_append (Kd.int .i64) (w0 := w) w.heap.size rfl (.tmp 26) (.tmp 28) 22 3 (.int .i64 0) 8 rfl Try.underlying22 info3 rfl (by decide) (by omega) u7 x7_1 x14_1 [.int .i64 x14_1] (fun _ => True) (fun _ => False) rfl rfl ?aP (fun _ hk => hk.elim) ?aF ?aO ?aB ?aS ?aL ?_; (case aP => exact rfl); (case aB => exact (by repeat (first | (with_reducible first | exact HB.out | apply below_alloc | apply pw_below_drewN | apply below_drew1 | refine below_set ?_ GE257.out) | exact HB.out))); (case aF => exact (fun _ _ => trivial)); (case aO => exact (by (with_reducible repeat (first | apply Kd.R_alloc | apply Kd.R_drewN | apply Kd.R_drew)); exact HO_7.out)); (case aS => exact (below_size (by repeat (first | (with_reducible first | exact HB.out | apply below_alloc | apply pw_below_drewN | apply below_drew1 | refine below_set ?_ GE257.out) | exact HB.out)))); (case aL => have := LMc11.out; omega); intro v264 w14 ho hb hg hat; rw [← Ny263.out] at ho; have n0_ := Aside0.mk (blk_grown (g := gb257) (o := .cells #[.int .i64 a0_0, .bool a0_1] 57 (0, 0)) (by (with_reducible repeat (first | refine blk_drewN ?_ _ | refine blk_drew ?_ | refine blk_alloc ?_ _)); exact BK257.out) hg (Kd.R_ne HO_7.out BK257.out (by decide))); have n1_ := Aside0.mk (hb); have n2_ := Aside0.mk (ho); clear BK257; clear HB; clear HO_7; have BK257 := n0_; have HB := n1_; have HO265 := n2_; clear n0_ n1_ n2_; clear ho hb hg hat))
            go_roundg k1
            case measure => have := HK1.out; omega
            case rel => exact ⟨(y263), (wrap64 (x14_1 + 1)), (by first | rfl | (simp; done) | (simp [*]; done)), H', ⟨by have := HK1.out; omega⟩, ⟨by (with_reducible repeat (first | apply Kd.R_alloc | apply Kd.R_drewN | apply Kd.R_drew)); exact HO265.out⟩, ⟨by (with_reducible repeat (first | refine blk_drewN ?_ _ | refine blk_drew ?_ | refine blk_alloc ?_ _)); exact BK257.out⟩, ⟨by repeat (first | (with_reducible first | exact HB.out | apply below_alloc | apply pw_below_drewN | apply below_drew1 | refine below_set ?_ GE257.out) | exact HB.out)⟩⟩
          · rw [if_neg c11] at H
            exact absurd H (by simp)
        · replace c10 := Bool.eq_false_iff.mpr c10
          subst c10
          have H1 : (impl_bench_moves.l0 k1 a1 a2 x7_1 a0_0 (wrap64 (x14_1 + 1)) a0_0 a0_1) = some r := by rw [if_neg (show ¬ (false = true) by decide)] at H; exact H
          clear H
          have H := H1
          clear H1
          have H' := Aside0.mk H
          clear H
          have hcz15_0 : wr.cell? ⟨gb257, 0, none⟩ = some (.int .i64 a0_0) := (blk_cell BK257.out 0).trans rfl
          have hcz15_1 : wr.cell? ⟨gb257, 1, none⟩ = some (.bool a0_1) := (blk_cell BK257.out 1).trans rfl
          have hfz15_0 := blk_frozen BK257.out 0
          have hfz15_1 := blk_frozen BK257.out 1
          go_wp2_with (first | ((with_reducible refine gate_callee (f := 78) rfl ?_); refine goesL_ (some 22) rfl rfl Try.func78 (by kernel_rfl) rfl #[.agg #[.int .i64 a0_0, .bool a0_1], .int .u32 a1, .int .i64 a2, .int .i64 x14_1] rfl (by (try simp only [List.map_toArray, List.map_cons, List.map_nil]); first | done | rfl | (simp only [List.length_drop, List.length_take]; rfl)) ?_; (with_reducible refine (impl_bench_taking.calls k1 a0_0 a0_1 a1 a2 x14_1 t261 false _ A9.out).mono ?_); rintro e w16 ⟨rfl, hb⟩; refine ⟨_, rfl, ?_⟩; have n0_ := Aside0.mk (Kd.R_below (by (with_reducible repeat (first | apply Kd.R_alloc | apply Kd.R_drewN | apply Kd.R_drew)); exact HO_7.out) hb); have n1_ := Aside0.mk (blk_below (g := gb257) (o := .cells #[.int .i64 a0_0, .bool a0_1] 57 (0, 0)) (by (with_reducible repeat (first | refine blk_drewN ?_ _ | refine blk_drew ?_ | refine blk_alloc ?_ _)); exact BK257.out) hb); have n2_ := Aside0.mk (below_step (by repeat (first | (with_reducible first | exact HB.out | apply below_alloc | apply pw_below_drewN | apply below_drew1 | refine below_set ?_ GE257.out) | exact HB.out)) hb); clear HO_7; clear BK257; clear HB; have HO_7 := n0_; have BK257 := n1_; have HB := n2_; clear n0_ n1_ n2_; (try clear hb); (try clear hb2); (try clear hk); (try clear hi)))
          go_roundg k1
          case measure => have := HK1.out; omega
          case rel => exact ⟨(x7_1), (wrap64 (x14_1 + 1)), (by first | rfl | (simp; done) | (simp [*]; done)), H', ⟨by have := HK1.out; omega⟩, ⟨by (with_reducible repeat (first | apply Kd.R_alloc | apply Kd.R_drewN | apply Kd.R_drew)); exact HO_7.out⟩, ⟨by (with_reducible repeat (first | refine blk_drewN ?_ _ | refine blk_drew ?_ | refine blk_alloc ?_ _)); exact BK257.out⟩, ⟨by repeat (first | (with_reducible first | exact HB.out | apply below_alloc | apply pw_below_drewN | apply below_drew1 | refine below_set ?_ GE257.out) | exact HB.out)⟩⟩
      · rw [if_neg c8] at H
        have c8b0 : decide (x14_1 < a0_0) = false := decide_eq_false c8
        clear c8
        obtain rfl := Option.some.inj H
        go_wp2
        go_ret
        exact ⟨_, by first | rfl | (simp [errW_none, errW_some] <;> rfl) | (simp [*, errW_none, errW_some] <;> rfl), by (with_reducible repeat (first | apply Kd.R_alloc | apply Kd.R_drewN | apply Kd.R_drew)); exact HO_7.out, by repeat (first | (with_reducible first | exact HB.out | apply below_alloc | apply pw_below_drewN | apply below_drew1 | refine below_set ?_ GE257.out) | exact HB.out)⟩

/-! ### impl_setOf: function 79 -/
def impl_setOf.l0 : Nat → Int → List Int → Int → Int → Option (Int)
  | 0, _, _, _, _ => none
  | k + 1, x3, x6, x7, x8 => if x8 < x7 then (if 0 ≤ x8 then (if x8 < (x6.length : Int) then (if 0 ≤ (rd x6 x8) then (impl_setOf.l0 k (Go.bits .or .u32 x3 (shl .u32 1 (rd x6 x8))) x6 x7 (wrap64 (x8 + 1))) else (none)) else (none)) else (none)) else (some x3)
def impl_setOf.f (k : Nat) (l0 : List Int) : Option (Int) := impl_setOf.l0 k 0 l0 (l0.length : Int) 0
theorem impl_setOf.mono_l : ∀ k, (∀ y0 y1 y2 y3, LeO (impl_setOf.l0 k y0 y1 y2 y3) (impl_setOf.l0 (k + 1) y0 y1 y2 y3))
  | 0 => fun _ _ _ _ r h => by simp [impl_setOf.l0] at h
  | k + 1 => by
    have ih0 := impl_setOf.mono_l k
    · intro y0 y1 y2 y3
      unfold impl_setOf.l0
      repeat' first
      | (with_reducible exact ih0 _ _ _ _)
      | (with_reducible exact LeO.refl _)
      | (with_reducible exact LeO.none _)
      | (with_reducible refine LeO.ite ?_ ?_)
      | (with_reducible refine LeO.bind ?_ (fun _ => ?_))
      | exact ih0 _ _ _ _
      | exact LeO.none _
      | refine LeO.ite ?_ ?_
      | refine LeO.bind ?_ (fun _ => ?_)
theorem impl_setOf.mono : ∀ a0 k, LeO (impl_setOf.f k a0) (impl_setOf.f (k + 1) a0) := by
  intro a0 k
  have ih0 := impl_setOf.mono_l k
  unfold impl_setOf.f
  repeat' first
      | (with_reducible exact ih0 _ _ _ _)
      | (with_reducible exact LeO.refl _)
      | (with_reducible exact LeO.none _)
      | (with_reducible refine LeO.ite ?_ ?_)
      | (with_reducible refine LeO.bind ?_ (fun _ => ?_))
      | exact ih0 _ _ _ _
      | exact LeO.none _
      | refine LeO.ite ?_ ?_
      | refine LeO.bind ?_ (fun _ => ?_)
set_option maxHeartbeats 8000000 in
set_option maxRecDepth 100000 in
theorem impl_setOf.calls (k : Nat) (A0 : Option Addr) (c0 : Nat) (l0 : List Int) (r : Int) (w : World) (hr0 : Kd.C (Kd.int .i64) w A0 l0.length l0) (hc0 : l0.length ≤ c0) (h : impl_setOf.f k l0 = some r) :
    Calls Try.prog 79 #[.slice A0 l0.length c0] w fun e w' => e = .returned (.int .u32 r) ∧ Drawn0 w w' := by
  have HR0 := Aside0.mk hr0
  have HC0 := Aside0.mk hc0
  clear hr0 hc0
  have H : (impl_setOf.l0 k 0 l0 (l0.length : Int) 0) = some r := h
  clear h
  have H' := Aside0.mk H
  clear H
  go_enter Try.func79, Try.ntmps79
  go_wp2
  go_loopg [3, 8] k (fun kq v3 v8 w' => ∃ (x3_1 : Int) (x8_1 : Int), v3 = .int .u32 x3_1 ∧ v8 = .int .i64 x8_1 ∧ Aside0 (impl_setOf.l0 kq x3_1 l0 (l0.length : Int) x8_1 = some r) ∧ Aside0 (kq ≤ k) ∧ Drawn0 w w')
  case atStart => exact ⟨(0), (0), (by first | rfl | (simp; done) | (simp [*]; done)), (by first | rfl | (simp; done) | (simp [*]; done)), H', ⟨Nat.le_refl _⟩, by repeat (first | exact Drawn0.refl _ | apply Drawn0.step)⟩
  case round =>
    clear H'
    obtain ⟨x3_1, x8_1, rfl, rfl, HA, HK1, ⟨m1, rfl⟩⟩ := hrel
    cases gk with
    | zero => exact absurd HA.out (by simp [impl_setOf.l0])
    | succ k1 =>
      have H := HA.out
      clear HA
      simp only [impl_setOf.l0] at H
      by_cases c2 : x8_1 < (l0.length : Int)
      · rw [if_pos c2] at H
        have c2b0 : decide (x8_1 < (l0.length : Int)) = true := decide_eq_true c2
        clear c2
        by_cases c3 : 0 ≤ x8_1
        · rw [if_pos c3] at H
          have c3b0 : decide (0 ≤ x8_1) = true := decide_eq_true c3
          clear c3
          by_cases c4 : x8_1 < (l0.length : Int)
          · rw [if_pos c4] at H
            have c4b0 : decide (x8_1 < (l0.length : Int)) = true := decide_eq_true c4
            clear c4
            by_cases c5 : 0 ≤ (rd l0 x8_1)
            · rw [if_pos c5] at H
              have c5b0 := eq_true c5
              have c5b1 : decide (0 ≤ (rd l0 x8_1)) = true := decide_eq_true c5
              clear c5
              obtain ⟨ji6, hji6⟩ : ∃ j_ : Int, (shl .u32 1 (rd l0 x8_1)) = j_ := ⟨_, rfl⟩
              replace H : (impl_setOf.l0 k1 (Go.bits .or .u32 x3_1 (ji6)) l0 (l0.length : Int) (wrap64 (x8_1 + 1))) = some r := by first | (rw [hji6] at H; exact H) | (simp only [hji6] at H ⊢; exact H)
              have hji6_ : (IntKind.u32.wrap (1 * 2 ^ min (rd l0 x8_1).toNat 32)) = ji6 := hji6
              have hji6z : (rd l0 x8_1) ≤ 32 → (IntKind.u32.wrap (1 * 2 ^ (rd l0 x8_1).toNat)) = ji6 := shl_small hji6
              have hji6u : (IntKind.u32.wrap (2 ^ min (rd l0 x8_1).toNat 32)) = ji6 := by have h_ := hji6_; rw [Int.one_mul] at h_; exact h_
              have hji6v : (rd l0 x8_1) ≤ 32 → (IntKind.u32.wrap (2 ^ (rd l0 x8_1).toNat)) = ji6 := fun hle_ => by have h_ := hji6z hle_; rw [Int.one_mul] at h_; exact h_
              have H' := Aside0.mk H
              clear H
              have p266 : 0 ≤ (x8_1 : Int) := of_decide_eq_true (by first | (with_reducible assumption) | assumption)
              have q266 : x8_1 < (l0.length : Int) := of_decide_eq_true (by first | (with_reducible assumption) | assumption)
              obtain ⟨ad266, e266, hx266_0⟩ := Kd.at_int HR0.out x8_1 p266 q266
              cases e266
              replace p266 := eq_true p266
              replace q266 := eq_true q266
              go_wp2
              go_roundg k1
              case measure => have := HK1.out; omega
              case rel => exact ⟨(Go.bits .or .u32 x3_1 (ji6)), (wrap64 (x8_1 + 1)), (by first | rfl | (simp; done) | (simp only [← hji6] <;> (first | rfl | simp)) | (simp [*]; done)), (by first | rfl | (simp; done) | (simp [*]; done)), H', ⟨by have := HK1.out; omega⟩, by repeat (first | exact Drawn0.refl _ | apply Drawn0.step)⟩
            · rw [if_neg c5] at H
              exact absurd H (by simp)
          · rw [if_neg c4] at H
            exact absurd H (by simp)
        · rw [if_neg c3] at H
          exact absurd H (by simp)
      · rw [if_neg c2] at H
        have c2b0 : decide (x8_1 < (l0.length : Int)) = false := decide_eq_false c2
        clear c2
        obtain rfl := Option.some.inj H
        go_wp2
        go_ret
        exact ⟨by first | rfl | (simp; done) | (simp [*]; done), by repeat (first | exact Drawn0.refl _ | apply Drawn0.step)⟩

/-! ### impl_Row_taken: function 53 -/
def impl_Row_taken.f (k : Nat) (a0_0 : Int) (a0_1 : Bool) (l0_2 : List Int) : Option (Int) := (impl_setOf.f k l0_2).bind fun t268 => (some t268)
theorem impl_Row_taken.mono : ∀ a0 a1 a2 k, LeO (impl_Row_taken.f k a0 a1 a2) (impl_Row_taken.f (k + 1) a0 a1 a2) := by
  intro a0 a1 a2 k
  unfold impl_Row_taken.f
  repeat' first
      | (with_reducible exact impl_setOf.mono _ _)
      | (with_reducible exact LeO.refl _)
      | (with_reducible exact LeO.none _)
      | (with_reducible refine LeO.ite ?_ ?_)
      | (with_reducible refine LeO.bind ?_ (fun _ => ?_))
      | exact impl_setOf.mono _ _
      | exact LeO.none _
      | refine LeO.ite ?_ ?_
      | refine LeO.bind ?_ (fun _ => ?_)
set_option maxHeartbeats 8000000 in
set_option maxRecDepth 100000 in
theorem impl_Row_taken.calls (k : Nat) (a0_0 : Int) (a0_1 : Bool) (A0_2 : Option Addr) (c0_2 : Nat) (l0_2 : List Int) (r : Int) (w : World) (hr0_2 : Kd.C (Kd.int .i64) w A0_2 l0_2.length l0_2) (hc0_2 : l0_2.length ≤ c0_2) (h : impl_Row_taken.f k a0_0 a0_1 l0_2 = some r) :
    Calls Try.prog 53 #[.agg #[.int .i64 a0_0, .bool a0_1, .slice A0_2 l0_2.length c0_2]] w fun e w' => e = .returned (.int .u32 r) ∧ Below w.heap.size w w' := by
  have hu32 := Try.underlying32
  have HR0_2 := Aside0.mk hr0_2
  have HC0_2 := Aside0.mk hc0_2
  clear hr0_2 hc0_2
  have HB := Aside0.mk (Below.refl w.heap.size w)
  have H : ((impl_setOf.f k l0_2).bind fun t268 => (some t268)) = some r := h
  clear h
  replace H := Option.bind_eq_some_iff.mp H
  obtain ⟨t268, A20, H⟩ := H
  replace H : (some t268) = some r := H
  have A2 := Aside0.mk A20
  clear A20
  obtain rfl := Option.some.inj H
  go_enter Try.func53, Try.ntmps53
  go_wp2_with (first | ((with_reducible refine gate_dst (N := 1) rfl ?_); refine box_event ?hg (N := 1) ?hd (cs := #[.int .i64 a0_0, .bool a0_1, .slice A0_2 l0_2.length c0_2]) (t := 32) ?hr ?_; (case hd => rfl); (case hg => rfl); (case hr => first | (go_simp; done) | (go_simp; rfl)); intro gb267 hg w3 hbox hb; have n0_ := Aside0.mk (below_step (by repeat (first | (with_reducible first | exact HB.out | apply below_alloc | apply pw_below_drewN | apply below_drew1) | exact HB.out)) hb); have n1_ := Aside0.mk (hbox); have n2_ := Aside0.mk ((by rw [hg]; exact (below_size (by repeat (first | (with_reducible first | exact HB.out | apply below_alloc | apply pw_below_drewN | apply below_drew1) | exact HB.out))) : w.heap.size ≤ gb267)); have n3_ := Aside0.mk ((by rw [hg]; exact (below_size (by repeat (first | (with_reducible first | exact HB.out | apply below_alloc | apply pw_below_drewN | apply below_drew1) | exact HB.out))) : w.heap.size ≤ gb267)); clear HB; have HB := n0_; have BK267 := n1_; have GW267 := n2_; have GE267 := n3_; clear n0_ n1_ n2_ n3_; clear hb hbox hg; have hcz4_0 : w3.cell? ⟨gb267, 0, none⟩ = some (.int .i64 a0_0) := (blk_cell BK267.out 0).trans rfl; have hcz4_1 : w3.cell? ⟨gb267, 1, none⟩ = some (.bool a0_1) := (blk_cell BK267.out 1).trans rfl; have hcz4_2 : w3.cell? ⟨gb267, 2, none⟩ = some (.slice A0_2 l0_2.length c0_2) := (blk_cell BK267.out 2).trans rfl; have hfz4_0 := blk_frozen BK267.out 0; have hfz4_1 := blk_frozen BK267.out 1; have hfz4_2 := blk_frozen BK267.out 2) | ((with_reducible refine gate_callee (f := 79) rfl ?_); refine goesL_ (some 5) rfl rfl Try.func79 (by kernel_rfl) rfl #[.slice A0_2 l0_2.length c0_2] rfl (by (try simp only [List.map_toArray, List.map_cons, List.map_nil]); first | done | rfl | (simp only [List.length_drop, List.length_take]; rfl)) ?_; (with_reducible refine (impl_setOf.calls k _ _ l0_2 t268 _ ?side1 ?side2 A2.out).mono ?_); (case side1 => repeat (first | exact (Kd.C_below HR0_2.out HB.out) | (with_reducible refine Kd.C_alloc ?_ _) | (with_reducible refine Kd.C_drewN ?_ _) | (with_reducible refine Kd.C_drew ?_))); (case side2 => exact HC0_2.out); rintro e w' ⟨rfl, ⟨nd, rfl⟩⟩; refine ⟨_, rfl, ?_⟩))
  go_ret
  exact ⟨by first | rfl | (simp [errW_none, errW_some] <;> rfl) | (simp [*, errW_none, errW_some] <;> rfl), by repeat (first | (with_reducible first | exact HB.out | apply below_alloc | apply pw_below_drewN | apply below_drew1 | refine below_set ?_ GE267.out) | exact HB.out)⟩

/-! ### impl_bench_behind: function 61 -/
def impl_bench_behind.f (k : Nat) (a0_0 : Int) (a0_1 : Bool) (a1 : Int) (a2 : Int) (a3 : Int) : Option (Int) := (impl_bench_taking.f k a0_0 a0_1 a1 a2 a3).bind fun bt270 => (some (Go.bits .or .u32 a1 bt270.1))
theorem impl_bench_behind.mono : ∀ a0 a1 a2 a3 a4 k, LeO (impl_bench_behind.f k a0 a1 a2 a3 a4) (impl_bench_behind.f (k + 1) a0 a1 a2 a3 a4) := by
  intro a0 a1 a2 a3 a4 k
  unfold impl_bench_behind.f
  repeat' first
      | (with_reducible exact impl_bench_taking.mono _ _ _ _ _ _)
      | (with_reducible exact LeO.refl _)
      | (with_reducible exact LeO.none _)
      | (with_reducible refine LeO.ite ?_ ?_)
      | (with_reducible refine LeO.bind ?_ (fun _ => ?_))
      | exact impl_bench_taking.mono _ _ _ _ _ _
      | exact LeO.none _
      | refine LeO.ite ?_ ?_
      | refine LeO.bind ?_ (fun _ => ?_)
set_option maxHeartbeats 8000000 in
set_option maxRecDepth 100000 in
theorem impl_bench_behind.calls (k : Nat) (a0_0 : Int) (a0_1 : Bool) (a1 : Int) (a2 : Int) (a3 : Int) (r : Int) (w : World) (h : impl_bench_behind.f k a0_0 a0_1 a1 a2 a3 = some r) :
    Calls Try.prog 61 #[.agg #[.int .i64 a0_0, .bool a0_1], .int .u32 a1, .int .i64 a2, .int .i64 a3] w fun e w' => e = .returned (.int .u32 r) ∧ Below w.heap.size w w' := by
  have hu57 := Try.underlying57
  have HB := Aside0.mk (Below.refl w.heap.size w)
  have H : ((impl_bench_taking.f k a0_0 a0_1 a1 a2 a3).bind fun bt270 => (some (Go.bits .or .u32 a1 bt270.1))) = some r := h
  clear h
  replace H := Option.bind_eq_some_iff.mp H
  obtain ⟨⟨t270, t271⟩, A50, H⟩ := H
  replace H : (some (Go.bits .or .u32 a1 t270)) = some r := H
  have A5 := Aside0.mk A50
  clear A50
  obtain rfl := Option.some.inj H
  go_enter Try.func61, Try.ntmps61
  go_wp2_with (first | ((with_reducible refine gate_dst (N := 4) rfl ?_); refine box_event ?hg (N := 4) ?hd (cs := #[.int .i64 a0_0, .bool a0_1]) (t := 57) ?hr ?_; (case hd => rfl); (case hg => rfl); (case hr => first | (go_simp; done) | (go_simp; rfl)); intro gb269 hg w6 hbox hb; have n0_ := Aside0.mk (below_step (by repeat (first | (with_reducible first | exact HB.out | apply below_alloc | apply pw_below_drewN | apply below_drew1) | exact HB.out)) hb); have n1_ := Aside0.mk (hbox); have n2_ := Aside0.mk ((by rw [hg]; exact (below_size (by repeat (first | (with_reducible first | exact HB.out | apply below_alloc | apply pw_below_drewN | apply below_drew1) | exact HB.out))) : w.heap.size ≤ gb269)); have n3_ := Aside0.mk ((by rw [hg]; exact (below_size (by repeat (first | (with_reducible first | exact HB.out | apply below_alloc | apply pw_below_drewN | apply below_drew1) | exact HB.out))) : w.heap.size ≤ gb269)); clear HB; have HB := n0_; have BK269 := n1_; have GW269 := n2_; have GE269 := n3_; clear n0_ n1_ n2_ n3_; clear hb hbox hg; have hcz7_0 : w6.cell? ⟨gb269, 0, none⟩ = some (.int .i64 a0_0) := (blk_cell BK269.out 0).trans rfl; have hcz7_1 : w6.cell? ⟨gb269, 1, none⟩ = some (.bool a0_1) := (blk_cell BK269.out 1).trans rfl; have hfz7_0 := blk_frozen BK269.out 0; have hfz7_1 := blk_frozen BK269.out 1) | ((with_reducible refine gate_callee (f := 78) rfl ?_); refine goesL_ (some 16) rfl rfl Try.func78 (by kernel_rfl) rfl #[.agg #[.int .i64 a0_0, .bool a0_1], .int .u32 a1, .int .i64 a2, .int .i64 a3] rfl (by (try simp only [List.map_toArray, List.map_cons, List.map_nil]); first | done | rfl | (simp only [List.length_drop, List.length_take]; rfl)) ?_; (with_reducible refine (impl_bench_taking.calls k a0_0 a0_1 a1 a2 a3 t270 t271 _ A5.out).mono ?_); rintro e w8 ⟨rfl, hb⟩; refine ⟨_, rfl, ?_⟩; have n0_ := Aside0.mk (blk_below (g := gb269) (o := .cells #[.int .i64 a0_0, .bool a0_1] 57 (0, 0)) (by (with_reducible repeat (first | refine blk_drewN ?_ _ | refine blk_drew ?_ | refine blk_alloc ?_ _)); exact BK269.out) hb); have n1_ := Aside0.mk (below_step (by repeat (first | (with_reducible first | exact HB.out | apply below_alloc | apply pw_below_drewN | apply below_drew1 | refine below_set ?_ GE269.out) | exact HB.out)) hb); clear BK269; clear HB; have BK269 := n0_; have HB := n1_; clear n0_ n1_; (try clear hb); (try clear hb2); (try clear hk); (try clear hi)))
  go_ret
  exact ⟨by first | rfl | (simp [errW_none, errW_some] <;> rfl) | (simp [*, errW_none, errW_some] <;> rfl), by repeat (first | (with_reducible first | exact HB.out | apply below_alloc | apply pw_below_drewN | apply below_drew1 | refine below_set ?_ GE269.out) | exact HB.out)⟩

/-! ### impl_ReverseWon: function 27 -/
def impl_ReverseWon.lo (S : Int → Option Bool) (n : Int) (ring : Bool) (t g : Int) (k : Nat) : List Int → Bool → Option Bool
  | [], b => some b
  | p :: ps, b => if b = true then impl_ReverseWon.lo S n ring t g k ps true else (impl_bench_behind.f k n ring t g p).bind fun q => if 0 ≤ q ∧ q < 4294967296 then (S q).bind fun m => impl_ReverseWon.lo S n ring t g k ps (!m) else none
def impl_ReverseWon.le (k : Nat) (n : Int) (ring : Bool) (g : Int) : Nat → Int → Option Bool
  | 0, _ => none
  | d + 1, t => (impl_bench_moves.f k n ring t g).bind fun ps => if ps.length ≤ 12 then impl_ReverseWon.lo (impl_ReverseWon.le k n ring g d) n ring t g k ps (decide (ps.length = 0)) else none
def impl_ReverseWon.f (k : Nat) (a0_0 : Int) (a0_1 : Bool) (l0_2 : List Int) (a1 : Int) : Option (Bool × Bool) := (impl_isGame.f k a0_0 a0_1 l0_2 a1).bind fun b => if b = true then (if a0_0 > 12 then some (false, false) else (impl_Row_taken.f k a0_0 a0_1 l0_2).bind fun t => if 0 ≤ t ∧ t < 4294967296 then (impl_ReverseWon.le k a0_0 a0_1 a1 13 t).bind fun r => some (r, true) else none) else some (false, false)
theorem impl_ReverseWon.lo_mono {S S' : Int → Option Bool} (hS : ∀ t, LeO (S t) (S' t)) (n : Int) (ring : Bool) (t g : Int) (k k' : Nat) (hk : ∀ p, LeO (impl_bench_behind.f k n ring t g p) (impl_bench_behind.f k' n ring t g p)) : ∀ ps b, LeO (impl_ReverseWon.lo S n ring t g k ps b) (impl_ReverseWon.lo S' n ring t g k' ps b)
  | [], _ => LeO.refl _
  | p :: ps, b => by
    simp only [impl_ReverseWon.lo]
    exact LeO.ite (impl_ReverseWon.lo_mono hS n ring t g k k' hk ps _) (LeO.bind (hk p) fun _ => LeO.ite (LeO.bind (hS _) fun _ => impl_ReverseWon.lo_mono hS n ring t g k k' hk ps _) (LeO.refl _))
theorem impl_ReverseWon.le_mono (k : Nat) (n : Int) (ring : Bool) (g : Int) : ∀ d t, LeO (impl_ReverseWon.le k n ring g d t) (impl_ReverseWon.le (k + 1) n ring g d t)
  | 0, _ => LeO.none _
  | d + 1, t => by
    simp only [impl_ReverseWon.le]
    exact LeO.bind (impl_bench_moves.mono _ _ _ _ _) fun _ => LeO.ite (impl_ReverseWon.lo_mono (impl_ReverseWon.le_mono k n ring g d) _ _ _ _ _ _ (fun _ => impl_bench_behind.mono _ _ _ _ _ _) _ _) (LeO.refl _)
theorem impl_ReverseWon.le_up (k : Nat) (n : Int) (ring : Bool) (g : Int) : ∀ d t, LeO (impl_ReverseWon.le k n ring g d t) (impl_ReverseWon.le k n ring g (d + 1) t)
  | 0, _ => LeO.none _
  | d + 1, t => by
    rw [impl_ReverseWon.le, impl_ReverseWon.le]
    exact LeO.bind (LeO.refl _) fun _ => LeO.ite (impl_ReverseWon.lo_mono (impl_ReverseWon.le_up k n ring g d) _ _ _ _ _ _ (fun _ => LeO.refl _) _ _) (LeO.refl _)
theorem impl_ReverseWon.le_add {k : Nat} {n : Int} {ring : Bool} {g : Int} {d : Nat} {t : Int} {v : Bool} (h : impl_ReverseWon.le k n ring g d t = some v) : ∀ m, impl_ReverseWon.le k n ring g (d + m) t = some v
  | 0 => h
  | m + 1 => impl_ReverseWon.le_up k n ring g (d + m) t v (impl_ReverseWon.le_add h m)
theorem impl_ReverseWon.le_same {k : Nat} {n : Int} {ring : Bool} {g : Int} {d d' : Nat} {t : Int} {v v' : Bool} (h : impl_ReverseWon.le k n ring g d t = some v) (h' : impl_ReverseWon.le k n ring g d' t = some v') : v = v' := by
  have h1 := impl_ReverseWon.le_add h d'
  have h2 := impl_ReverseWon.le_add h' d
  rw [Nat.add_comm] at h2
  exact Option.some.inj (h1.symm.trans h2)
theorem impl_ReverseWon.mono : ∀ a0 a1 a2 a3 k, LeO (impl_ReverseWon.f k a0 a1 a2 a3) (impl_ReverseWon.f (k + 1) a0 a1 a2 a3) := by
  intro a0 a1 a2 a3 k
  unfold impl_ReverseWon.f
  exact LeO.bind (impl_isGame.mono _ _ _ _ _) fun _ => LeO.ite (LeO.ite (LeO.refl _) (LeO.bind (impl_Row_taken.mono _ _ _ _) fun _ => LeO.ite (LeO.bind (impl_ReverseWon.le_mono _ _ _ _ _ _) fun _ => LeO.refl _) (LeO.refl _))) (LeO.refl _)
def impl_ReverseWon.U : Nat → Nat
  | 0 => 0
  | d + 1 => 12 * impl_ReverseWon.U d + 1
theorem impl_ReverseWon.law : Maps.Keyed Try.prog 61 := Maps.int_keyed Try.underlying61
theorem impl_ReverseWon.zeroE (w : World) : (zeroValue 4).run Try.prog w = .ok (.bool false) w := by rfl
theorem impl_ReverseWon.grown {w w' : World} (h : Below w.heap.size w w') (row : Option Nat) : w.grownBy w' row := ⟨h.os, h.tape, h.output, h.size, fun k hk _ => h.block k hk⟩
theorem impl_ReverseWon.bool_inv {H : Type} {P : Program} {e : TypeId} (he : P.underlying e = some .bool) {v : Value} {z : DataW H × List MemPlace} (h : plainElem P e v = some z) : ∃ x, v = .bool x ∧ z.1 = .lit (.bool x) := by
  unfold plainElem at h
  rw [he] at h
  cases v <;> simp at h
  subst h
  exact ⟨_, rfl, rfl⟩
theorem impl_ReverseWon.look {H : Type} {P : Program} (w : World) {ops : Array Oper} {rest : List Oper} {o : Oper} {a : Act} {Q : Exit → Act → World → Prop}
    (hg : o.guard = none) (m x : Operand) (t : TypeId) (hop : o.op = Op.lookup t m x true)
    (k e : TypeId) (K : Maps.Keyed P k) (ht : P.underlying t = some (.map k e)) (he : P.underlying e = some .bool) (hz : (zeroValue e).run P w = .ok (.bool false) w) (b n : Nat) (D : DataW H)
    (hm : a.eval m = .map (some b)) (hown : w.ownsMap P k (plainElem P e) b n D) (key : Value) (kl : Lit) (hx : a.eval x = key) (hkey : keyOf P k key = some kl)
    (hK : ∀ c : Bool, D.atKey kl (.lit (.bool false)) = .lit (.bool c) → wpList P ops Q rest (a.put o.dst (.tuple #[.bool c, .bool (Maps.has D kl)])) w) :
    wpList P ops Q (o :: rest) a w :=
  wpList_lookup_own_ok w hg m x t hop k e K ht (plainElem P e) hz (.lit (.bool false)) [] (plainElem_bool he false) b n D hm hown key kl hx hkey (fun v ps hv => by
    obtain ⟨c, rfl, hc⟩ := impl_ReverseWon.bool_inv he hv
    exact hK c hc)
theorem impl_ReverseWon.put_ok {D : DataW Unit} (hD : Maps.IsMap D) {t0 : Int} {v : Bool} (hkl : WideAt.IsKeyLit (.int .u32 t0)) {Pv : Int → Bool → Prop}
    (h : ∀ t c, Maps.has D (.int .u32 t) = true → D.atKey (.int .u32 t) (.lit (.bool false)) = .lit (.bool c) → Pv t c) (hv : Pv t0 v) :
    ∀ t c, Maps.has (D.put (.int .u32 t0) (.lit (.bool v))) (.int .u32 t) = true → (D.put (.int .u32 t0) (.lit (.bool v))).atKey (.int .u32 t) (.lit (.bool false)) = .lit (.bool c) → Pv t c := by
  intro t c hh hat
  by_cases e : t = t0
  · subst e
    rw [Maps.atKey_put_same hD hkl] at hat
    injection hat with hat
    injection hat with hat
    exact hat ▸ hv
  · have hne : Lit.int .u32 t ≠ Lit.int .u32 t0 := fun h => e (by injection h)
    rw [Maps.has_put_other hne] at hh
    rw [Maps.atKey_put_other hne] at hat
    exact h t c hh hat
structure impl_ReverseWon.Inv (k : Nat) (n : Int) (ring : Bool) (g : Int) (bm bv bb bg bl : Nat) (w0 : World) (m : Nat) (w : World) : Prop where
  below : Below w0.heap.size w0 w
  hm : w0.heap.size ≤ bm
  cv : w.heap[bv]? = some (.cells #[.map (some bm)] 65 (0, 0))
  cb : w.heap[bb]? = some (.cells #[.int .i64 n, .bool ring] 57 (0, 0))
  cg : w.heap[bg]? = some (.cells #[.int .i64 g] 3 (0, 0))
  cl : w.heap[bl]? = some (.cells #[(.func (.func 60) #[] #[.pointer (some ⟨bv, 0, none⟩), .pointer (some ⟨bb, 0, none⟩), .pointer (some ⟨bg, 0, none⟩), .pointer (some ⟨bl, 0, none⟩)])] 66 (0, 0))
  map : ∃ D : DataW Unit, w.ownsMap Try.prog 61 (plainElem Try.prog 4) bm m D ∧ ∀ t c, Maps.has D (.int .u32 t) = true → D.atKey (.int .u32 t) (.lit (.bool false)) = .lit (.bool c) → ∃ d, impl_ReverseWon.le k n ring g d t = some c
section
variable {k : Nat} {n : Int} {ring : Bool} {g : Int} {bm bv bb bg bl : Nat} {w0 : World} {m : Nat} {w w' : World}
theorem impl_ReverseWon.ne_map {H : Type} {P : Program} {q : TypeId} {R : Value → Option (DataW H × List MemPlace)} {D : DataW H} {g : Nat} {cs : Array Value} {t : TypeId} (h : w.ownsMap P q R bm m D) (hc : w.heap[g]? = some (.cells cs t (0, 0))) : some g ≠ some bm := by
  rintro e
  obtain rfl := Option.some.inj e
  obtain ⟨es, clock, hb, _⟩ := h
  rw [hb] at hc
  cases hc
theorem impl_ReverseWon.Inv.turn (h : impl_ReverseWon.Inv k n ring g bm bv bb bg bl w0 m w) (hg : w.grownBy w' (some bm)) {m' : Nat} (hmap : ∃ D : DataW Unit, w'.ownsMap Try.prog 61 (plainElem Try.prog 4) bm m' D ∧ ∀ t c, Maps.has D (.int .u32 t) = true → D.atKey (.int .u32 t) (.lit (.bool false)) = .lit (.bool c) → ∃ d, impl_ReverseWon.le k n ring g d t = some c) : impl_ReverseWon.Inv k n ring g bm bv bb bg bl w0 m' w' := by
  obtain ⟨D, hown, _⟩ := h.map
  exact ⟨h.below.grown hg h.below.size (fun j hj => by cases hj; exact h.hm), h.hm, blk_grown h.cv hg (impl_ReverseWon.ne_map hown h.cv), blk_grown h.cb hg (impl_ReverseWon.ne_map hown h.cb), blk_grown h.cg hg (impl_ReverseWon.ne_map hown h.cg), blk_grown h.cl hg (impl_ReverseWon.ne_map hown h.cl), hmap⟩
theorem impl_ReverseWon.Inv.step (h : impl_ReverseWon.Inv k n ring g bm bv bb bg bl w0 m w) (hb : Below w.heap.size w w') : impl_ReverseWon.Inv k n ring g bm bv bb bg bl w0 m w' := by
  obtain ⟨D, hown, h2⟩ := h.map
  exact h.turn (impl_ReverseWon.grown hb _) ⟨D, hown.kept (impl_ReverseWon.grown hb none) (by simp), h2⟩
theorem impl_ReverseWon.Inv.up (h : impl_ReverseWon.Inv k n ring g bm bv bb bg bl w0 m w) {m' : Nat} (hn : m ≤ m') : impl_ReverseWon.Inv k n ring g bm bv bb bg bl w0 m' w := by
  obtain ⟨D, hown, h2⟩ := h.map
  exact ⟨h.below, h.hm, h.cv, h.cb, h.cg, h.cl, D, hown.mono hn, h2⟩
end
set_option maxHeartbeats 8000000 in
set_option maxRecDepth 100000 in
theorem impl_ReverseWon.won (k : Nat) (n : Int) (ring : Bool) (g : Int) (bm bv bb bg bl : Nat) (w0 : World) :
    ∀ (d : Nat) (t : Int) (v : Bool) (m : Nat) (w : World), impl_ReverseWon.le k n ring g d t = some v → 0 ≤ t → t < 4294967296 → impl_ReverseWon.Inv k n ring g bm bv bb bg bl w0 m w → m + impl_ReverseWon.U d < maxLen →
      Calls Try.prog 60 #[.int .u32 t, .pointer (some ⟨bv, 0, none⟩), .pointer (some ⟨bb, 0, none⟩), .pointer (some ⟨bg, 0, none⟩), .pointer (some ⟨bl, 0, none⟩)] w fun e w' => e = .returned (.bool v) ∧ impl_ReverseWon.Inv k n ring g bm bv bb bg bl w0 (m + impl_ReverseWon.U d) w' ∧ w.grownBy w' (some bm) := by
  intro d
  induction d with
  | zero => intro t v m w h; exact absurd h (by simp [impl_ReverseWon.le])
  | succ d ih =>
    intro t v m w h ht0 ht1 hi hn
    obtain ⟨D, hmap, hval⟩ := hi.map
    have hwf : (Lit.int .u32 t).wf = true := by
      have hmin : IntKind.u32.min = 0 := rfl
      have hmax : IntKind.u32.max = 4294967295 := rfl
      simp only [Lit.wf, Bool.and_eq_true, decide_eq_true_eq]
      omega
    have hkey : keyOf Try.prog 61 (.int .u32 t) = some (.int .u32 t) := Maps.keyOf_int_mk Try.underlying61 hwf
    have cv : w.cell? ⟨bv, 0, none⟩ = some (.map (some bm)) := (blk_cell hi.cv 0).trans rfl
    by_cases hh : Maps.has D (.int .u32 t) = true
    · go_enter Try.func60, Try.ntmps60
      go_wp2_with (at_lookup; refine impl_ReverseWon.look _ rfl _ _ 65 rfl 61 4 impl_ReverseWon.law Try.underlying65 Try.underlying4 (impl_ReverseWon.zeroE _) bm m D rfl hmap _ _ rfl hkey ?_; intro c hat)
      go_ret
      obtain ⟨d', hd'⟩ := hval t c hh hat
      exact ⟨by rw [impl_ReverseWon.le_same h hd']; rfl, hi.up (Nat.le_add_right _ _), World.grownBy.refl _ _⟩
    · have hh' : Maps.has D (.int .u32 t) = false := by simpa using hh
      clear hh
      have h0 := h
      simp only [impl_ReverseWon.le] at h
      obtain ⟨ps, hps, h⟩ := Option.bind_eq_some_iff.mp h
      by_cases hl : ps.length ≤ 12
      · rw [if_pos hl] at h
        have cb0 : w.cell? ⟨bb, 0, none⟩ = some (.int .i64 n) := (blk_cell hi.cb 0).trans rfl
        have cb1 : w.cell? ⟨bb, 1, none⟩ = some (.bool ring) := (blk_cell hi.cb 1).trans rfl
        have cg0 : w.cell? ⟨bg, 0, none⟩ = some (.int .i64 g) := (blk_cell hi.cg 0).trans rfl
        go_enter Try.func60, Try.ntmps60
        go_wp2_with (first
          | (at_lookup; refine impl_ReverseWon.look _ rfl _ _ 65 rfl 61 4 impl_ReverseWon.law Try.underlying65 Try.underlying4 (impl_ReverseWon.zeroE _) bm m D rfl hmap _ _ rfl hkey ?_; intro c hat)
          | ((with_reducible refine gate_callee (f := 52) rfl ?_); refine goesL_ (some 24) rfl rfl Try.func52 (by kernel_rfl) rfl #[.agg #[.int .i64 n, .bool ring], .int .u32 t, .int .i64 g] rfl (by (try simp only [List.map_toArray, List.map_cons, List.map_nil]); first | done | rfl) ?_; refine (impl_bench_moves.calls k n ring t g ps _ hps).mono ?_; rintro e w5 ⟨v0, rfl, ho, hb5⟩; obtain ⟨Ao, co, rfl⟩ := Kd.R_slice ho; have hi5 := hi.step hb5; have hRo := Kd.R_mono (ok' := fun q => some q ≠ some bm) (Kd.R_bound ho) (fun q hq e => by have h1 := hmap.lt; have h4 := hq.2.1; have h5 := Option.some.inj e; omega); refine ⟨_, rfl, ?_⟩))
        go_loopw [10, 30] (fun v10 v30 wr => ∃ (j : Nat) (b : Bool), v10 = .bool b ∧ v30 = .int .i64 (j : Int) ∧ j ≤ ps.length ∧ impl_ReverseWon.lo (impl_ReverseWon.le k n ring g d) n ring t g k (ps.drop j) b = some v ∧ impl_ReverseWon.Inv k n ring g bm bv bb bg bl w0 (m + j * impl_ReverseWon.U d) wr ∧ Kd.R (Kd.int .i64) 3 wr w.heap.size (fun q => some q ≠ some bm) (.slice Ao ps.length co) ps ∧ w5.grownBy wr (some bm)) (fun _ v30 _ => ps.length - (intOf v30).toNat)
        case atStart => exact ⟨0, decide (ps.length = 0), by (first | rfl | (congr 1; rw [Bool.eq_iff_iff]; simp) | simp), rfl, Nat.zero_le _, by rw [List.drop_zero]; exact h, by rw [Nat.zero_mul]; exact hi5, hRo, World.grownBy.refl _ _⟩
        case round =>
          obtain ⟨j, b, rfl, rfl, hj, hlo, hij, hRj, hgj⟩ := hrel
          by_cases hjl : j < ps.length
          · have p1 : (0 : Int) ≤ (j : Int) := Int.natCast_nonneg _
            have q1 : (j : Int) < (ps.length : Int) := by omega
            obtain ⟨ad, e, hx⟩ := Kd.at_int (Kd.R_reads' hRj).2.2 (j : Int) p1 q1
            cases e
            have hrd : rd ps (j : Int) = ps[j] := by simp [rd, hjl]
            obtain ⟨p, hp⟩ : ∃ p, rd ps (j : Int) = p := ⟨_, rfl⟩
            rw [hp] at hx hrd
            rw [List.drop_eq_getElem_cons hjl, ← hrd] at hlo
            clear hrd hp
            have hx' : wr.cell? (ad.add j) = some (.int .i64 p) := by simpa using hx
            simp only [impl_ReverseWon.lo] at hlo
            have hU : j * impl_ReverseWon.U d + impl_ReverseWon.U d ≤ 12 * impl_ReverseWon.U d := by
              rw [← Nat.succ_mul]
              exact Nat.mul_le_mul_right _ (by omega)
            have hUd : impl_ReverseWon.U (d + 1) = 12 * impl_ReverseWon.U d + 1 := rfl
            have p1b := eq_true p1
            have q1b := eq_true q1
            have hi8 := hij.step (Below.drew (Below.refl wr.heap.size wr))
            cases b with
            | true =>
              rw [if_pos rfl] at hlo
              try go_wp2
              refine start_ (n := 12) (S := fun w' => True) (ds := []) #[false, false, false, false, false, false, false, false, false, false, false, false] (by kernel_rfl) rfl rfl trivial (fun hHeld => ?_)
              refine pure_ (i := 0) (N := some 34) (v := ?_) (a' := ?_) #[true, false, false, false, false, false, false, false, false, false, false, false] rfl rfl (by kernel_rfl) (fun _ _ _ h => h) (Or.inl ⟨by rfl, ?_⟩) ?_ ?_
              rotate_left
              · intro w'
                go_simp
                with_reducible rfl
              rotate_left
              · simp only [Act.put, List.setIfInBounds_toArray, List.set_cons_zero, List.set_cons_succ, i64_w, i32_w]
                rfl
              refine pure_ (i := 1) (N := some 35) (v := ?_) (a' := ?_) #[true, true, false, false, false, false, false, false, false, false, false, false] rfl rfl (by kernel_rfl) (fun _ _ _ h => h) (Or.inl ⟨by rfl, ?_⟩) ?_ ?_
              rotate_left
              · intro w'
                go_simp
                with_reducible rfl
              rotate_left
              · simp only [Act.put, List.setIfInBounds_toArray, List.set_cons_zero, List.set_cons_succ, i64_w, i32_w]
                rfl
              refine pure_ (i := 2) (N := some 36) (v := undef) (a' := ?_) #[true, true, true, false, false, false, false, false, false, false, false, false] rfl rfl (by kernel_rfl) (fun _ _ _ h => h) (Or.inr ⟨by rfl, rfl⟩) ?_ ?_
              rotate_left
              · simp only [Act.put, List.setIfInBounds_toArray, List.set_cons_zero, List.set_cons_succ, i64_w, i32_w]
                rfl
              refine pure_ (i := 3) (N := some 37) (v := undef) (a' := ?_) #[true, true, true, true, false, false, false, false, false, false, false, false] rfl rfl (by kernel_rfl) (fun _ _ _ h => h) (Or.inr ⟨by rfl, rfl⟩) ?_ ?_
              rotate_left
              · simp only [Act.put, List.setIfInBounds_toArray, List.set_cons_zero, List.set_cons_succ, i64_w, i32_w]
                rfl
              refine pure_ (i := 4) (N := some 38) (v := undef) (a' := ?_) #[true, true, true, true, true, false, false, false, false, false, false, false] rfl rfl (by kernel_rfl) (fun _ _ _ h => h) (Or.inr ⟨by rfl, rfl⟩) ?_ ?_
              rotate_left
              · simp only [Act.put, List.setIfInBounds_toArray, List.set_cons_zero, List.set_cons_succ, i64_w, i32_w]
                rfl
              refine pure_ (i := 5) (N := some 39) (v := undef) (a' := ?_) #[true, true, true, true, true, true, false, false, false, false, false, false] rfl rfl (by kernel_rfl) (fun _ _ _ h => h) (Or.inr ⟨by rfl, rfl⟩) ?_ ?_
              rotate_left
              · simp only [Act.put, List.setIfInBounds_toArray, List.set_cons_zero, List.set_cons_succ, i64_w, i32_w]
                rfl
              refine pure_ (i := 6) (N := some 40) (v := undef) (a' := ?_) #[true, true, true, true, true, true, true, false, false, false, false, false] rfl rfl (by kernel_rfl) (fun _ _ _ h => h) (Or.inr ⟨by rfl, rfl⟩) ?_ ?_
              rotate_left
              · simp only [Act.put, List.setIfInBounds_toArray, List.set_cons_zero, List.set_cons_succ, i64_w, i32_w]
                rfl
              refine pure_ (i := 7) (N := some 41) (v := undef) (a' := ?_) #[true, true, true, true, true, true, true, true, false, false, false, false] rfl rfl (by kernel_rfl) (fun _ _ _ h => h) (Or.inr ⟨by rfl, rfl⟩) ?_ ?_
              rotate_left
              · simp only [Act.put, List.setIfInBounds_toArray, List.set_cons_zero, List.set_cons_succ, i64_w, i32_w]
                rfl
              refine pure_ (i := 8) (N := some 42) (v := undef) (a' := ?_) #[true, true, true, true, true, true, true, true, true, false, false, false] rfl rfl (by kernel_rfl) (fun _ _ _ h => h) (Or.inr ⟨by rfl, rfl⟩) ?_ ?_
              rotate_left
              · simp only [Act.put, List.setIfInBounds_toArray, List.set_cons_zero, List.set_cons_succ, i64_w, i32_w]
                rfl
              refine pure_ (i := 9) (N := some 43) (v := undef) (a' := ?_) #[true, true, true, true, true, true, true, true, true, true, false, false] rfl rfl (by kernel_rfl) (fun _ _ _ h => h) (Or.inr ⟨by rfl, rfl⟩) ?_ ?_
              rotate_left
              · simp only [Act.put, List.setIfInBounds_toArray, List.set_cons_zero, List.set_cons_succ, i64_w, i32_w]
                rfl
              refine pure_ (i := 10) (N := some 44) (v := ?_) (a' := ?_) #[true, true, true, true, true, true, true, true, true, true, true, false] rfl rfl (by kernel_rfl) (fun _ _ _ h => h) (Or.inl ⟨by rfl, ?_⟩) ?_ ?_
              rotate_left
              · intro w'
                go_simp
                with_reducible rfl
              rotate_left
              · simp only [Act.put, List.setIfInBounds_toArray, List.set_cons_zero, List.set_cons_succ, i64_w, i32_w]
                rfl
              refine pure_ (i := 11) (N := some 10) (v := ?_) (a' := ?_) #[true, true, true, true, true, true, true, true, true, true, true, true] rfl rfl (by kernel_rfl) (fun _ _ _ h => h) (Or.inl ⟨by rfl, ?_⟩) ?_ ?_
              rotate_left
              · intro w'
                go_simp
                with_reducible rfl
              rotate_left
              · simp only [Act.put, List.setIfInBounds_toArray, List.set_cons_zero, List.set_cons_succ, i64_w, i32_w]
                rfl
              refine done_ (by kernel_rfl) ?_
              go_wp2
              go_roundw
              case rel => exact ⟨j + 1, true, rfl, by simp, by omega, hlo, by rw [Nat.succ_mul, ← Nat.add_assoc]; exact hi8.up (Nat.le_add_right _ _), Kd.R_drew hRj, hgj.trans (impl_ReverseWon.grown (Below.drew (Below.refl wr.heap.size wr)) (some bm))⟩
              case measure => simp [intOf]; omega
            | false =>
              rw [if_neg (by simp)] at hlo
              obtain ⟨q, hq, hlo1⟩ := Option.bind_eq_some_iff.mp hlo
              have hqr : 0 ≤ q ∧ q < 4294967296 := by
                by_cases hqr : 0 ≤ q ∧ q < 4294967296
                · exact hqr
                · rw [if_neg hqr] at hlo1
                  cases hlo1
              rw [if_pos hqr] at hlo1
              obtain ⟨x, hx1, hlo2⟩ := Option.bind_eq_some_iff.mp hlo1
              clear hlo hlo1
              try go_wp2
              refine start_ (n := 12) (S := fun w' => w'.cell? ⟨bl, 0, none⟩ = some (.func (.func 60) #[] #[.pointer (some ⟨bv, 0, none⟩), .pointer (some ⟨bb, 0, none⟩), .pointer (some ⟨bg, 0, none⟩), .pointer (some ⟨bl, 0, none⟩)]) ∧ w'.cell? ⟨bb, 0, none⟩ = some (.int .i64 n) ∧ w'.cell? ⟨bb, 1, none⟩ = some (.bool ring) ∧ w'.cell? ⟨bg, 0, none⟩ = some (.int .i64 g)) (ds := []) #[false, false, false, false, false, false, false, false, false, false, false, false] (by kernel_rfl) rfl rfl ⟨(blk_cell hi8.cl 0).trans rfl, (blk_cell hi8.cb 0).trans rfl, (blk_cell hi8.cb 1).trans rfl, (blk_cell hi8.cg 0).trans rfl⟩ (fun hHeld => ?_)
              refine pure_ (i := 0) (N := some 34) (v := ?_) (a' := ?_) #[true, false, false, false, false, false, false, false, false, false, false, false] rfl rfl (by kernel_rfl) (fun _ _ _ h => h) (Or.inl ⟨by rfl, ?_⟩) ?_ ?_
              rotate_left
              · intro w'
                go_simp
                with_reducible rfl
              rotate_left
              · simp only [Act.put, List.setIfInBounds_toArray, List.set_cons_zero, List.set_cons_succ, i64_w, i32_w]
                rfl
              refine pure_ (i := 1) (N := some 35) (v := ?_) (a' := ?_) #[true, true, false, false, false, false, false, false, false, false, false, false] rfl rfl (by kernel_rfl) (fun _ _ _ h => h) (Or.inl ⟨by rfl, ?_⟩) ?_ ?_
              rotate_left
              · intro w'
                go_simp
                with_reducible rfl
              rotate_left
              · simp only [Act.put, List.setIfInBounds_toArray, List.set_cons_zero, List.set_cons_succ, i64_w, i32_w]
                rfl
              refine pure_ (i := 4) (N := some 38) (v := ?_) (a' := ?_) #[true, true, false, false, true, false, false, false, false, false, false, false] rfl rfl (by kernel_rfl) (fun _ _ _ h => h) (Or.inl ⟨by rfl, ?_⟩) ?_ ?_
              rotate_left
              · intro w'
                go_simp
                with_reducible rfl
              rotate_left
              · simp only [Act.put, List.setIfInBounds_toArray, List.set_cons_zero, List.set_cons_succ, i64_w, i32_w]
                rfl
              refine pure_ (i := 6) (N := some 40) (v := ?_) (a' := ?_) #[true, true, false, false, true, false, true, false, false, false, false, false] rfl rfl (by kernel_rfl) (fun _ _ _ h => h) (Or.inl ⟨by rfl, ?_⟩) ?_ ?_
              rotate_left
              · intro w'
                go_simp
                with_reducible rfl
              rotate_left
              · simp only [Act.put, List.setIfInBounds_toArray, List.set_cons_zero, List.set_cons_succ, i64_w, i32_w]
                rfl
              refine take_ (i := 2) (N := some 36) (v := ?_) (a' := ?_) #[true, true, true, false, true, false, true, false, false, false, false, false] rfl rfl (by kernel_rfl) (fun _ _ _ h => h) (Or.inl ⟨by rfl, ?_⟩) hHeld ?_ ?_
              rotate_left
              · rintro w' ⟨s0, s1, s2, s3⟩
                go_simp
                with_reducible rfl
              rotate_left
              · simp only [Act.put, List.setIfInBounds_toArray, List.set_cons_zero, List.set_cons_succ, i64_w, i32_w]
                rfl
              refine take_ (i := 3) (N := some 37) (v := ?_) (a' := ?_) #[true, true, true, true, true, false, true, false, false, false, false, false] rfl rfl (by kernel_rfl) (fun _ _ _ h => h) (Or.inl ⟨by rfl, ?_⟩) hHeld ?_ ?_
              rotate_left
              · rintro w' ⟨s0, s1, s2, s3⟩
                go_simp
                with_reducible rfl
              rotate_left
              · simp only [Act.put, List.setIfInBounds_toArray, List.set_cons_zero, List.set_cons_succ, i64_w, i32_w]
                rfl
              refine take_ (i := 5) (N := some 39) (v := ?_) (a' := ?_) #[true, true, true, true, true, true, true, false, false, false, false, false] rfl rfl (by kernel_rfl) (fun _ _ _ h => h) (Or.inl ⟨by rfl, ?_⟩) hHeld ?_ ?_
              rotate_left
              · rintro w' ⟨s0, s1, s2, s3⟩
                go_simp
                with_reducible rfl
              rotate_left
              · simp only [Act.put, List.setIfInBounds_toArray, List.set_cons_zero, List.set_cons_succ, i64_w, i32_w]
                rfl
              refine one_ (i := 7) (N := some 41) #[true, true, true, true, true, true, true, true, false, false, false, false] rfl rfl (by kernel_rfl) (by decide) (fun K hK => ?_)
              refine goes_ Try.func61 (by kernel_rfl) rfl #[.agg #[.int .i64 n, .bool ring], .int .u32 t, .int .i64 g, .int .i64 p] (by rfl) rfl rfl (by (try simp only [List.map_toArray, List.map_cons, List.map_nil]); first | done | rfl) ?_
              refine (impl_bench_behind.calls k n ring t g p q _ hq).mono ?_
              rintro e w9 ⟨rfl, hb9⟩
              refine ⟨_, rfl, ?_⟩
              have hi9 := hi8.step hb9
              refine hK.out _ _ ⟨(blk_cell hi9.cl 0).trans rfl, (blk_cell hi9.cb 0).trans rfl, (blk_cell hi9.cb 1).trans rfl, (blk_cell hi9.cg 0).trans rfl⟩ (fun hHeld => ?_)
              clear hK K
              refine norm_ (a' := ?_) ?_ ?_
              rotate_left
              · show Act.put _ (some 41) _ = _
                simp only [Act.put, List.setIfInBounds_toArray, List.set_cons_zero, List.set_cons_succ, i64_w, i32_w]
                rfl
              refine one_ (i := 8) (N := some 42) #[true, true, true, true, true, true, true, true, true, false, false, false] rfl rfl (by kernel_rfl) (by decide) (fun K hK => ?_)
              refine call_ 60 #[.int .u32 q, .pointer (some ⟨bv, 0, none⟩), .pointer (some ⟨bb, 0, none⟩), .pointer (some ⟨bg, 0, none⟩), .pointer (some ⟨bl, 0, none⟩)] (by rfl) rfl ?_ ?_
              · have he := enters_ (P := Try.prog) Try.func60 (by kernel_rfl) rfl #[.int .u32 q, .pointer (some ⟨bv, 0, none⟩), .pointer (some ⟨bb, 0, none⟩), .pointer (some ⟨bg, 0, none⟩), .pointer (some ⟨bl, 0, none⟩)] w9
                unfold execOp
                simp [resolve, Deferred.ofValue, invoke, Act.eval, he]
              refine (ih q x (m + j * impl_ReverseWon.U d) _ hx1 hqr.1 hqr.2 hi9 (by omega)).mono ?_
              rintro e w10 ⟨rfl, hi10, hg10⟩
              refine ⟨_, rfl, ?_⟩
              refine hK.out _ _ ⟨(blk_cell hi10.cl 0).trans rfl, (blk_cell hi10.cb 0).trans rfl, (blk_cell hi10.cb 1).trans rfl, (blk_cell hi10.cg 0).trans rfl⟩ (fun hHeld => ?_)
              clear hK K
              refine norm_ (a' := ?_) ?_ ?_
              rotate_left
              · show Act.put _ (some 42) _ = _
                simp only [Act.put, List.setIfInBounds_toArray, List.set_cons_zero, List.set_cons_succ, i64_w, i32_w]
                rfl
              refine pure_ (i := 9) (N := some 43) (v := ?_) (a' := ?_) #[true, true, true, true, true, true, true, true, true, true, false, false] rfl rfl (by kernel_rfl) (fun _ _ _ h => h) (Or.inl ⟨by rfl, ?_⟩) ?_ ?_
              rotate_left
              · intro w'
                go_simp
                with_reducible rfl
              rotate_left
              · simp only [Act.put, List.setIfInBounds_toArray, List.set_cons_zero, List.set_cons_succ, i64_w, i32_w]
                rfl
              refine pure_ (i := 10) (N := some 44) (v := ?_) (a' := ?_) #[true, true, true, true, true, true, true, true, true, true, true, false] rfl rfl (by kernel_rfl) (fun _ _ _ h => h) (Or.inl ⟨by rfl, ?_⟩) ?_ ?_
              rotate_left
              · intro w'
                go_simp
                with_reducible rfl
              rotate_left
              · simp only [Act.put, List.setIfInBounds_toArray, List.set_cons_zero, List.set_cons_succ, i64_w, i32_w]
                rfl
              refine pure_ (i := 11) (N := some 10) (v := ?_) (a' := ?_) #[true, true, true, true, true, true, true, true, true, true, true, true] rfl rfl (by kernel_rfl) (fun _ _ _ h => h) (Or.inl ⟨by rfl, ?_⟩) ?_ ?_
              rotate_left
              · intro w'
                go_simp
                with_reducible rfl
              rotate_left
              · simp only [Act.put, List.setIfInBounds_toArray, List.set_cons_zero, List.set_cons_succ, i64_w, i32_w]
                rfl
              refine done_ (by kernel_rfl) ?_
              go_wp2
              go_roundw
              case rel => exact ⟨j + 1, !x, rfl, by simp, by omega, hlo2, by rw [Nat.succ_mul, ← Nat.add_assoc]; exact hi10, Kd.R_grown (Kd.R_below (Kd.R_drew hRj) hb9) hg10 (fun _ hq => hq), (hgj.trans (impl_ReverseWon.grown (below_step (Below.drew (Below.refl wr.heap.size wr)) hb9) (some bm))).trans hg10⟩
              case measure => simp [intOf]; omega
          · have hje : j = ps.length := by omega
            subst hje
            rw [List.drop_length] at hlo
            simp only [impl_ReverseWon.lo, Option.some.injEq] at hlo
            subst hlo
            obtain ⟨D', hmap', hval'⟩ := hij.map
            have cv' : wr.cell? ⟨bv, 0, none⟩ = some (.map (some bm)) := (blk_cell hij.cv 0).trans rfl
            have hU : ps.length * impl_ReverseWon.U d ≤ 12 * impl_ReverseWon.U d := Nat.mul_le_mul_right _ hl
            have hUd : impl_ReverseWon.U (d + 1) = 12 * impl_ReverseWon.U d + 1 := rfl
            go_wp2_with (at_mapUpdate; refine wpList_mapUpdate_own _ rfl _ _ _ 65 rfl 61 4 impl_ReverseWon.law Try.underlying65 _ bm (m + ps.length * impl_ReverseWon.U d) D' rfl hmap' (by omega) _ _ _ rfl rfl hkey _ [] (plainElem_bool Try.underlying4 _) ?_; intro w6 hmap6 hg6)
            go_ret
            exact ⟨rfl, hij.turn hg6 ⟨_, hmap6.mono (by omega), impl_ReverseWon.put_ok hmap'.isMap (impl_ReverseWon.law.key hkey) hval' ⟨d + 1, h0⟩⟩, (impl_ReverseWon.grown hb5 (some bm)).trans (hgj.trans hg6)⟩
      · rw [if_neg hl] at h
        cases h
theorem impl_ReverseWon.made (k : Nat) (n : Int) (ring : Bool) (g : Int) (w w4 : World) (bg : Nat) (hb : Below w.heap.size w w4) (hg : w4.heap[bg]? = some (.cells #[.int .i64 g] 3 (0, 0))) :
    impl_ReverseWon.Inv k n ring g w4.heap.size (w4.heap.size + 1 + 1) (w4.heap.size + 1) bg (w4.heap.size + 1 + 1 + 1) w 0 ((((w4.alloc (Obj.map #[] 0)).alloc (Obj.cells #[.int .i64 n, .bool ring] 57)).alloc (Obj.cells #[.map (some w4.heap.size)] 65)).alloc (Obj.cells #[(.func (.func 60) #[] #[.pointer (some ⟨w4.heap.size + 1 + 1, 0, none⟩), .pointer (some ⟨w4.heap.size + 1, 0, none⟩), .pointer (some ⟨bg, 0, none⟩), .pointer (some ⟨w4.heap.size + 1 + 1 + 1, 0, none⟩)])] 66)) := by
  refine ⟨below_alloc (below_alloc (below_alloc (below_alloc hb _) _) _) _, hb.size, ?_, ?_, blk_alloc (blk_alloc (blk_alloc (blk_alloc hg _) _) _) _, ?_, .map [], ?_, fun t c hh => by simp [Maps.has] at hh⟩
  · exact blk_alloc (by simpa using blk_new ((w4.alloc (Obj.map #[] 0)).alloc (Obj.cells #[.int .i64 n, .bool ring] 57)) (Obj.cells #[.map (some w4.heap.size)] 65)) _
  · exact blk_alloc (blk_alloc (by simpa using blk_new (w4.alloc (Obj.map #[] 0)) (Obj.cells #[.int .i64 n, .bool ring] 57)) _) _
  · simpa using blk_new (((w4.alloc (Obj.map #[] 0)).alloc (Obj.cells #[.int .i64 n, .bool ring] 57)).alloc (Obj.cells #[.map (some w4.heap.size)] 65)) (Obj.cells #[(.func (.func 60) #[] #[.pointer (some ⟨w4.heap.size + 1 + 1, 0, none⟩), .pointer (some ⟨w4.heap.size + 1, 0, none⟩), .pointer (some ⟨bg, 0, none⟩), .pointer (some ⟨w4.heap.size + 1 + 1 + 1, 0, none⟩)])] 66)
  · exact ((((World.ownsMap_made w4 _ _ _).alloc _).alloc _).alloc _)
set_option maxHeartbeats 8000000 in
set_option maxRecDepth 100000 in
theorem impl_ReverseWon.calls (k : Nat) (a0_0 : Int) (a0_1 : Bool) (A0_2 : Option Addr) (c0_2 : Nat) (l0_2 : List Int) (a1 : Int) (r1 : Bool) (r2 : Bool) (w : World) (hr0_2 : Kd.C (Kd.int .i64) w A0_2 l0_2.length l0_2) (hc0_2 : l0_2.length ≤ c0_2) (h : impl_ReverseWon.f k a0_0 a0_1 l0_2 a1 = some (r1, r2)) :
    Calls Try.prog 27 #[.agg #[.int .i64 a0_0, .bool a0_1, .slice A0_2 l0_2.length c0_2], .int .i64 a1] w fun e w' => e = .returned (.tuple #[.bool r1, .bool r2]) ∧ Below w.heap.size w w' := by
  obtain ⟨b, hb, h1⟩ := Option.bind_eq_some_iff.mp (show (impl_isGame.f k a0_0 a0_1 l0_2 a1).bind _ = some (r1, r2) from h)
  clear h
  have hmm := @run_makeMap Try.prog
  by_cases hbt : b = true
  · subst hbt
    rw [if_pos rfl] at h1
    by_cases c12 : a0_0 > 12
    · rw [if_pos c12] at h1
      simp only [Option.some.injEq, Prod.mk.injEq] at h1
      obtain ⟨rfl, rfl⟩ := h1
      have c12b : decide (a0_0 > 12) = true := decide_eq_true c12
      go_enter Try.func27, Try.ntmps27
      go_wp2_with (first | ((with_reducible refine gate_callee (f := 50) rfl ?_); refine goesL_ (some 11) rfl rfl Try.func50 (by kernel_rfl) rfl #[.agg #[.int .i64 a0_0, .bool a0_1, .slice A0_2 l0_2.length c0_2], .int .i64 a1] rfl (by (try simp only [List.map_toArray, List.map_cons, List.map_nil]); first | done | rfl) ?_; refine (impl_isGame.calls k a0_0 a0_1 _ _ l0_2 a1 true _ (by repeat (first | exact hr0_2 | refine Kd.C_alloc ?_ _ | refine Kd.C_drewN ?_ _ | refine Kd.C_drew ?_)) hc0_2 hb).mono ?_; rintro e w3 ⟨rfl, hb3⟩; have hrw3 : w3.heap[w.heap.size]? = some (.cells #[.int .i64 a0_0, .bool a0_1, .slice A0_2 l0_2.length c0_2] 32 (0, 0)) := blk_below (blk_alloc (blk_new w _) _) hb3; have hrg3 : w3.heap[w.heap.size + 1]? = some (.cells #[.int .i64 a1] 3 (0, 0)) := (by simpa using blk_below (blk_new (w.alloc (Obj.cells #[.int .i64 a0_0, .bool a0_1, .slice A0_2 l0_2.length c0_2] 32)) (Obj.cells #[.int .i64 a1] 3)) hb3); have cq0 : w3.cell? ⟨w.heap.size, 0, none⟩ = some (.int .i64 a0_0) := (blk_cell hrw3 0).trans rfl; have cq1 : w3.cell? ⟨w.heap.size, 1, none⟩ = some (.bool a0_1) := (blk_cell hrw3 1).trans rfl; have cq2 : w3.cell? ⟨w.heap.size, 2, none⟩ = some (.slice A0_2 l0_2.length c0_2) := (blk_cell hrw3 2).trans rfl; have hbw3 : Below w.heap.size w w3 := below_step (below_alloc (below_alloc (Below.refl _ _) _) _) hb3; refine ⟨_, rfl, ?_⟩))
      go_ret2
      exact ⟨rfl, below_step (below_alloc (below_alloc (Below.refl _ _) _) _) hb3⟩
    · rw [if_neg c12] at h1
      have c12b : decide (a0_0 > 12) = false := decide_eq_false c12
      obtain ⟨T, hT, h2⟩ := Option.bind_eq_some_iff.mp h1
      by_cases hTr : 0 ≤ T ∧ T < 4294967296
      · rw [if_pos hTr] at h2
        obtain ⟨v, hv, h3⟩ := Option.bind_eq_some_iff.mp h2
        simp only [Option.some.injEq, Prod.mk.injEq] at h3
        obtain ⟨rfl, rfl⟩ := h3
        clear h1 h2
        go_enter Try.func27, Try.ntmps27
        go_wp2_with (first | ((with_reducible refine gate_callee (f := 50) rfl ?_); refine goesL_ (some 11) rfl rfl Try.func50 (by kernel_rfl) rfl #[.agg #[.int .i64 a0_0, .bool a0_1, .slice A0_2 l0_2.length c0_2], .int .i64 a1] rfl (by (try simp only [List.map_toArray, List.map_cons, List.map_nil]); first | done | rfl) ?_; refine (impl_isGame.calls k a0_0 a0_1 _ _ l0_2 a1 true _ (by repeat (first | exact hr0_2 | refine Kd.C_alloc ?_ _ | refine Kd.C_drewN ?_ _ | refine Kd.C_drew ?_)) hc0_2 hb).mono ?_; rintro e w3 ⟨rfl, hb3⟩; have hrw3 : w3.heap[w.heap.size]? = some (.cells #[.int .i64 a0_0, .bool a0_1, .slice A0_2 l0_2.length c0_2] 32 (0, 0)) := blk_below (blk_alloc (blk_new w _) _) hb3; have hrg3 : w3.heap[w.heap.size + 1]? = some (.cells #[.int .i64 a1] 3 (0, 0)) := (by simpa using blk_below (blk_new (w.alloc (Obj.cells #[.int .i64 a0_0, .bool a0_1, .slice A0_2 l0_2.length c0_2] 32)) (Obj.cells #[.int .i64 a1] 3)) hb3); have cq0 : w3.cell? ⟨w.heap.size, 0, none⟩ = some (.int .i64 a0_0) := (blk_cell hrw3 0).trans rfl; have cq1 : w3.cell? ⟨w.heap.size, 1, none⟩ = some (.bool a0_1) := (blk_cell hrw3 1).trans rfl; have cq2 : w3.cell? ⟨w.heap.size, 2, none⟩ = some (.slice A0_2 l0_2.length c0_2) := (blk_cell hrw3 2).trans rfl; have hbw3 : Below w.heap.size w w3 := below_step (below_alloc (below_alloc (Below.refl _ _) _) _) hb3; refine ⟨_, rfl, ?_⟩) | ((with_reducible refine gate_callee (f := 51) rfl ?_); refine goesL_ (some 19) rfl rfl Try.func51 (by kernel_rfl) rfl #[.agg #[.int .i64 a0_0, .bool a0_1, .slice A0_2 l0_2.length c0_2]] rfl (by (try simp only [List.map_toArray, List.map_cons, List.map_nil]); first | done | rfl) ?_; refine (impl_Row_bench.calls a0_0 a0_1 _ _ l0_2 a0_0 a0_1 _ (Kd.C_below hr0_2 hbw3) hc0_2 rfl).mono ?_; rintro e w4 ⟨rfl, hb4⟩; have hrw4 := blk_below hrw3 hb4; have hrg4 := blk_below hrg3 hb4; have hbw4 := below_step hbw3 hb4; refine ⟨_, rfl, ?_⟩))
        have hi4 := impl_ReverseWon.made k a0_0 a0_1 a1 w w4 (w.heap.size + 1) hbw4 hrg4
        have hrw5 := blk_alloc (blk_alloc (blk_alloc (blk_alloc hrw4 (Obj.map #[] 0)) (Obj.cells #[.int .i64 a0_0, .bool a0_1] 57)) (Obj.cells #[.map (some w4.heap.size)] 65)) (Obj.cells #[(.func (.func 60) #[] #[.pointer (some ⟨w4.heap.size + 1 + 1, 0, none⟩), .pointer (some ⟨w4.heap.size + 1, 0, none⟩), .pointer (some ⟨w.heap.size + 1, 0, none⟩), .pointer (some ⟨w4.heap.size + 1 + 1 + 1, 0, none⟩)])] 66)
        have hi5 := hi4.step (Below.drew (Below.refl _ _))
        refine start_ (n := 6) (S := fun w' => w'.cell? ⟨w4.heap.size + 1 + 1 + 1, 0, none⟩ = some (.func (.func 60) #[] #[.pointer (some ⟨w4.heap.size + 1 + 1, 0, none⟩), .pointer (some ⟨w4.heap.size + 1, 0, none⟩), .pointer (some ⟨w.heap.size + 1, 0, none⟩), .pointer (some ⟨w4.heap.size + 1 + 1 + 1, 0, none⟩)]) ∧ w'.cell? ⟨w.heap.size, 0, none⟩ = some (.int .i64 a0_0) ∧ w'.cell? ⟨w.heap.size, 1, none⟩ = some (.bool a0_1) ∧ w'.cell? ⟨w.heap.size, 2, none⟩ = some (.slice A0_2 l0_2.length c0_2)) (ds := []) #[false, false, false, false, false, false] (by kernel_rfl) rfl rfl ⟨(blk_cell hi5.cl 0).trans rfl, (blk_cell (blk_drew hrw5) 0).trans rfl, (blk_cell (blk_drew hrw5) 1).trans rfl, (blk_cell (blk_drew hrw5) 2).trans rfl⟩ (fun hHeld => ?_)
        refine take_ (i := 0) (N := some 22) (v := ?_) (a' := ?_) #[true, false, false, false, false, false] rfl rfl (by kernel_rfl) (fun _ _ _ h => h) (Or.inl ⟨by rfl, ?_⟩) hHeld ?_ ?_
        rotate_left
        · rintro w' ⟨s0, s1, s2, s3⟩
          go_simp
          with_reducible rfl
        rotate_left
        · simp only [Act.put, List.setIfInBounds_toArray, List.set_cons_zero, List.set_cons_succ, i64_w, i32_w]
          rfl
        refine take_ (i := 1) (N := some 23) (v := ?_) (a' := ?_) #[true, true, false, false, false, false] rfl rfl (by kernel_rfl) (fun _ _ _ h => h) (Or.inl ⟨by rfl, ?_⟩) hHeld ?_ ?_
        rotate_left
        · rintro w' ⟨s0, s1, s2, s3⟩
          go_simp
          with_reducible rfl
        rotate_left
        · simp only [Act.put, List.setIfInBounds_toArray, List.set_cons_zero, List.set_cons_succ, i64_w, i32_w]
          rfl
        refine one_ (i := 2) (N := some 24) #[true, true, true, false, false, false] rfl rfl (by kernel_rfl) (by decide) (fun K hK => ?_)
        refine goes_ Try.func53 (by kernel_rfl) rfl #[.agg #[.int .i64 a0_0, .bool a0_1, .slice A0_2 l0_2.length c0_2]] (by rfl) rfl rfl (by (try simp only [List.map_toArray, List.map_cons, List.map_nil]); first | done | rfl) ?_
        refine (impl_Row_taken.calls k a0_0 a0_1 _ _ l0_2 T _ (Kd.C_below hr0_2 hi5.below) hc0_2 hT).mono ?_
        rintro e w6 ⟨rfl, hb6⟩
        refine ⟨_, rfl, ?_⟩
        have hi6 := hi5.step hb6
        have hrw6 := blk_below (blk_drew hrw5) hb6
        refine hK.out _ _ ⟨(blk_cell hi6.cl 0).trans rfl, (blk_cell hrw6 0).trans rfl, (blk_cell hrw6 1).trans rfl, (blk_cell hrw6 2).trans rfl⟩ (fun hHeld => ?_)
        clear hK K
        refine norm_ (a' := ?_) ?_ ?_
        rotate_left
        · show Act.put _ (some 24) _ = _
          simp only [Act.put, List.setIfInBounds_toArray, List.set_cons_zero, List.set_cons_succ, i64_w, i32_w]
          rfl
        refine one_ (i := 3) (N := some 25) #[true, true, true, true, false, false] rfl rfl (by kernel_rfl) (by decide) (fun K hK => ?_)
        refine call_ 60 #[.int .u32 T, .pointer (some ⟨w4.heap.size + 1 + 1, 0, none⟩), .pointer (some ⟨w4.heap.size + 1, 0, none⟩), .pointer (some ⟨w.heap.size + 1, 0, none⟩), .pointer (some ⟨w4.heap.size + 1 + 1 + 1, 0, none⟩)] (by rfl) rfl ?_ ?_
        · have he := enters_ (P := Try.prog) Try.func60 (by kernel_rfl) rfl #[.int .u32 T, .pointer (some ⟨w4.heap.size + 1 + 1, 0, none⟩), .pointer (some ⟨w4.heap.size + 1, 0, none⟩), .pointer (some ⟨w.heap.size + 1, 0, none⟩), .pointer (some ⟨w4.heap.size + 1 + 1 + 1, 0, none⟩)] w6
          unfold execOp
          simp [resolve, Deferred.ofValue, invoke, Act.eval, he]
        refine (impl_ReverseWon.won k a0_0 a0_1 a1 _ _ _ _ _ w 13 T v 0 _ hv hTr.1 hTr.2 hi6 (by decide)).mono ?_
        rintro e w7 ⟨rfl, hi7, hg7⟩
        refine ⟨_, rfl, ?_⟩
        have hrw7 := blk_grown hrw6 hg7 (by obtain ⟨D, hown, _⟩ := hi6.map; exact impl_ReverseWon.ne_map hown hrw6)
        refine hK.out _ _ ⟨(blk_cell hi7.cl 0).trans rfl, (blk_cell hrw7 0).trans rfl, (blk_cell hrw7 1).trans rfl, (blk_cell hrw7 2).trans rfl⟩ (fun hHeld => ?_)
        clear hK K
        refine norm_ (a' := ?_) ?_ ?_
        rotate_left
        · show Act.put _ (some 25) _ = _
          simp only [Act.put, List.setIfInBounds_toArray, List.set_cons_zero, List.set_cons_succ, i64_w, i32_w]
          rfl
        refine pure_ (i := 4) (N := some 4) (v := ?_) (a' := ?_) #[true, true, true, true, true, false] rfl rfl (by kernel_rfl) (fun _ _ _ h => h) (Or.inl ⟨by rfl, ?_⟩) ?_ ?_
        rotate_left
        · intro w'
          go_simp
          with_reducible rfl
        rotate_left
        · simp only [Act.put, List.setIfInBounds_toArray, List.set_cons_zero, List.set_cons_succ, i64_w, i32_w]
          rfl
        refine pure_ (i := 5) (N := some 5) (v := ?_) (a' := ?_) #[true, true, true, true, true, true] rfl rfl (by kernel_rfl) (fun _ _ _ h => h) (Or.inl ⟨by rfl, ?_⟩) ?_ ?_
        rotate_left
        · intro w'
          go_simp
          with_reducible rfl
        rotate_left
        · simp only [Act.put, List.setIfInBounds_toArray, List.set_cons_zero, List.set_cons_succ, i64_w, i32_w]
          rfl
        refine done_ (by kernel_rfl) ?_
        go_wp2
        go_ret2
        exact ⟨rfl, hi7.below⟩
      · rw [if_neg hTr] at h2
        cases h2
  · have hbf : b = false := by simpa using hbt
    subst hbf
    rw [if_neg (by simp)] at h1
    simp only [Option.some.injEq, Prod.mk.injEq] at h1
    obtain ⟨rfl, rfl⟩ := h1
    go_enter Try.func27, Try.ntmps27
    go_wp2_with (first | ((with_reducible refine gate_callee (f := 50) rfl ?_); refine goesL_ (some 11) rfl rfl Try.func50 (by kernel_rfl) rfl #[.agg #[.int .i64 a0_0, .bool a0_1, .slice A0_2 l0_2.length c0_2], .int .i64 a1] rfl (by (try simp only [List.map_toArray, List.map_cons, List.map_nil]); first | done | rfl) ?_; refine (impl_isGame.calls k a0_0 a0_1 _ _ l0_2 a1 false _ (by repeat (first | exact hr0_2 | refine Kd.C_alloc ?_ _ | refine Kd.C_drewN ?_ _ | refine Kd.C_drew ?_)) hc0_2 hb).mono ?_; rintro e w3 ⟨rfl, hb3⟩; have hrw3 : w3.heap[w.heap.size]? = some (.cells #[.int .i64 a0_0, .bool a0_1, .slice A0_2 l0_2.length c0_2] 32 (0, 0)) := blk_below (blk_alloc (blk_new w _) _) hb3; have hrg3 : w3.heap[w.heap.size + 1]? = some (.cells #[.int .i64 a1] 3 (0, 0)) := (by simpa using blk_below (blk_new (w.alloc (Obj.cells #[.int .i64 a0_0, .bool a0_1, .slice A0_2 l0_2.length c0_2] 32)) (Obj.cells #[.int .i64 a1] 3)) hb3); have cq0 : w3.cell? ⟨w.heap.size, 0, none⟩ = some (.int .i64 a0_0) := (blk_cell hrw3 0).trans rfl; have cq1 : w3.cell? ⟨w.heap.size, 1, none⟩ = some (.bool a0_1) := (blk_cell hrw3 1).trans rfl; have cq2 : w3.cell? ⟨w.heap.size, 2, none⟩ = some (.slice A0_2 l0_2.length c0_2) := (blk_cell hrw3 2).trans rfl; have hbw3 : Below w.heap.size w w3 := below_step (below_alloc (below_alloc (Below.refl _ _) _) _) hb3; refine ⟨_, rfl, ?_⟩))
    go_ret2
    exact ⟨rfl, below_step (below_alloc (below_alloc (Below.refl _ _) _) _) hb3⟩


end Go.Proofs.Ytgcgmlbjklkkjaa.QFnExactReverseWon
