-- Written by px.py, a program of this session, over the kit's printer: some functions have a definition and a proof of this session's own.
import Derived.RangeFuncBox
import Derived.RangeFuncLeaves
import Derived.Shelf.Abstract
import Derived.OwnWalkIn
import Derived.TacticsInMore
import Derived.LoopNIn
import Derived.LoopIn
import Derived.Maps.AppendAt
import Derived.Sort.OwnSortedInts
import Derived.Shelf.Slices.In.SortNone
import Derived.Shelf.Sort.Plain
import Derived.KernelRfl
import Derived.Test.YtgmodeeebkngcaaGreatDoorQFnExactIsValidConsolex0
import Derived.Test.YtgmodeeebkngcaaGreatDoorQFnExactIsValidConsolex1
import Derived.Shelf.Strings.Search2
import Derived.Shelf.Strconv.Itoa3
import Derived.Lib.AppendIntMem
import Derived.Shelf.Strings.IndexAnyAll
namespace Go.Proofs.YtgmodeeebkngcaaGreatDoor.QFnExactIsValidConsole
open Go.RowKit Go.Proofs.YtgmodeeebkngcaaGreatDoorW.PrintWords Go.Proofs.YtgmodeeebkngcaaGreatDoorW.PrintLast Go.Proofs.YtgmodeeebkngcaaGreatDoorW.PrintMore
attribute [local go_sem] max2_int min2_int max_two min_two max_three min_three max_four min_four   -- for this text's walks alone
set_option linter.unusedVariables false
set_option linter.unusedSimpArgs false
set_option maxHeartbeats 8000000
set_option maxRecDepth 100000

def impl_IsRow.l0 : Nat → List Int → Int → Int → Int → Bool → List Int → Option (Bool)
 | 0, _, _, _, _, _, _ => none
 | k + 1, x6, x7, x8, x234000, x234001, x234002 => if x8 < x7 then (if 0 ≤ x8 then (if x8 < (x6.length : Int) then ((impl_Row_bench.f x234000 x234001 x234002).bind fun bt238 => ((impl_bench_has.f k bt238.1 bt238.2 (([rd x6 x8] : List Int))).bind fun t243 => (if t243 = true then (if x8 > 0 then (if 0 ≤ (wrap64 (x8 - 1)) then (if (wrap64 (x8 - 1)) < (x234002.length : Int) then (if (rd x234002 (wrap64 (x8 - 1))) ≥ (rd x6 x8) then (some false) else (impl_IsRow.l0 k x6 x7 (wrap64 (x8 + 1)) x234000 x234001 x234002)) else (none)) else (none)) else (impl_IsRow.l0 k x6 x7 (wrap64 (x8 + 1)) x234000 x234001 x234002)) else (some false)))) else (none)) else (none)) else ((impl_Row_bench.f x234000 x234001 x234002).bind fun bt234 => ((impl_bench_valid.f bt234.1 bt234.2).bind fun t236 => (some t236)))
def impl_IsRow.f (k : Nat) (a0_0 : Int) (a0_1 : Bool) (l0_2 : List Int) : Option (Bool) := impl_IsRow.l0 k l0_2 (l0_2.length : Int) 0 a0_0 a0_1 l0_2
theorem impl_IsRow.mono_l : ∀ k, (∀ y0 y1 y2 y3 y4 y5, LeO (impl_IsRow.l0 k y0 y1 y2 y3 y4 y5) (impl_IsRow.l0 (k + 1) y0 y1 y2 y3 y4 y5))
 | 0 => fun _ _ _ _ _ _ r h => by simp [impl_IsRow.l0] at h
 | k + 1 => by
  have ih0 := impl_IsRow.mono_l k
  ·intro y0 y1 y2 y3 y4 y5
   unfold impl_IsRow.l0
   repeat' with_reducible first | exact ih0 .. | exact impl_bench_has.mono .. | exact LeO.refl .. | exact LeO.none .. | refine LeO.ite ?_ ?_ | refine LeO.bind ?_ (fun _ => ?_)
theorem impl_IsRow.mono : ∀ a0 a1 a2 k, LeO (impl_IsRow.f k a0 a1 a2) (impl_IsRow.f (k + 1) a0 a1 a2) := by
 intro a0 a1 a2 k
 have ih0 := impl_IsRow.mono_l k
 unfold impl_IsRow.f
 repeat' with_reducible first | exact ih0 .. | exact impl_bench_has.mono .. | exact LeO.refl .. | exact LeO.none .. | refine LeO.ite ?_ ?_ | refine LeO.bind ?_ (fun _ => ?_)
theorem impl_IsRow.calls (k : Nat) (a0_0 : Int) (a0_1 : Bool) (A0_2 : Option Addr) (c0_2 : Nat) (l0_2 : List Int) (r : Bool) (w : World) (hr0_2 : Kd.C (Kd.int .i64) w A0_2 l0_2.length l0_2) (hc0_2 : l0_2.length ≤ c0_2) (h : impl_IsRow.f k a0_0 a0_1 l0_2 = some r) :
  Calls Tryz.prog 27 #[.agg #[.int .i64 a0_0, .bool a0_1, .slice A0_2 l0_2.length c0_2]] w fun e w' => e = .returned (.bool r) ∧ Below w.heap.size w w' := by
 have hu33 := Tryz.underlying33
 have HR0_2 := A0_ hr0_2
 have HC0_2 := A0_ hc0_2
 clear hr0_2 hc0_2
 have HB := A0_ (Below.refl w.heap.size w)
 have H : (impl_IsRow.l0 k l0_2 (l0_2.length : Int) 0 a0_0 a0_1 l0_2) = some r := h
 clear h
 have H' := A0_ H
 clear H
 go_enter Tryz.func27, Tryz.ntmps27
 go_wp2_with (first | ((with_reducible refine gd_ (N := 1) rfl ?_); refine bx_ 1 #[.int .i64 a0_0, .bool a0_1, .slice A0_2 l0_2.length c0_2] 33 ?_; intro gb1 hg w1 BK1 hb; have GW1 := ge_ hg brt4_; have GE1 := GW1; replace HB := hb_ hb brt4_; clear hb hg; have hcz1 := c3_ BK1))
 go_loopg [8] k (fun kq v1 w' => ∃ (x8_1 : Int), v1 = .int .i64 x8_1 ∧ Aside0 (impl_IsRow.l0 kq l0_2 (l0_2.length : Int) x8_1 a0_0 a0_1 l0_2 = some r) ∧ Aside0 (kq ≤ k) ∧ Aside0 (w'.heap[gb1]? = some (.cells #[.int .i64 a0_0, .bool a0_1, (.slice A0_2 l0_2.length c0_2)] 33 (0, 0))) ∧ Aside0 (Below w.heap.size w w'))
 case atStart => exact ⟨(0), b2ew_, H', ⟨Nat.le_refl _⟩, ⟨u1_ BK1⟩, ⟨be6g_⟩⟩
 clear H'
 (try clear hcz1)
 obtain ⟨x8_1, rfl, HA, HK1, BK1, HB⟩ := hrel
 cases gk with | zero => exact absurd HA.out (by simp [impl_IsRow.l0]) | succ k1 => ?_
 have H := HA.out
 clear HA
 simp only [impl_IsRow.l0] at H
 by_cases c1 : x8_1 < (l0_2.length : Int)
 case neg =>
  rw [if_neg c1] at H
  have c1b0 : decide (x8_1 < (l0_2.length : Int)) = false := decide_eq_false c1
  clear c1
  obtain ⟨⟨t1, t2⟩, A2, H⟩ := o1_ H
  obtain ⟨t3, A4, H⟩ := o1_ H
  replace H : (some t3) = some r := H
  obtain rfl := si_ H
  have hcz2 := c3_ BK1
  go_wp2_with (first | ((with_reducible refine gc_ (f := 39) rfl ?_); refine gl_ 35 Tryz.func39 #[.agg #[.int .i64 a0_0, .bool a0_1, .slice A0_2 l0_2.length c0_2]] ?_; (with_reducible refine (impl_Row_bench.calls a0_0 a0_1 _ _ l0_2 t1 t2 _ ?side1 ?side2 A2.out).mono ?_); (case side1 => exact b6n8_); (case side2 => exact HC0_2.out); rintro e w2 ⟨rfl, hb⟩; refine ⟨_, rfl, ?_⟩; replace BK1 := k1_ BK1 hb; replace HB := hb_ hb be6g_; (try clear hb)) | ((with_reducible refine gc_ (f := 41) rfl ?_); refine gl_ 36 Tryz.func41 #[.agg #[.int .i64 t1, .bool t2]] ?_; (with_reducible refine (impl_bench_valid.calls t1 t2 t3 _ A4.out).mono ?_); rintro e w3 ⟨rfl, hb⟩; refine ⟨_, rfl, ?_⟩; replace BK1 := k1_ BK1 hb; replace HB := hb_ hb be6g_; (try clear hb)))
  go_ret
  exact ⟨bnwh_, be6g_⟩
 rw [if_pos c1] at H
 have c1b0 : decide (x8_1 < (l0_2.length : Int)) = true := dt_ c1
 clear c1
 by_cases c2 : 0 ≤ x8_1
 case neg =>
  rw [if_neg c2] at H
  exact absurd H bxka_
 rw [if_pos c2] at H
 have c2b0 : decide (0 ≤ x8_1) = true := dt_ c2
 clear c2
 by_cases c3 : x8_1 < (l0_2.length : Int)
 case neg =>
  rw [if_neg c3] at H
  exact absurd H bxka_
 rw [if_pos c3] at H
 have c3b0 : decide (x8_1 < (l0_2.length : Int)) = true := dt_ c3
 clear c3
 obtain ⟨⟨t1, t2⟩, A2, H⟩ := o1_ H
 obtain ⟨y1, hy1⟩ : ∃ y_ : List Int, y_ = (([rd l0_2 x8_1] : List Int)) := ⟨_, rfl⟩
 replace H : ((impl_bench_has.f k1 t1 t2 y1).bind fun t3 => (if t3 = true then (if x8_1 > 0 then (if 0 ≤ (wrap64 (x8_1 - 1)) then (if (wrap64 (x8_1 - 1)) < (l0_2.length : Int) then (if (rd l0_2 (wrap64 (x8_1 - 1))) ≥ (rd l0_2 x8_1) then (some false) else (impl_IsRow.l0 k1 l0_2 (l0_2.length : Int) (wrap64 (x8_1 + 1)) a0_0 a0_1 l0_2)) else (none)) else (none)) else (impl_IsRow.l0 k1 l0_2 (l0_2.length : Int) (wrap64 (x8_1 + 1)) a0_0 a0_1 l0_2)) else (some false))) = some r := bgiq_
 have Ny1 := A0_ hy1
 clear hy1
 obtain ⟨t3, A4, H⟩ := o1_ H
 by_cases c4 : t3 = true
 case neg =>
  obtain rfl := bf_.mpr c4
  rw [if_neg ft_] at H
  obtain rfl := si_ H
  have p1 : 0 ≤ (x8_1 : Int) := od_ bpil_
  have q1 : x8_1 < (l0_2.length : Int) := od_ bpil_
  obtain ⟨ad1, e1, hx1_0⟩ := Kd.at_int HR0_2.out x8_1 p1 q1
  cases e1
  replace hx1_0 := (HB.out.cell (World.block_lt_of_cell? w _ hx1_0)).trans hx1_0
  replace p1 := eq_true p1
  replace q1 := eq_true q1
  have hcz2 := c3_ BK1
  go_wp2_with (first | ((with_reducible refine gc_ (f := 39) rfl ?_); refine gl_ 14 Tryz.func39 #[.agg #[.int .i64 a0_0, .bool a0_1, .slice (some ad1) l0_2.length c0_2]] ?_; (with_reducible refine (impl_Row_bench.calls a0_0 a0_1 _ _ l0_2 t1 t2 _ ?side1 ?side2 A2.out).mono ?_); (case side1 => exact b6n8_); (case side2 => exact HC0_2.out); rintro e w2 ⟨rfl, hb⟩; refine ⟨_, rfl, ?_⟩; replace BK1 := k1_ BK1 hb; replace HB := hb_ hb be6g_; (try clear hb)) | ((with_reducible refine gd_ (N := 16) rfl ?_); refine Kd.R_lit (Kd.int .i64) _ 3 ?hg (N := 16) ?hd (xs := ([rd l0_2 x8_1] : List Int)) (inner := [.int .i64 (rd l0_2 x8_1)]) (ok := fun _ => True) (okp := fun _ => True) ?hr ?hp (fun _ hk => hk) trivial (Below.refl _ _) (Nat.le_refl _) bxka_ ?_; (case hd => rfl); (case hg => rfl); (case hr => go_simp; first | done | rfl); (case hp => exact (Reps.one (show Kd.M (Kd.int .i64) _ _ _ (rd l0_2 x8_1) [.int .i64 (rd l0_2 x8_1)] from rfl) (Reps.none _ _))); intro v2 w3 ho38 hb hg_ hnew_; clear hg_ hnew_; (first | rw [← Ny1.out] at ho38 | (simp only [Int.reduceToNat] at ho38; rw [← Ny1.out] at ho38)); have HO1 := A0_ (Kd.R_lower ho38 (bz_ be6g_)); replace BK1 := k1_ BK1 hb; replace HB := hb_ hb be6g_; clear hb ho38; obtain ⟨Ao1, co1, eo1⟩ := Kd.R_slice HO1.out; subst eo1) | ((with_reducible refine gc_ (f := 40) rfl ?_); refine gl_ 17 Tryz.func40 #[.agg #[.int .i64 t1, .bool t2], .slice Ao1 y1.length co1] ?_; (with_reducible refine (impl_bench_has.calls k1 t1 t2 _ _ y1 false _ ?side1 ?side2 A4.out).mono ?_); (case side1 => exact bayy_); (case side2 => exact (rr_ HO1.out).2.1); rintro e w4 ⟨rfl, hb⟩; refine ⟨_, rfl, ?_⟩; replace HO1 := A0_ (Kd.R_below bsm5_ hb); replace BK1 := k1_ BK1 hb; replace HB := hb_ hb be6g_; (try clear hb)))
  go_ret
  exact ⟨bnwh_, be6g_⟩
 subst c4
 rw [if_pos rfl] at H
 by_cases c5 : x8_1 > 0
 case neg =>
  rw [if_neg c5] at H
  have c5b0 : decide (0 < x8_1) = false := decide_eq_false c5
  clear c5
  have H' := A0_ H
  clear H
  have p1 : 0 ≤ (x8_1 : Int) := od_ bpil_
  have q1 : x8_1 < (l0_2.length : Int) := od_ bpil_
  obtain ⟨ad1, e1, hx1_0⟩ := Kd.at_int HR0_2.out x8_1 p1 q1
  cases e1
  replace hx1_0 := (HB.out.cell (World.block_lt_of_cell? w _ hx1_0)).trans hx1_0
  replace p1 := eq_true p1
  replace q1 := eq_true q1
  have hcz2 := c3_ BK1
  go_wp2_with (first | ((with_reducible refine gc_ (f := 39) rfl ?_); refine gl_ 14 Tryz.func39 #[.agg #[.int .i64 a0_0, .bool a0_1, .slice (some ad1) l0_2.length c0_2]] ?_; (with_reducible refine (impl_Row_bench.calls a0_0 a0_1 _ _ l0_2 t1 t2 _ ?side1 ?side2 A2.out).mono ?_); (case side1 => exact b6n8_); (case side2 => exact HC0_2.out); rintro e w2 ⟨rfl, hb⟩; refine ⟨_, rfl, ?_⟩; replace BK1 := k1_ BK1 hb; replace HB := hb_ hb be6g_; (try clear hb)) | ((with_reducible refine gd_ (N := 16) rfl ?_); refine Kd.R_lit (Kd.int .i64) _ 3 ?hg (N := 16) ?hd (xs := ([rd l0_2 x8_1] : List Int)) (inner := [.int .i64 (rd l0_2 x8_1)]) (ok := fun _ => True) (okp := fun _ => True) ?hr ?hp (fun _ hk => hk) trivial (Below.refl _ _) (Nat.le_refl _) bxka_ ?_; (case hd => rfl); (case hg => rfl); (case hr => go_simp; first | done | rfl); (case hp => exact (Reps.one (show Kd.M (Kd.int .i64) _ _ _ (rd l0_2 x8_1) [.int .i64 (rd l0_2 x8_1)] from rfl) (Reps.none _ _))); intro v2 w3 ho32 hb hg_ hnew_; clear hg_ hnew_; (first | rw [← Ny1.out] at ho32 | (simp only [Int.reduceToNat] at ho32; rw [← Ny1.out] at ho32)); have HO1 := A0_ (Kd.R_lower ho32 (bz_ be6g_)); replace BK1 := k1_ BK1 hb; replace HB := hb_ hb be6g_; clear hb ho32; obtain ⟨Ao1, co1, eo1⟩ := Kd.R_slice HO1.out; subst eo1) | ((with_reducible refine gc_ (f := 40) rfl ?_); refine gl_ 17 Tryz.func40 #[.agg #[.int .i64 t1, .bool t2], .slice Ao1 y1.length co1] ?_; (with_reducible refine (impl_bench_has.calls k1 t1 t2 _ _ y1 true _ ?side1 ?side2 A4.out).mono ?_); (case side1 => exact bayy_); (case side2 => exact (rr_ HO1.out).2.1); rintro e w4 ⟨rfl, hb⟩; refine ⟨_, rfl, ?_⟩; replace HO1 := A0_ (Kd.R_below bsm5_ hb); replace BK1 := k1_ BK1 hb; replace HB := hb_ hb be6g_; (try clear hb)))
  go_roundg k1
  case measure => have := HK1.out; omega
  exact ⟨(wrap64 (x8_1 + 1)), b2ew_, H', ⟨bxjq_⟩, ⟨u1_ BK1⟩, ⟨be6g_⟩⟩
 rw [if_pos c5] at H
 have c5b0 : decide (0 < x8_1) = true := dt_ c5
 clear c5
 obtain ⟨ji1, hji1⟩ : ∃ j_ : Int, (wrap64 (x8_1 - 1)) = j_ := ⟨_, rfl⟩
 replace H : (if 0 ≤ (ji1) then (if (ji1) < (l0_2.length : Int) then (if (rd l0_2 (ji1)) ≥ (rd l0_2 x8_1) then (some false) else (impl_IsRow.l0 k1 l0_2 (l0_2.length : Int) (wrap64 (x8_1 + 1)) a0_0 a0_1 l0_2)) else (none)) else (none)) = some r := bmns_
 (try rw [hji1] at A2)
 (try rw [hji1] at A4)
 have hji11w : (IntKind.i64.wrap (x8_1 - 1)) = ji1 := (i64_w _).trans hji1
 by_cases c6 : 0 ≤ (ji1)
 case neg =>
  rw [if_neg c6] at H
  exact absurd H bxka_
 rw [if_pos c6] at H
 have c6b0 : decide (0 ≤ (ji1)) = true := dt_ c6
 clear c6
 by_cases c7 : (ji1) < (l0_2.length : Int)
 case neg =>
  rw [if_neg c7] at H
  exact absurd H bxka_
 rw [if_pos c7] at H
 have c7b0 : decide ((ji1) < (l0_2.length : Int)) = true := dt_ c7
 clear c7
 by_cases c8 : (rd l0_2 (ji1)) ≥ (rd l0_2 x8_1)
 case neg =>
  rw [if_neg c8] at H
  have c8b0 : decide ((rd l0_2 x8_1) ≤ (rd l0_2 (ji1))) = false := decide_eq_false c8
  clear c8
  have H' := A0_ H
  clear H
  have p1 : 0 ≤ (x8_1 : Int) := od_ bpil_
  have q1 : x8_1 < (l0_2.length : Int) := od_ bpil_
  obtain ⟨ad1, e1, hx1_0⟩ := Kd.at_int HR0_2.out x8_1 p1 q1
  cases e1
  replace hx1_0 := (HB.out.cell (World.block_lt_of_cell? w _ hx1_0)).trans hx1_0
  replace p1 := eq_true p1
  replace q1 := eq_true q1
  have hcz2 := c3_ BK1
  go_wp2_with (first | ((with_reducible refine gc_ (f := 39) rfl ?_); refine gl_ 14 Tryz.func39 #[.agg #[.int .i64 a0_0, .bool a0_1, .slice (some ad1) l0_2.length c0_2]] ?_; (with_reducible refine (impl_Row_bench.calls a0_0 a0_1 _ _ l0_2 t1 t2 _ ?side1 ?side2 A2.out).mono ?_); (case side1 => exact b6n8_); (case side2 => exact HC0_2.out); rintro e w2 ⟨rfl, hb⟩; refine ⟨_, rfl, ?_⟩; replace BK1 := k1_ BK1 hb; replace HB := hb_ hb be6g_; (try clear hb)) | ((with_reducible refine gd_ (N := 16) rfl ?_); refine Kd.R_lit (Kd.int .i64) _ 3 ?hg (N := 16) ?hd (xs := ([rd l0_2 x8_1] : List Int)) (inner := [.int .i64 (rd l0_2 x8_1)]) (ok := fun _ => True) (okp := fun _ => True) ?hr ?hp (fun _ hk => hk) trivial (Below.refl _ _) (Nat.le_refl _) bxka_ ?_; (case hd => rfl); (case hg => rfl); (case hr => go_simp; first | done | rfl); (case hp => exact (Reps.one (show Kd.M (Kd.int .i64) _ _ _ (rd l0_2 x8_1) [.int .i64 (rd l0_2 x8_1)] from rfl) (Reps.none _ _))); intro v2 w3 ho25 hb hg_ hnew_; clear hg_ hnew_; (first | rw [← Ny1.out] at ho25 | (simp only [Int.reduceToNat] at ho25; rw [← Ny1.out] at ho25)); have HO1 := A0_ (Kd.R_lower ho25 (bz_ be6g_)); replace BK1 := k1_ BK1 hb; replace HB := hb_ hb be6g_; clear hb ho25; obtain ⟨Ao1, co1, eo1⟩ := Kd.R_slice HO1.out; subst eo1) | ((with_reducible refine gc_ (f := 40) rfl ?_); refine gl_ 17 Tryz.func40 #[.agg #[.int .i64 t1, .bool t2], .slice Ao1 y1.length co1] ?_; (with_reducible refine (impl_bench_has.calls k1 t1 t2 _ _ y1 true _ ?side1 ?side2 A4.out).mono ?_); (case side1 => exact bayy_); (case side2 => exact (rr_ HO1.out).2.1); rintro e w4 ⟨rfl, hb⟩; refine ⟨_, rfl, ?_⟩; replace HO1 := A0_ (Kd.R_below bsm5_ hb); replace BK1 := k1_ BK1 hb; replace HB := hb_ hb be6g_; (try clear hb); have hcz3 := c3_ BK1; have p2 : 0 ≤ ((ji1) : Int) := od_ bpil_; have q2 : (ji1) < (l0_2.length : Int) := od_ bpil_; obtain ⟨ad2, e2, hx2_0⟩ := Kd.at_int HR0_2.out (ji1) p2 q2; obtain rfl : ad1 = ad2 := (by injection e2); replace hx2_0 := (HB.out.cell (World.block_lt_of_cell? w _ hx2_0)).trans hx2_0; replace p2 := eq_true p2; replace q2 := eq_true q2))
  go_roundg k1
  case measure => have := HK1.out; omega
  exact ⟨(wrap64 (x8_1 + 1)), b2ew_, H', ⟨bxjq_⟩, ⟨u1_ BK1⟩, ⟨be6g_⟩⟩
 rw [if_pos c8] at H
 have c8b0 : decide ((rd l0_2 x8_1) ≤ (rd l0_2 (ji1))) = true := dt_ c8
 clear c8
 obtain rfl := si_ H
 have p1 : 0 ≤ (x8_1 : Int) := od_ bpil_
 have q1 : x8_1 < (l0_2.length : Int) := od_ bpil_
 obtain ⟨ad1, e1, hx1_0⟩ := Kd.at_int HR0_2.out x8_1 p1 q1
 cases e1
 replace hx1_0 := (HB.out.cell (World.block_lt_of_cell? w _ hx1_0)).trans hx1_0
 replace p1 := eq_true p1
 replace q1 := eq_true q1
 have hcz2 := c3_ BK1
 go_wp2_with (first | ((with_reducible refine gc_ (f := 39) rfl ?_); refine gl_ 14 Tryz.func39 #[.agg #[.int .i64 a0_0, .bool a0_1, .slice (some ad1) l0_2.length c0_2]] ?_; (with_reducible refine (impl_Row_bench.calls a0_0 a0_1 _ _ l0_2 t1 t2 _ ?side1 ?side2 A2.out).mono ?_); (case side1 => exact b6n8_); (case side2 => exact HC0_2.out); rintro e w2 ⟨rfl, hb⟩; refine ⟨_, rfl, ?_⟩; replace BK1 := k1_ BK1 hb; replace HB := hb_ hb be6g_; (try clear hb)) | ((with_reducible refine gd_ (N := 16) rfl ?_); refine Kd.R_lit (Kd.int .i64) _ 3 ?hg (N := 16) ?hd (xs := ([rd l0_2 x8_1] : List Int)) (inner := [.int .i64 (rd l0_2 x8_1)]) (ok := fun _ => True) (okp := fun _ => True) ?hr ?hp (fun _ hk => hk) trivial (Below.refl _ _) (Nat.le_refl _) bxka_ ?_; (case hd => rfl); (case hg => rfl); (case hr => go_simp; first | done | rfl); (case hp => exact (Reps.one (show Kd.M (Kd.int .i64) _ _ _ (rd l0_2 x8_1) [.int .i64 (rd l0_2 x8_1)] from rfl) (Reps.none _ _))); intro v2 w3 ho18 hb hg_ hnew_; clear hg_ hnew_; (first | rw [← Ny1.out] at ho18 | (simp only [Int.reduceToNat] at ho18; rw [← Ny1.out] at ho18)); have HO1 := A0_ (Kd.R_lower ho18 (bz_ be6g_)); replace BK1 := k1_ BK1 hb; replace HB := hb_ hb be6g_; clear hb ho18; obtain ⟨Ao1, co1, eo1⟩ := Kd.R_slice HO1.out; subst eo1) | ((with_reducible refine gc_ (f := 40) rfl ?_); refine gl_ 17 Tryz.func40 #[.agg #[.int .i64 t1, .bool t2], .slice Ao1 y1.length co1] ?_; (with_reducible refine (impl_bench_has.calls k1 t1 t2 _ _ y1 true _ ?side1 ?side2 A4.out).mono ?_); (case side1 => exact bayy_); (case side2 => exact (rr_ HO1.out).2.1); rintro e w4 ⟨rfl, hb⟩; refine ⟨_, rfl, ?_⟩; replace HO1 := A0_ (Kd.R_below bsm5_ hb); replace BK1 := k1_ BK1 hb; replace HB := hb_ hb be6g_; (try clear hb); have hcz3 := c3_ BK1; have p2 : 0 ≤ ((ji1) : Int) := od_ bpil_; have q2 : (ji1) < (l0_2.length : Int) := od_ bpil_; obtain ⟨ad2, e2, hx2_0⟩ := Kd.at_int HR0_2.out (ji1) p2 q2; obtain rfl : ad1 = ad2 := (by injection e2); replace hx2_0 := (HB.out.cell (World.block_lt_of_cell? w _ hx2_0)).trans hx2_0; replace p2 := eq_true p2; replace q2 := eq_true q2))
 go_ret
 exact ⟨bfw0_, be6g_⟩

def slices_Equal_int_int.l0 : Nat → List Int → List Int → Int → Int → Option (Bool)
 | 0, _, _, _, _ => none
 | k + 1, x0, x1, x12, x13 => if x13 < x12 then (if 0 ≤ x13 then (if x13 < (x0.length : Int) then (if x13 < (x1.length : Int) then (if (rd x0 x13) = (rd x1 x13) then (slices_Equal_int_int.l0 k x0 x1 x12 (wrap64 (x13 + 1))) else (some false)) else (none)) else (none)) else (none)) else (some true)
def slices_Equal_int_int.f (k : Nat) (l0 : List Int) (l1 : List Int) : Option (Bool) := if (l0.length : Int) = (l1.length : Int) then (slices_Equal_int_int.l0 k l0 l1 (l0.length : Int) 0) else (some false)
theorem slices_Equal_int_int.mono_l : ∀ k, (∀ y0 y1 y2 y3, LeO (slices_Equal_int_int.l0 k y0 y1 y2 y3) (slices_Equal_int_int.l0 (k + 1) y0 y1 y2 y3))
 | 0 => fun _ _ _ _ r h => by simp [slices_Equal_int_int.l0] at h
 | k + 1 => by
  have ih0 := slices_Equal_int_int.mono_l k
  ·intro y0 y1 y2 y3
   unfold slices_Equal_int_int.l0
   repeat' with_reducible first | exact ih0 .. | exact LeO.refl .. | exact LeO.none .. | refine LeO.ite ?_ ?_ | refine LeO.bind ?_ (fun _ => ?_)
theorem slices_Equal_int_int.mono : ∀ a0 a1 k, LeO (slices_Equal_int_int.f k a0 a1) (slices_Equal_int_int.f (k + 1) a0 a1) := by
 intro a0 a1 k
 have ih0 := slices_Equal_int_int.mono_l k
 unfold slices_Equal_int_int.f
 repeat' with_reducible first | exact ih0 .. | exact LeO.refl .. | exact LeO.none .. | refine LeO.ite ?_ ?_ | refine LeO.bind ?_ (fun _ => ?_)
theorem slices_Equal_int_int.calls (k : Nat) (A0 : Option Addr) (c0 : Nat) (l0 : List Int) (A1 : Option Addr) (c1 : Nat) (l1 : List Int) (r : Bool) (w : World) (hr0 : Kd.C (Kd.int .i64) w A0 l0.length l0) (hc0 : l0.length ≤ c0) (hr1 : Kd.C (Kd.int .i64) w A1 l1.length l1) (hc1 : l1.length ≤ c1) (h : slices_Equal_int_int.f k l0 l1 = some r) :
  Calls Tryz.prog 28 #[.slice A0 l0.length c0, .slice A1 l1.length c1] w fun e w' => e = .returned (.bool r) ∧ Drawn0 w w' := by
 have HR0 := A0_ hr0
 have HC0 := A0_ hc0
 clear hr0 hc0
 have HR1 := A0_ hr1
 have HC1 := A0_ hc1
 clear hr1 hc1
 have H : (if (l0.length : Int) = (l1.length : Int) then (slices_Equal_int_int.l0 k l0 l1 (l0.length : Int) 0) else (some false)) = some r := h
 clear h
 by_cases c2 : (l0.length : Int) = (l1.length : Int)
 case neg =>
  rw [if_neg c2] at H
  obtain ⟨c2b0, c2b1⟩ := ef_ c2
  have c2b2 : (l0.length == l1.length) = false := bds5_
  obtain rfl := si_ H
  go_enter Tryz.func28, Tryz.ntmps28
  go_wp2
  repeat (go_quiet (fail); try go_wp2)
  go_ret
  exact ⟨b04z_, boaj_⟩
 rw [if_pos c2] at H
 obtain ⟨c2b0, c2b1⟩ := et_ c2
 have c2b2 : (l0.length == l1.length) = true := bds5_
 clear c2
 have H' := A0_ H
 clear H
 go_enter Tryz.func28, Tryz.ntmps28
 go_wp2
 repeat (go_quiet (fail); try go_wp2)
 go_loopg [13] k (fun kq v1 w' => ∃ (x13_1 : Int), v1 = .int .i64 x13_1 ∧ Aside0 (slices_Equal_int_int.l0 kq l0 l1 (l0.length : Int) x13_1 = some r) ∧ Aside0 (kq ≤ k) ∧ Drawn0 w w')
 case atStart => exact ⟨(0), b2ew_, H', ⟨Nat.le_refl _⟩, boaj_⟩
 clear H'
 try clear c1
 try clear c2
 try clear c2b0
 try clear c2b1
 try clear c2b2
 obtain ⟨x13_1, rfl, HA, HK1, ⟨m1, rfl⟩⟩ := hrel
 cases gk with | zero => exact absurd HA.out (by simp [slices_Equal_int_int.l0]) | succ k1 => ?_
 have H := HA.out
 clear HA
 simp only [slices_Equal_int_int.l0] at H
 by_cases c3 : x13_1 < (l0.length : Int)
 case neg =>
  rw [if_neg c3] at H
  have c3b0 : decide (x13_1 < (l0.length : Int)) = false := decide_eq_false c3
  clear c3
  obtain rfl := si_ H
  go_wp2
  repeat (go_quiet (fail); try go_wp2)
  go_ret
  exact ⟨b04z_, boaj_⟩
 rw [if_pos c3] at H
 have c3b0 : decide (x13_1 < (l0.length : Int)) = true := dt_ c3
 clear c3
 by_cases c4 : 0 ≤ x13_1
 case neg =>
  rw [if_neg c4] at H
  exact absurd H bxka_
 rw [if_pos c4] at H
 have c4b0 : decide (0 ≤ x13_1) = true := dt_ c4
 clear c4
 by_cases c5 : x13_1 < (l0.length : Int)
 case neg =>
  rw [if_neg c5] at H
  exact absurd H bxka_
 rw [if_pos c5] at H
 have c5b0 : decide (x13_1 < (l0.length : Int)) = true := dt_ c5
 clear c5
 by_cases c6 : x13_1 < (l1.length : Int)
 case neg =>
  rw [if_neg c6] at H
  exact absurd H bxka_
 rw [if_pos c6] at H
 have c6b0 : decide (x13_1 < (l1.length : Int)) = true := dt_ c6
 clear c6
 by_cases c7 : (rd l0 x13_1) = (rd l1 x13_1)
 case neg =>
  rw [if_neg c7] at H
  obtain ⟨c7b0, c7b1⟩ := ef_ c7
  obtain rfl := si_ H
  have p1 : 0 ≤ (x13_1 : Int) := od_ bpil_
  have q1 : x13_1 < (l0.length : Int) := od_ bpil_
  obtain ⟨ad1, e1, hx1_0⟩ := Kd.at_int HR0.out x13_1 p1 q1
  cases e1
  replace p1 := eq_true p1
  replace q1 := eq_true q1
  have p2 : 0 ≤ (x13_1 : Int) := od_ bpil_
  have q2 : x13_1 < (l1.length : Int) := od_ bpil_
  obtain ⟨ad2, e2, hx2_0⟩ := Kd.at_int HR1.out x13_1 p2 q2
  cases e2
  replace p2 := eq_true p2
  replace q2 := eq_true q2
  go_wp2
  repeat (go_quiet (fail); try go_wp2)
  go_ret
  exact ⟨b04z_, boaj_⟩
 rw [if_pos c7] at H
 obtain ⟨c7b0, c7b1⟩ := et_ c7
 clear c7
 have H' := A0_ H
 clear H
 have p1 : 0 ≤ (x13_1 : Int) := od_ bpil_
 have q1 : x13_1 < (l0.length : Int) := od_ bpil_
 obtain ⟨ad1, e1, hx1_0⟩ := Kd.at_int HR0.out x13_1 p1 q1
 cases e1
 replace p1 := eq_true p1
 replace q1 := eq_true q1
 have p2 : 0 ≤ (x13_1 : Int) := od_ bpil_
 have q2 : x13_1 < (l1.length : Int) := od_ bpil_
 obtain ⟨ad2, e2, hx2_0⟩ := Kd.at_int HR1.out x13_1 p2 q2
 cases e2
 replace p2 := eq_true p2
 replace q2 := eq_true q2
 go_wp2
 repeat (go_quiet (fail); try go_wp2)
 go_roundg k1
 case measure => have := HK1.out; omega
 exact ⟨(wrap64 (x13_1 + 1)), b2ew_, H', ⟨bxjq_⟩, boaj_⟩

section
open Go.Shelf Go.Sort
attribute [local go_sem] Oper.semAt_some
theorem Sv.addb (a : Addr) (i : Nat) : (a.add i).block = a.block := by unfold Addr.add; split <;> rfl
def Sv.upto {α : Type} (f : Nat → α) (k : Nat) : List α := (List.range k).map f
theorem Sv.upto_succ {α : Type} (f : Nat → α) (k : Nat) : Sv.upto f (k + 1) = Sv.upto f k ++ [f k] := by simp [Sv.upto, List.range_succ]
theorem Sv.upto_length {α : Type} (f : Nat → α) (k : Nat) : (Sv.upto f k).length = k := by simp [Sv.upto]
theorem Sv.upto_all (zs : List Int) : Sv.upto (fun j => zs[j]?.getD 0) zs.length = zs := by
 apply List.ext_getElem
 ·simp [Sv.upto]
 ·intro i h1 h2
  simp [Sv.upto, h2]

set_option maxRecDepth 100000 in
set_option maxHeartbeats 2000000 in
theorem Sv.values1_in (F : Fence) (n : Nat) (h7 : F.fn 44) (hro : F.round = none) (hn : 1 ≤ n) (l Bs n₀ len cap : Nat) (ad : Addr) (zs : List Int) (hreach : len * 8 ≤ 140737488351232) (hb : ad.block < n₀) (J Jx : List Int → World → Prop)
  (hY : ∀ pre x W, J pre W → pre.length < len → YieldAt F (n - 1) Tryz.prog l #[.int .i64 x] W fun e W' =>
   (e = .returned (.bool true) ∧ J (pre ++ [x]) W' ∧ Below n₀ W W') ∨ (e = .returned (.bool false) ∧ Jx (pre ++ [x]) W'))
  (W : World) (hBs : W.cell? ⟨Bs, 0, none⟩ = some (.slice (some ad) len cap)) (hc : ∀ j, j < len → W.cell? (ad.add j) = some (.int .i64 (zs[j]?.getD 0))) (h0 : J [] W) :
  CallsIn F n Tryz.prog 44 #[.func (.yield l) #[] #[], .pointer (some ⟨Bs, 0, none⟩)] W fun e W' => (∃ v, e = .returned v) ∧
   ((∃ ys, ys = Sv.upto (fun j => zs[j]?.getD 0) len ∧ J ys W') ∨ (∃ pre, (∃ k, k ≤ len ∧ pre = Sv.upto (fun j => zs[j]?.getD 0) k) ∧ Jx pre W')) := by
 refine callsIn_of_wp Tryz.func44 rfl h7 ?_ hro
 simp only [Tryz.ntmps44, List.size_toArray, List.length_cons, List.length_nil, Nat.reduceAdd, Nat.reduceSub, Array.replicate_succ, Array.replicate_zero, List.push_toArray, List.append_toArray, List.nil_append, List.cons_append]
 gi_wp2
 gi_loopw [7] (fun i wr => ∃ k : Nat, k ≤ len ∧ i = .int .i64 k ∧ J (Sv.upto (fun j => zs[j]?.getD 0) k) wr ∧ Below n₀ W wr)
  (fun i _ => len - (intOf i).toNat)
 case atStart => exact ⟨0, Nat.zero_le _, rfl, h0, Below.refl _ _⟩
 case round =>
  obtain ⟨k, hk, rfl, hJs, hnx⟩ := hrel
  have hcx : k < len → wr.cell? (ad.add k) = some (.int .i64 (zs[k]?.getD 0)) := fun h => (hnx.cell (p := ad.add k) (by rw [Sv.addb]; exact hb)).trans (hc k h)
  by_cases hlt : k < len
  ·obtain ⟨fn, tmps, assign, body, hy, hR⟩ := hY _ (zs[k]?.getD 0) wr hJs (by rw [Sv.upto_length]; exact hlt)
   have hcx' := hcx hlt
   gi_wp2
   refine hR.mono ?_
   rintro e W3 (⟨rfl, hJ3, hk3⟩ | ⟨rfl, hJx3⟩)
   ·-- THE ROUND GOES ON
    gi_wp2
    go_roundw
    case rel => exact ⟨k + 1, bh19_, bxka_, by rw [Sv.upto_succ]; exact hJ3, hnx.trans hk3⟩
    case measure => simp [intOf]; omega
   ·gi_wp2
    refine bodyPost_ret (results_none rfl _ _ _) rfl ?_
    exact ⟨⟨_, rfl⟩, .inr ⟨_, ⟨k + 1, bh19_, (Sv.upto_succ _ _).symm⟩, hJx3⟩⟩
  ·obtain rfl : k = len := by omega
   gi_wp2
   go_end0
   exact ⟨⟨_, rfl⟩, .inl ⟨_, rfl, hJs⟩⟩

theorem Sv.upto_take (zs : List Int) {k : Nat} (hk : k ≤ zs.length) : Sv.upto (fun j => zs[j]?.getD 0) k = zs.take k := by
 apply List.ext_getElem
 ·simp [Sv.upto, hk]
 ·intro i h1 h2
  have : i < zs.length := by simp [Sv.upto] at h1; omega
  simp [Sv.upto, this]

def Sv.Ints (n₀ : Nat) (W : World) (sv : Value) (zs : List Int) : Prop :=
 (zs = [] ∧ ∃ A cap, sv = .slice A 0 cap) ∨ ∃ ad cap, sv = .slice (some ad) zs.length cap ∧ ad.block < n₀ ∧ ∀ j, j < zs.length → W.cell? (ad.add j) = some (.int .i64 (zs[j]?.getD 0))
theorem Sv.Ints.below {n₀ : Nat} {A B : World} (h : Below n₀ A B) {sv : Value} {zs : List Int} : Sv.Ints n₀ A sv zs → Sv.Ints n₀ B sv zs
 | .inl e => .inl e
 | .inr ⟨ad, cap, e, hb, hc⟩ => .inr ⟨ad, cap, e, hb, fun j hj => (h.cell (p := ad.add j) (by rw [Sv.addb]; exact hb)).trans (hc j hj)⟩
set_option maxRecDepth 100000 in
set_option maxHeartbeats 1000000 in
theorem Sv.values1_nil_in (F : Fence) (n : Nat) (h7 : F.fn 44) (hro : F.round = none) (l Bs : Nat) (J : List Int → World → Prop) (W : World) (A0 : Option Addr) (cap0 : Nat) (hBs : W.cell? ⟨Bs, 0, none⟩ = some (.slice A0 0 cap0)) (h0 : J [] W) :
  CallsIn F n Tryz.prog 44 #[.func (.yield l) #[] #[], .pointer (some ⟨Bs, 0, none⟩)] W fun e W' => (∃ v, e = .returned v) ∧ J [] W' := by
 refine callsIn_of_wp Tryz.func44 rfl h7 ?_ hro
 simp only [Tryz.ntmps44, List.size_toArray, List.length_cons, List.length_nil, Nat.reduceAdd, Nat.reduceSub, Array.replicate_succ, Array.replicate_zero, List.push_toArray, List.append_toArray, List.nil_append, List.cons_append]
 gi_wp2
 gi_loopw [7] (fun i wr => i = .int .i64 0 ∧ J [] wr) (fun _ _ => 0)
 case atStart => exact ⟨rfl, h0⟩
 case round =>
  obtain ⟨rfl, hJs⟩ := hrel
  gi_wp2
  go_end0
  exact ⟨⟨_, rfl⟩, hJs⟩

set_option maxHeartbeats 1000000 in
theorem Sv.values_in (F : Fence) (n : Nat) (h5 : F.fn 30) (hro : F.round = none) (a : Option Addr) (len cap : Nat) (w : World) :
  CallsIn F n Tryz.prog 30 #[.slice a len cap] w fun e w' => e = .returned (.func (.func 44) #[] #[.pointer (some ⟨w.heap.size, 0, none⟩)]) ∧ w' = w.alloc (.cells #[.slice a len cap] 22) := by
 refine callsIn_of_wp Tryz.func30 rfl h5 ?_ hro
 simp only [Tryz.ntmps30, List.size_toArray, List.length_cons, List.length_nil, Nat.reduceAdd, Nat.reduceSub, Array.replicate_succ, Array.replicate_zero, List.push_toArray, List.append_toArray, List.nil_append, List.cons_append]
 gi_wp2
 go_ret
 exact ⟨rfl, rfl⟩

theorem Sv.values_stops (F : Fence) (n : Nat) (h7 : F.fn 44) (hro : F.round = none) (hn : 1 ≤ n) (Bs n₀ : Nat) (sv : Value) (zs : List Int) (hreach : zs.length * 8 ≤ 140737488351232) (w : World) (hBs : Bs < w.heap.size) (hn₀ : n₀ ≤ w.heap.size)
  (hc : w.cell? ⟨Bs, 0, none⟩ = some sv) (hI : Sv.Ints n₀ w sv zs) :
  SeqStopsK F n Tryz.prog 44 #[.pointer (some ⟨Bs, 0, none⟩)] (fun x : Int => #[Value.int .i64 x]) (Below n₀) (fun ys => ys = zs) (fun pre => pre <+: zs) zs.length w := fun l J Jx W hW _ _ hY h0 => by
 have hc' := (hW.cell (p := ⟨Bs, 0, none⟩) hBs).trans hc
 rcases hI.below (hW.mono hn₀) with ⟨rfl, A0, cap0, rfl⟩ | ⟨ad, cap, rfl, hb, hcs⟩
 ·exact (Sv.values1_nil_in F n h7 hro l Bs J W A0 cap0 hc' h0).mono fun e W' ⟨he, hj⟩ => ⟨he, .inl ⟨_, rfl, hj⟩⟩
 ·refine (Sv.values1_in F n h7 hro hn l Bs n₀ zs.length cap ad zs hreach hb J Jx hY W hc' hcs h0).mono ?_
  rintro e W' ⟨he, ⟨ys, rfl, hj⟩ | ⟨pre, ⟨k, hk, rfl⟩, hj⟩⟩
  ·exact ⟨he, .inl ⟨_, Sv.upto_all zs, hj⟩⟩
  ·exact ⟨he, .inr ⟨_, by rw [Sv.upto_take zs hk]; exact List.take_prefix _ _, hj⟩⟩

theorem Sv.infoI : (Tryz.prog.info? 3).map (fun i => (i.zero, i.size, i.bytes)) = some (some (.int .i64 0), 1, 8) := by kernel_rfl
set_option maxRecDepth 100000 in
set_option maxHeartbeats 2000000 in
/-- slices.AppendSeq(nil, slices.Values(zs)): a slice of the call's own that holds zs. -/
theorem Sv.appendSeq_in (F : Fence) (n : Nat) (h3 : F.fn 53) (h5 : F.fn 44) (hro : F.round = none) (hn : 3 ≤ n) (Bv : Nat) (sv : Value) (zs : List Int) (hlen : zs.length ≤ maxLen) (hreach : zs.length * 8 ≤ 140737488351232) (w : World) (hBv : Bv < w.heap.size) (hcv : w.cell? ⟨Bv, 0, none⟩ = some sv) (hI : Sv.Ints w.heap.size w sv zs) :
  CallsIn F n Tryz.prog 53 #[.slice none 0 0, .func (.func 44) #[] #[.pointer (some ⟨Bv, 0, none⟩)]] w fun e W' => ∃ v, e = .returned v ∧ W'.ownsRow w.heap.size 3 1 v zs.length (zs.map (Value.int .i64)) ∧ Below w.heap.size w W' := by
 have h1 : 1 ≤ n := by omega
 obtain ⟨i0, hi, hz0, hz1, hz2⟩ := info_parts Sv.infoI
 refine callsIn_of_wp_marks Tryz.func53 rfl h3 ?_ hro
 simp only [Tryz.ntmps53, List.size_toArray, List.length_cons, List.length_nil, Nat.reduceAdd, Nat.reduceSub, Array.replicate_succ, Array.replicate_zero, List.push_toArray, List.append_toArray, List.nil_append, List.cons_append]
 gi_wp2
 have bO := Boxed.new w 22 (.slice none 0 0)
 have hB0 : Below w.heap.size w (w.alloc (.cells #[.slice none 0 0] 22)) := (Below.refl _ w).alloc (Nat.le_refl _) _
 refine wpIn_rangeFunc_ownG hro h1 (gf := 44) (lb := #[.pointer (some ⟨Bv, 0, none⟩)]) rfl h5 (enters_of Tryz.func44 bfqv_ rfl)
  (Sv.values_stops F (n - 1) h5 hro bh19_ Bv w.heap.size sv zs hreach _ (by simp; omega) bxka_ ((hB0.cell (p := ⟨Bv, 0, none⟩) hBv).trans hcv) (hI.below hB0)) belowK_t (belowK_b bxka_) (Below.refl _ _) (fun _ => rfl)
  (fun pre W => (∃ v, Boxed W w.heap.size 22 v ∧ W.ownsRow w.heap.size 3 1 v pre.length (pre.map (Value.int .i64)) ∧ (v = .slice none 0 0 ↔ pre = [])) ∧ Below w.heap.size w W)
  (fun _ _ _ => False)
  (OwnFrom.and (Own.from (holdsRow_own w.heap.size w.heap.size 22 3 1 (fun pre : List Int => pre.length) (fun pre => pre.map (Value.int .i64)) (fun pre v => v = .slice none 0 0 ↔ pre = [])) _) (ownFrom_below (Nat.le_refl _) bxka_))
  (fun _ _ _ _ _ hs _ _ => hs)
  ⟨⟨_, bO, World.ownsRow_nil _ _ _ _, bxka_⟩, hB0⟩
  (fun x => { tmps := #[.slice none 0 0, .func (.func 44) #[] #[.pointer (some ⟨Bv, 0, none⟩)], .pointer (some ⟨w.heap.size, 0, none⟩), undef, .slice none 0 0, .int .i64 x, .func (.func 44) #[] #[.pointer (some ⟨Bv, 0, none⟩)], .int .i64 x, undef, undef, undef, undef, undef], defers := [] }) ?assign ?body ?done ?stop
 case assign =>
  intro l x W K hK
  gi_wp2
  exact hK
 case body =>
  rintro l pre x W ⟨⟨v, hv, hrow, hnil⟩, hB⟩ hlt
  have hc := hv.cell
  gi_wp2_with (gi_at_builtin; refine wpListIn_append_own _ rfl _ _ 22 rfl w.heap.size 3 i0 (.int .i64 0) 1 8 Tryz.underlying22 hi hz0 hz1 hz2 rfl bi3y_ _ _ _ rfl (hrow.alloc _) ⟨W.heap.size, 0, none⟩ 1 1 [.int .i64 x] rfl rfl (cell_one_new _ _ _) (by simp [Value.oneCell']) bh19_ bh19_ (by have := hB.size; simp; omega) ?_; intro v' w1 hown' hgrow _; obtain ⟨g', cap', rfl⟩ := ownsRow_succ hown'; obtain ⟨hv1, hv2, hr2, hk2, hb2⟩ := hv.appended bi3y_ hrow hB.size (Nat.le_refl _) hown' hgrow; have hc1 := hv1.cell; have hf1 := hv1.frozen)
  exact ⟨hk2.from _, hb2, ⟨_, hv2, by simpa using hr2, bxka_⟩, hB.trans hb2⟩
 case done =>
  rintro D ys W hD rfl ⟨⟨v, hv, hrow, hnil⟩, hB⟩ hK
  have hc := hv.cell
  gi_wp2
  refine ⟨bxka_, .inl ⟨_, _, rfl, run_takeDeferred hK, ?_⟩⟩
  exact ⟨_, results_tmp rfl _ _ _, v, rfl, ownsRow_putObj hrow _ hK rfl, hB.trans (belowK_b (w := w) (Nat.le_refl _) W D _ _ (by simp at hD; omega) hK rfl rfl)⟩
 case stop =>
  rintro D c pre W _ _ h _
  exact h.elim
set_option maxHeartbeats 1000000 in
theorem Sv.collect_in (F : Fence) (n : Nat) (h0 : F.fn 42) (h3 : F.fn 53) (h5 : F.fn 44) (hro : F.round = none) (hn : 4 ≤ n) (Bv : Nat) (sv : Value) (zs : List Int) (hlen : zs.length ≤ maxLen) (hreach : zs.length * 8 ≤ 140737488351232) (w : World) (hBv : Bv < w.heap.size) (hcv : w.cell? ⟨Bv, 0, none⟩ = some sv) (hI : Sv.Ints w.heap.size w sv zs) :
  CallsIn F n Tryz.prog 42 #[.func (.func 44) #[] #[.pointer (some ⟨Bv, 0, none⟩)]] w fun e W' => ∃ v, e = .returned v ∧ W'.ownsRow w.heap.size 3 1 v zs.length (zs.map (Value.int .i64)) ∧ Below w.heap.size w W' := by
 have h1 : 1 ≤ n := by omega
 refine callsIn_of_wp Tryz.func42 rfl h0 ?_ hro
 simp only [Tryz.ntmps42, List.size_toArray, List.length_cons, List.length_nil, Nat.reduceAdd, Nat.reduceSub, Array.replicate_succ, Array.replicate_zero, List.push_toArray, List.append_toArray, List.nil_append, List.cons_append]
 gi_wp2_with (gi_at_call 53; refine (Sv.appendSeq_in F (n - 1) h3 h5 hro bh19_ Bv sv zs hlen hreach _ hBv hcv hI).mono ?_; rintro e w' ⟨v, rfl, hrow, hb⟩)
 go_ret
 exact ⟨v, rfl, hrow, hb⟩
def lays189_ren : Go.Shelf.Ren where
 f := fun x => match x with
  | 189 => 43
  | 125 => 55
  | 257 => 54
  | 128 => 72
  | 129 => 73
  | 294 => 63
  | 295 => 64
  | 296 => 65
  | 297 => 66
  | 298 => 67
  | 299 => 68
  | 216 => 69
  | 300 => 70
  | 301 => 71
  | 328 => 81
  | 329 => 82
  | 330 => 83
  | 331 => 84
  | 332 => 85
  | 215 => 86
  | 343 => 94
  | n => n
 t := fun x => match x with
  | 28 => 22
  | 3 => 3
  | 46 => 93
  | 0 => 0
  | 51 => 106
  | 53 => 108
  | 4 => 4
  | 183 => 99
  | 182 => 98
  | 131 => 103
  | 5 => 5
  | 9 => 9
  | 218 => 114
  | 222 => 118
  | 228 => 123
  | 229 => 124
  | n => n
 g := fun x => x
theorem lays189 : Lays.n189 Tryz.prog lays189_ren where
 mixed := by kernel_rfl
 f125 := Tryz.func55.trans bfqv_
 f128 := Tryz.func72.trans bfqv_
 f129 := Tryz.func73.trans bfqv_
 f189 := Tryz.func43.trans bfqv_
 f215 := Tryz.func86.trans bfqv_
 f216 := Tryz.func69.trans bfqv_
 f257 := Tryz.func54.trans bfqv_
 f294 := Tryz.func63.trans bfqv_
 f295 := Tryz.func64.trans bfqv_
 f296 := Tryz.func65.trans bfqv_
 f297 := Tryz.func66.trans bfqv_
 f298 := Tryz.func67.trans bfqv_
 f299 := Tryz.func68.trans bfqv_
 f300 := Tryz.func70.trans bfqv_
 f301 := Tryz.func71.trans bfqv_
 f328 := Tryz.func81.trans bfqv_
 f329 := Tryz.func82.trans bfqv_
 f330 := Tryz.func83.trans bfqv_
 f331 := Tryz.func84.trans bfqv_
 f332 := Tryz.func85.trans bfqv_
 f343 := Tryz.func94.trans bfqv_
 t0 := Tryz.underlying0
 a0 := Tryz.isAgg0
 z0 := Tryz.sizeOf0
 v0 := Tryz.zeroValue0
 t3 := Tryz.underlying3
 a3 := Tryz.isAgg3
 z3 := Tryz.sizeOf3
 v3 := Tryz.zeroValue3
 t4 := Tryz.underlying4
 a4 := Tryz.isAgg4
 z4 := Tryz.sizeOf4
 v4 := Tryz.zeroValue4
 t5 := Tryz.underlying5
 a5 := Tryz.isAgg5
 z5 := Tryz.sizeOf5
 v5 := Tryz.zeroValue5
 t9 := Tryz.underlying9
 a9 := Tryz.isAgg9
 z9 := Tryz.sizeOf9
 v9 := Tryz.zeroValue9
 t28 := Tryz.underlying22
 a28 := Tryz.isAgg22
 z28 := Tryz.sizeOf22
 v28 := Tryz.zeroValue22
 t46 := Tryz.underlying93
 a46 := Tryz.isAgg93
 z46 := Tryz.sizeOf93
 v46 := Tryz.zeroValue93
 t51 := Tryz.underlying106
 a51 := Tryz.isAgg106
 z51 := Tryz.sizeOf106
 v51 := Tryz.zeroValue106
 t53 := Tryz.underlying108
 a53 := Tryz.isAgg108
 z53 := Tryz.sizeOf108
 v53 := Tryz.zeroValue108
 t131 := Tryz.underlying103
 a131 := Tryz.isAgg103
 z131 := Tryz.sizeOf103
 v131 := Tryz.zeroValue103
 t182 := Tryz.underlying98
 a182 := Tryz.isAgg98
 z182 := Tryz.sizeOf98
 v182 := Tryz.zeroValue98
 t183 := Tryz.underlying99
 a183 := Tryz.isAgg99
 z183 := Tryz.sizeOf99
 v183 := Tryz.zeroValue99
 t218 := Tryz.underlying114
 a218 := Tryz.isAgg114
 z218 := Tryz.sizeOf114
 v218 := Tryz.zeroValue114
 t222 := Tryz.underlying118
 a222 := Tryz.isAgg118
 z222 := Tryz.sizeOf118
 v222 := Tryz.zeroValue118
 t228 := Tryz.underlying123
 a228 := Tryz.isAgg123
 z228 := Tryz.sizeOf123
 v228 := Tryz.zeroValue123
 t229 := Tryz.underlying124
 a229 := Tryz.isAgg124
 z229 := Tryz.sizeOf124
 v229 := Tryz.zeroValue124
end
theorem Sv.rd_at (l : List Int) (j : Nat) : rd l (j : Int) = l[j]?.getD 0 := by unfold rd; simp [List.getD]
section
open Go.Shelf Go.Sort
theorem Sv.reps (w : World) (base : Nat) (ok : Nat → Prop) : ∀ zs : List Int, Reps ((Kd.int .i64).M w base ok) 1 zs (zs.map (Value.int .i64))
 | [] => Reps.none _ _
 | z :: zs => Reps.one (show (Kd.int .i64).M w base ok z [.int .i64 z] from rfl) (Sv.reps w base ok zs)
theorem slices_Values_int.calls (A : Option Addr) (n c : Nat) (w : World) :
  Calls Tryz.prog 30 #[.slice A n c] w fun e w' => ∃ g : Nat, e = .returned (.func (.func 44) #[] #[.pointer (some ⟨g, 0, none⟩)]) ∧ w'.cell? ⟨g, 0, none⟩ = some (.slice A n c) ∧ Below w.heap.size w w' := by
 refine (callsIn_wide.1 (Sv.values_in Fence.wide 2 trivial rfl A n c w)).mono ?_
 rintro e w' ⟨rfl, rfl⟩
 exact ⟨w.heap.size, rfl, (Boxed.new w 22 (.slice A n c)).cell, (Below.refl _ w).alloc (Nat.le_refl _) _⟩
def slices_Sorted_int.f (l0 : List Int) : Option (List Int) := if l0.length ≤ 1048576 then some (l0.mergeSort fun x y => decide (x ≤ y)) else none
set_option maxHeartbeats 1000000 in
set_option maxRecDepth 100000 in
theorem slices_Sorted_int.calls (g : Nat) (A0 : Option Addr) (c0 : Nat) (l0 r : List Int) (w : World) (hg : w.cell? ⟨g, 0, none⟩ = some (.slice A0 l0.length c0)) (hr0 : Kd.C (Kd.int .i64) w A0 l0.length l0) (hc0 : l0.length ≤ c0) (h : slices_Sorted_int.f l0 = some r) :
  Calls Tryz.prog 29 #[.func (.func 44) #[] #[.pointer (some ⟨g, 0, none⟩)]] w fun e w' => ∃ v0_ : Value, e = .returned (v0_) ∧ Kd.R (Kd.int .i64) 3 w' w.heap.size (fun _ => True) v0_ r ∧ Below w.heap.size w w' := by
 unfold slices_Sorted_int.f at h
 split at h
 ·rename_i hl
  obtain rfl := si_ h
  clear h
  have hgl : g < w.heap.size := World.block_lt_of_cell? w _ hg
  have hI : Sv.Ints w.heap.size w (.slice A0 l0.length c0) l0 := by
   by_cases e : l0.length = 0
   ·exact .inl ⟨List.eq_nil_of_length_eq_zero e, A0, c0, by rw [e]⟩
   ·obtain ⟨ad, rfl, hx⟩ := Kd.at_int hr0 0 bh19_ bh19_
    refine .inr ⟨ad, c0, rfl, ?_, fun j hj => ?_⟩
    ·have := World.block_lt_of_cell? w _ hx
     rwa [Sv.addb] at this
    ·obtain ⟨ad', e', hx'⟩ := Kd.at_int hr0 (j : Int) bh19_ bh19_
     obtain rfl := si_ e'
     rw [Int.toNat_natCast] at hx'
     rw [hx', Sv.rd_at]
  have cC := callsIn_wide.1 (Sv.collect_in Fence.wide 10 trivial trivial trivial rfl bh19_ g _ l0 (by show l0.length ≤ 9223372036854775807; omega) bh19_ w hgl hg hI)
  go_enter Tryz.func29, Tryz.ntmps29
  go_wp2_with (go_at_call 42; refine cC.mono ?_; rintro e w1 ⟨v, rfl, hrow, hb⟩)
  rcases hrow.2 with ⟨rfl, hz⟩ | ⟨gb, cap, cur, rfl, hbase, hgb, r1, r2, r3, r4⟩
  ·obtain rfl := List.eq_nil_of_length_eq_zero hz
   have cS := Any.slices_Sort_int_none (ρ := lays189_ren) lays189 none 0 w1
   go_wp2_with (go_at_call 43; refine cS.mono ?_; rintro e w' ⟨rfl, rfl⟩)
   go_ret
   exact ⟨.slice none 0 0, rfl, by simpa using Kd.R_nil _ _ _ _ _, hb⟩
  have hH : Holds (Value.int .i64) w1 gb 0 l0.toArray := holds_of_blockI hgb (by simpa using r4)
  have hgl1 : gb < w1.heap.size := (Array.getElem?_eq_some_iff.1 hgb).1
  have cS := Any.slices_Sort_int (ρ := lays189_ren) lays189 gb 0 cap l0 w1 hH hgl1 bh19_
  go_wp2_with (go_at_call 43; refine cS.mono ?_; rintro e w' ⟨rfl, nn, os, rfl⟩)
  go_ret
  exact ⟨_, rfl, ⟨fun _ _ => trivial, _, by rw [List.length_mergeSort]; exact ownsRow_sortedI (ss := l0) bxka_ hbase hgb r1 r2 r3, Sv.reps _ _ _ _⟩, hb.grown (grownBy_sortedI _) hb.size (fun j hj => by cases hj; exact hbase)⟩
 cases h
end

def impl_IsHouse.f (k : Nat) (a0_0 : Int) (a0_1 : Bool) (l0_2 : List Int) (l0_3 : List Int) (a0_4 : Int) : Option (Bool) := (impl_IsRow.f k a0_0 a0_1 l0_2).bind fun t173 => (if t173 = true then ((slices_Sorted_int.f l0_3).bind fun t174 => ((slices_Equal_int_int.f k t174 l0_2).bind fun t177 => (if t177 = true then ((impl_within.f a0_4 0 1000).bind fun t178 => (some t178)) else (some false)))) else (some false))
theorem impl_IsHouse.mono : ∀ a0 a1 a2 a3 a4 k, LeO (impl_IsHouse.f k a0 a1 a2 a3 a4) (impl_IsHouse.f (k + 1) a0 a1 a2 a3 a4) := by
 intro a0 a1 a2 a3 a4 k
 unfold impl_IsHouse.f
 repeat' with_reducible first | exact impl_IsRow.mono .. | exact slices_Equal_int_int.mono .. | exact LeO.refl .. | exact LeO.none .. | refine LeO.ite ?_ ?_ | refine LeO.bind ?_ (fun _ => ?_)
def impl_IsHouse.T1 : Bool × List (List Nat × List Nat) := (true, [([], []), ([0], [0]), ([1], [1]), ([2, 2], [2]), ([3], [3]), ([4, 3], [3, 4]), ([5, 3, 3], [3, 5]), ([6, 6, 3], [3, 6]), ([3], [3]), ([8, 3], [3, 8]), ([9, 3], [3, 9]), ([7, 10, 7, 3], [3, 7, 10]), ([3, 11], [3, 11]), ([12, 11], [12]), ([13], [13]), ([14, 13], [13, 14]), ([15, 13, 13], [13, 15]), ([13, 16], [13, 16]), ([17, 16, 0, 1, 2, 3, 4, 5, 6, 7, 8, 9, 10, 11, 12, 13, 14, 15, 16, 17], [17])])
def impl_IsHouse.B1 : List Nat := [0, 1, 3, 7, 15, 31, 63, 127, 15, 271, 783, 2047, 4095, 8191, 16383, 32767, 65535, 131071, 262143]
theorem impl_IsHouse.tab1 : rtab .any (opsOf Tryz.f15 1) = impl_IsHouse.T1 := by kernel_rfl
theorem impl_IsHouse.bits1 : waitsOk impl_IsHouse.T1.2 impl_IsHouse.B1 = true := by kernel_rfl
theorem impl_IsHouse.calls (k : Nat) (a0_0 : Int) (a0_1 : Bool) (A0_2 : Option Addr) (c0_2 : Nat) (l0_2 : List Int) (A0_3 : Option Addr) (c0_3 : Nat) (l0_3 : List Int) (a0_4 : Int) (r : Bool) (w : World) (hr0_2 : Kd.C (Kd.int .i64) w A0_2 l0_2.length l0_2) (hc0_2 : l0_2.length ≤ c0_2) (hr0_3 : Kd.C (Kd.int .i64) w A0_3 l0_3.length l0_3) (hc0_3 : l0_3.length ≤ c0_3) (h : impl_IsHouse.f k a0_0 a0_1 l0_2 l0_3 a0_4 = some r) :
  Calls Tryz.prog 15 #[.agg #[.int .i64 a0_0, .bool a0_1, .slice A0_2 l0_2.length c0_2, .slice A0_3 l0_3.length c0_3, .int .i64 a0_4]] w fun e w' => e = .returned (.bool r) ∧ Below w.heap.size w w' := by
 have hu31 := Tryz.underlying35
 have hu29 := Tryz.underlying33
 have HR0_2 := A0_ hr0_2
 have HC0_2 := A0_ hc0_2
 clear hr0_2 hc0_2
 have HR0_3 := A0_ hr0_3
 have HC0_3 := A0_ hc0_3
 clear hr0_3 hc0_3
 have HB := A0_ (Below.refl w.heap.size w)
 have H : ((impl_IsRow.f k a0_0 a0_1 l0_2).bind fun t1 => (if t1 = true then ((slices_Sorted_int.f l0_3).bind fun t2 => ((slices_Equal_int_int.f k t2 l0_2).bind fun t3 => (if t3 = true then ((impl_within.f a0_4 0 1000).bind fun t4 => (some t4)) else (some false)))) else (some false))) = some r := h
 clear h
 obtain ⟨t1, A2, H⟩ := o1_ H
 by_cases c1 : t1 = true
 case neg =>
  obtain rfl := bf_.mpr c1
  rw [if_neg ft_] at H
  obtain rfl := si_ H
  go_enter Tryz.func15, Tryz.ntmps15
  try go_wp2_with (first | ((with_reducible refine gd_ (N := 1) rfl ?_); refine bx_ 1 #[.int .i64 a0_0, .bool a0_1, .slice A0_2 l0_2.length c0_2, .slice A0_3 l0_3.length c0_3, .int .i64 a0_4] 35 ?_; intro gb1 hg w1 BK1 hb; have GW1 := ge_ hg brt4_; have GE1 := GW1; replace HB := hb_ hb brt4_; clear hb hg))
  replace BK1 := A0_ (kd_ BK1.out)
  replace HB := A0_ (bd_ HB.out)
  refine s5_ 19 [] BK1 impl_IsHouse.tab1 impl_IsHouse.bits1 (fun hHeld HT_ HW_ => ?_)
  generalize w1.drew = w2 at BK1 HB hHeld ⊢
  refine pu_ 0 3 ?_
  refine tk_ 1 4 hHeld ?_
  refine on_ 2 (some 5) (fun K hK => ?_)
  refine gs_ Tryz.func27 #[.agg #[.int .i64 a0_0, .bool a0_1, .slice A0_2 l0_2.length c0_2]] ?_
  with_reducible refine (impl_IsRow.calls k a0_0 a0_1 _ _ l0_2 false _ ?side1 ?side2 A2.out).mono ?_
  (case side1 => exact b6n8_)
  (case side2 => exact HC0_2.out)
  rintro e w3 ⟨rfl, hb⟩
  refine ⟨_, rfl, ?_⟩
  replace BK1 := k1_ BK1 hb
  replace HB := hb_ hb be6g_
  (try clear hb)
  refine hK.out _ _ (c5_ BK1) (fun hHeld => ?_)
  clear hK K
  refine nm_ 5 ?_
  refine pu_ 3 6 ?_
  refine pv_ 4 7 ?_
  refine pv_ 5 8 ?_
  refine pv_ 6 9 ?_
  refine pv_ 7 10 ?_
  refine pv_ 8 11 ?_
  refine pv_ 9 12 ?_
  refine pv_ 10 13 ?_
  refine pv_ 11 14 ?_
  refine pu_ 12 15 ?_
  refine pu_ 13 16 ?_
  refine pv_ 14 17 ?_
  refine pv_ 15 18 ?_
  refine pv_ 16 19 ?_
  refine pu_ 17 20 ?_
  refine pu_ 18 2 ?_
  refine dn_ ?_
  try go_wp2
  go_ret
  exact ⟨bnwh_, be6g_⟩
 subst c1
 rw [if_pos rfl] at H
 obtain ⟨t2, A4, H⟩ := o1_ H
 obtain ⟨t3, A6, H⟩ := o1_ H
 by_cases c2 : t3 = true
 case neg =>
  obtain rfl := bf_.mpr c2
  rw [if_neg ft_] at H
  obtain rfl := si_ H
  go_enter Tryz.func15, Tryz.ntmps15
  try go_wp2_with (first | ((with_reducible refine gd_ (N := 1) rfl ?_); refine bx_ 1 #[.int .i64 a0_0, .bool a0_1, .slice A0_2 l0_2.length c0_2, .slice A0_3 l0_3.length c0_3, .int .i64 a0_4] 35 ?_; intro gb1 hg w1 BK1 hb; have GW1 := ge_ hg brt4_; have GE1 := GW1; replace HB := hb_ hb brt4_; clear hb hg))
  replace BK1 := A0_ (kd_ BK1.out)
  replace HB := A0_ (bd_ HB.out)
  refine s5_ 19 [] BK1 impl_IsHouse.tab1 impl_IsHouse.bits1 (fun hHeld HT_ HW_ => ?_)
  generalize w1.drew = w2 at BK1 HB hHeld ⊢
  refine pu_ 0 3 ?_
  refine tk_ 1 4 hHeld ?_
  refine on_ 2 (some 5) (fun K hK => ?_)
  refine gs_ Tryz.func27 #[.agg #[.int .i64 a0_0, .bool a0_1, .slice A0_2 l0_2.length c0_2]] ?_
  with_reducible refine (impl_IsRow.calls k a0_0 a0_1 _ _ l0_2 true _ ?side1 ?side2 A2.out).mono ?_
  (case side1 => exact b6n8_)
  (case side2 => exact HC0_2.out)
  rintro e w3 ⟨rfl, hb⟩
  refine ⟨_, rfl, ?_⟩
  replace BK1 := k1_ BK1 hb
  replace HB := hb_ hb be6g_
  (try clear hb)
  refine hK.out _ _ (c5_ BK1) (fun hHeld => ?_)
  clear hK K
  refine nm_ 5 ?_
  refine pu_ 3 6 ?_
  refine pu_ 4 7 ?_
  refine pu_ 8 11 ?_
  refine pu_ 9 12 ?_
  refine tk_ 5 8 hHeld ?_
  refine tk_ 10 13 hHeld ?_
  refine on_ 6 (some 9) (fun K hK => ?_)
  refine gs_ Tryz.func30 #[.slice A0_3 l0_3.length c0_3] ?_
  with_reducible refine (slices_Values_int.calls A0_3 l0_3.length c0_3 _).mono ?_
  rintro e wv_ ⟨gv_, rfl, hcv, hb⟩
  refine ⟨_, rfl, ?_⟩
  have HGV := A0_ hcv
  clear hcv
  replace BK1 := k1_ BK1 hb
  replace HB := hb_ hb be6g_
  (try clear hb)
  refine hK.out _ _ (c5_ BK1) (fun hHeld => ?_)
  clear hK K
  refine nm_ 9 ?_
  refine on_ 7 (some 10) (fun K hK => ?_)
  refine gs_ Tryz.func29 #[.func (.func 44) #[] #[.pointer (some ⟨gv_, 0, none⟩)]] ?_
  with_reducible refine (slices_Sorted_int.calls gv_ _ _ l0_3 t2 _ HGV.out ?side1 ?side2 A4.out).mono ?_
  (case side1 => exact bkan_)
  (case side2 => exact HC0_3.out)
  rintro e w4 ⟨v1, rfl, ho0, hb⟩
  refine ⟨_, rfl, ?_⟩
  have HO1 := A0_ (Kd.R_lower ho0 (bz_ be6g_))
  replace BK1 := k1_ BK1 hb
  replace HB := hb_ hb be6g_
  (try clear hb); (try clear ho0)
  obtain ⟨Ao1, co1, eo1⟩ := Kd.R_slice HO1.out
  (first | subst eo1 | (injection eo1 with f1_ f2_ f3_; have f4_ := f1_.symm; have f5_ := f3_.symm; clear f1_ f2_ f3_; subst f4_; subst f5_))
  refine hK.out _ _ (c5_ BK1) (fun hHeld => ?_)
  clear hK K
  refine nm_ 10 ?_
  refine on_ 11 (some 14) (fun K hK => ?_)
  refine gs_ Tryz.func28 #[.slice Ao1 t2.length co1, .slice A0_2 l0_2.length c0_2] ?_
  with_reducible refine (slices_Equal_int_int.calls k _ _ t2 _ _ l0_2 false _ ?side1 ?side2 ?side3 ?side4 A6.out).mono ?_
  (case side1 => exact bayy_)
  (case side2 => exact (rr_ HO1.out).2.1)
  (case side3 => exact b6n8_)
  (case side4 => exact HC0_2.out)
  rintro e w' ⟨rfl, ⟨nd, rfl⟩⟩
  refine ⟨_, rfl, ?_⟩
  refine hK.out _ _ (c5_ BK1) (fun hHeld => ?_)
  clear hK K
  refine nm_ 14 ?_
  refine pu_ 12 15 ?_
  refine pu_ 13 16 ?_
  refine pv_ 14 17 ?_
  refine pv_ 15 18 ?_
  refine pv_ 16 19 ?_
  refine pu_ 17 20 ?_
  refine pu_ 18 2 ?_
  refine dn_ ?_
  try go_wp2
  go_ret
  exact ⟨bnwh_, be6g_⟩
 subst c2
 rw [if_pos rfl] at H
 obtain ⟨t4, A8, H⟩ := o1_ H
 replace H : (some t4) = some r := H
 obtain rfl := si_ H
 go_enter Tryz.func15, Tryz.ntmps15
 try go_wp2_with (first | ((with_reducible refine gd_ (N := 1) rfl ?_); refine bx_ 1 #[.int .i64 a0_0, .bool a0_1, .slice A0_2 l0_2.length c0_2, .slice A0_3 l0_3.length c0_3, .int .i64 a0_4] 35 ?_; intro gb1 hg w1 BK1 hb; have GW1 := ge_ hg brt4_; have GE1 := GW1; replace HB := hb_ hb brt4_; clear hb hg))
 replace BK1 := A0_ (kd_ BK1.out)
 replace HB := A0_ (bd_ HB.out)
 refine s5_ 19 [] BK1 impl_IsHouse.tab1 impl_IsHouse.bits1 (fun hHeld HT_ HW_ => ?_)
 generalize w1.drew = w2 at BK1 HB hHeld ⊢
 refine pu_ 0 3 ?_
 refine tk_ 1 4 hHeld ?_
 refine on_ 2 (some 5) (fun K hK => ?_)
 refine gs_ Tryz.func27 #[.agg #[.int .i64 a0_0, .bool a0_1, .slice A0_2 l0_2.length c0_2]] ?_
 with_reducible refine (impl_IsRow.calls k a0_0 a0_1 _ _ l0_2 true _ ?side1 ?side2 A2.out).mono ?_
 (case side1 => exact b6n8_)
 (case side2 => exact HC0_2.out)
 rintro e w3 ⟨rfl, hb⟩
 refine ⟨_, rfl, ?_⟩
 replace BK1 := k1_ BK1 hb
 replace HB := hb_ hb be6g_
 (try clear hb)
 refine hK.out _ _ (c5_ BK1) (fun hHeld => ?_)
 clear hK K
 refine nm_ 5 ?_
 refine pu_ 3 6 ?_
 refine pu_ 4 7 ?_
 refine pu_ 8 11 ?_
 refine pu_ 9 12 ?_
 refine tk_ 5 8 hHeld ?_
 refine tk_ 10 13 hHeld ?_
 refine on_ 6 (some 9) (fun K hK => ?_)
 refine gs_ Tryz.func30 #[.slice A0_3 l0_3.length c0_3] ?_
 with_reducible refine (slices_Values_int.calls A0_3 l0_3.length c0_3 _).mono ?_
 rintro e wv_ ⟨gv_, rfl, hcv, hb⟩
 refine ⟨_, rfl, ?_⟩
 have HGV := A0_ hcv
 clear hcv
 replace BK1 := k1_ BK1 hb
 replace HB := hb_ hb be6g_
 (try clear hb)
 refine hK.out _ _ (c5_ BK1) (fun hHeld => ?_)
 clear hK K
 refine nm_ 9 ?_
 refine on_ 7 (some 10) (fun K hK => ?_)
 refine gs_ Tryz.func29 #[.func (.func 44) #[] #[.pointer (some ⟨gv_, 0, none⟩)]] ?_
 with_reducible refine (slices_Sorted_int.calls gv_ _ _ l0_3 t2 _ HGV.out ?side1 ?side2 A4.out).mono ?_
 (case side1 => exact bkan_)
 (case side2 => exact HC0_3.out)
 rintro e w4 ⟨v1, rfl, ho0, hb⟩
 refine ⟨_, rfl, ?_⟩
 have HO1 := A0_ (Kd.R_lower ho0 (bz_ be6g_))
 replace BK1 := k1_ BK1 hb
 replace HB := hb_ hb be6g_
 (try clear hb); (try clear ho0)
 obtain ⟨Ao1, co1, eo1⟩ := Kd.R_slice HO1.out
 (first | subst eo1 | (injection eo1 with f1_ f2_ f3_; have f4_ := f1_.symm; have f5_ := f3_.symm; clear f1_ f2_ f3_; subst f4_; subst f5_))
 refine hK.out _ _ (c5_ BK1) (fun hHeld => ?_)
 clear hK K
 refine nm_ 10 ?_
 refine on_ 11 (some 14) (fun K hK => ?_)
 refine gs_ Tryz.func28 #[.slice Ao1 t2.length co1, .slice A0_2 l0_2.length c0_2] ?_
 with_reducible refine (slices_Equal_int_int.calls k _ _ t2 _ _ l0_2 true _ ?side1 ?side2 ?side3 ?side4 A6.out).mono ?_
 (case side1 => exact bayy_)
 (case side2 => exact (rr_ HO1.out).2.1)
 (case side3 => exact b6n8_)
 (case side4 => exact HC0_2.out)
 rintro e w' ⟨rfl, ⟨nd, rfl⟩⟩
 refine ⟨_, rfl, ?_⟩
 refine hK.out _ _ (c5_ BK1) (fun hHeld => ?_)
 clear hK K
 refine nm_ 14 ?_
 refine pu_ 12 15 ?_
 refine pu_ 13 16 ?_
 refine pu_ 14 17 ?_
 refine tk_ 15 18 hHeld ?_
 refine on_ 16 (some 19) (fun K hK => ?_)
 refine gs_ Tryz.func31 #[.int .i64 a0_4, .int .i64 0, .int .i64 1000] ?_
 with_reducible refine (impl_within.calls a0_4 0 1000 t4 _ A8.out).mono ?_
 rintro e w' ⟨rfl, ⟨nd, rfl⟩⟩
 refine ⟨_, rfl, ?_⟩
 refine hK.out _ _ (c5_ BK1) (fun hHeld => ?_)
 clear hK K
 refine nm_ 19 ?_
 refine pu_ 17 20 ?_
 refine pu_ 18 2 ?_
 refine dn_ ?_
 try go_wp2
 go_ret
 exact ⟨bnwh_, be6g_⟩


def lays219_ren : Go.Shelf.Ren where
 f := fun x => match x with
  | 219 => 74
  | 217 => 87
  | 225 => 88
  | 224 => 89
  | 267 => 90
  | 266 => 95
  | 314 => 96
  | n => n
 t := fun x => match x with
  | 9 => 9
  | 3 => 3
  | 4 => 4
  | 5 => 5
  | 46 => 93
  | 146 => 126
  | 51 => 106
  | n => n
 g := fun x => match x with
  | 1 => 0
  | n => n
theorem lays219 : Lays.n219 Tryz.prog lays219_ren where
 mixed := by kernel_rfl
 f217 := Tryz.func87.trans bfqv_
 f219 := Tryz.func74.trans bfqv_
 f224 := Tryz.func89.trans bfqv_
 f225 := Tryz.func88.trans bfqv_
 f266 := Tryz.func95.trans bfqv_
 f267 := Tryz.func90.trans bfqv_
 f314 := Tryz.func96.trans bfqv_
 t3 := Tryz.underlying3
 a3 := Tryz.isAgg3
 z3 := Tryz.sizeOf3
 v3 := Tryz.zeroValue3
 t4 := Tryz.underlying4
 a4 := Tryz.isAgg4
 z4 := Tryz.sizeOf4
 v4 := Tryz.zeroValue4
 t5 := Tryz.underlying5
 a5 := Tryz.isAgg5
 z5 := Tryz.sizeOf5
 v5 := Tryz.zeroValue5
 t9 := Tryz.underlying9
 a9 := Tryz.isAgg9
 z9 := Tryz.sizeOf9
 v9 := Tryz.zeroValue9
 t46 := Tryz.underlying93
 a46 := Tryz.isAgg93
 z46 := Tryz.sizeOf93
 v46 := Tryz.zeroValue93
 t51 := Tryz.underlying106
 a51 := Tryz.isAgg106
 z51 := Tryz.sizeOf106
 v51 := Tryz.zeroValue106
 t146 := Tryz.underlying126
 a146 := Tryz.isAgg126
 z146 := Tryz.sizeOf126
 v146 := Tryz.zeroValue126
 g1 := by kernel_rfl
/-- The first place of a text of one byte in another text (a text of another length: not told). -/
def stringslite_Index.f (a0 : ByteArray) (a1 : ByteArray) : Option (Int) := if a1.size = 1 then some (Lib.indexByte a0.data.toList (a1.data.toList.headD 0)) else none
theorem one_byte (a : ByteArray) (h : a.size = 1) : a = ⟨#[a.data.toList.headD 0]⟩ := by
 obtain ⟨⟨l⟩⟩ := a
 match l, h with
 | [c], _ => rfl
theorem stringslite_Index.calls (a0 : ByteArray) (a1 : ByteArray) (r : Int) (w : World) (h : stringslite_Index.f a0 a1 = some r) :
  Calls Tryz.prog 74 #[.string a0, .string a1] w fun e w' => e = .returned (.int .i64 r) ∧ Drawn0 w w' := by
 unfold stringslite_Index.f at h
 split at h
 case isFalse => cases h
 rename_i hc
 have e := si_ h
 subst e
 have e1 := one_byte a1 hc
 generalize a1.data.toList.headD 0 = c at e1 ⊢
 subst e1
 exact (Any.stringslite_Index_one lays219 a0 c w).mono (by rintro e w' ⟨rfl, rfl⟩; exact ⟨rfl, Drawn0.refl _⟩)


def stringslite_Cut.f (a0 : ByteArray) (a1 : ByteArray) : Option (ByteArray × ByteArray × Bool) := (stringslite_Index.f a0 a1).bind fun t260 => (if t260 ≥ 0 then (if 0 ≤ t260 then (if t260 ≤ (a0.size : Int) then (if 0 ≤ (wrap64 (t260 + (a1.size : Int))) then (if (wrap64 (t260 + (a1.size : Int))) ≤ (a0.size : Int) then (some (a0.extract 0 (t260 : Int).toNat, a0.extract ((wrap64 (t260 + (a1.size : Int))) : Int).toNat a0.size, true)) else (none)) else (none)) else (none)) else (none)) else (some (a0, (⟨#[]⟩ : ByteArray), false)))
theorem stringslite_Cut.calls (a0 : ByteArray) (a1 : ByteArray) (r1 : ByteArray) (r2 : ByteArray) (r3 : Bool) (w : World) (h : stringslite_Cut.f a0 a1 = some (r1, r2, r3)) :
  Calls Tryz.prog 56 #[.string a0, .string a1] w fun e w' => e = .returned (.tuple #[.string r1, .string r2, .bool r3]) ∧ Drawn0 w w' := by
 have H : ((stringslite_Index.f a0 a1).bind fun t1 => (if t1 ≥ 0 then (if 0 ≤ t1 then (if t1 ≤ (a0.size : Int) then (if 0 ≤ (wrap64 (t1 + (a1.size : Int))) then (if (wrap64 (t1 + (a1.size : Int))) ≤ (a0.size : Int) then (some (a0.extract 0 (t1 : Int).toNat, a0.extract ((wrap64 (t1 + (a1.size : Int))) : Int).toNat a0.size, true)) else (none)) else (none)) else (none)) else (none)) else (some (a0, (⟨#[]⟩ : ByteArray), false)))) = some (r1, r2, r3) := h
 clear h
 obtain ⟨t1, A2, H⟩ := o1_ H
 by_cases c1 : t1 ≥ 0
 case neg =>
  rw [if_neg c1] at H
  have c1b0 : decide (0 ≤ t1) = false := decide_eq_false c1
  clear c1
  simp only [sj_, pj_] at H
  obtain ⟨rfl, rfl, rfl⟩ := H
  go_enter Tryz.func56, Tryz.ntmps56
  go_wp2_with (first | (go_at_call 74; (with_reducible refine (stringslite_Index.calls a0 a1 t1 _ A2.out).mono ?_); rintro e w' ⟨rfl, ⟨nd, rfl⟩⟩; (try first | exact ⟨rfl, _, World.drewN_drewN _ _ _⟩ | exact ⟨rfl, _, Eq.trans (World.drewN_drewN _ _ _) (congrArg (World.drewN _) (Nat.add_assoc _ _ _))⟩)))
  repeat (go_quiet (first | (go_at_call 74; (with_reducible refine (stringslite_Index.calls a0 a1 t1 _ A2.out).mono ?_); rintro e w' ⟨rfl, ⟨nd, rfl⟩⟩; (try first | exact ⟨rfl, _, World.drewN_drewN _ _ _⟩ | exact ⟨rfl, _, Eq.trans (World.drewN_drewN _ _ _) (congrArg (World.drewN _) (Nat.add_assoc _ _ _))⟩))); try go_wp2_with (first | (go_at_call 74; (with_reducible refine (stringslite_Index.calls a0 a1 t1 _ A2.out).mono ?_); rintro e w' ⟨rfl, ⟨nd, rfl⟩⟩; (try first | exact ⟨rfl, _, World.drewN_drewN _ _ _⟩ | exact ⟨rfl, _, Eq.trans (World.drewN_drewN _ _ _) (congrArg (World.drewN _) (Nat.add_assoc _ _ _))⟩))))
  go_ret3
  exact ⟨b04z_, boaj_⟩
 rw [if_pos c1] at H
 have c1b0 : decide (0 ≤ t1) = true := dt_ c1
 clear c1
 by_cases c2 : 0 ≤ t1
 case neg =>
  rw [if_neg c2] at H
  exact absurd H bxka_
 rw [if_pos c2] at H
 have c2b0 := eq_true c2
 have c2b1 : decide (0 ≤ t1) = true := dt_ c2
 clear c2
 by_cases c3 : t1 ≤ (a0.size : Int)
 case neg =>
  rw [if_neg c3] at H
  exact absurd H bxka_
 rw [if_pos c3] at H
 have c3b0 := eq_true c3
 have c3b1 : decide (t1 ≤ (a0.size : Int)) = true := dt_ c3
 clear c3
 obtain ⟨ji1, hji1⟩ : ∃ j_ : Int, (wrap64 (t1 + (a1.size : Int))) = j_ := ⟨_, rfl⟩
 replace H : (if 0 ≤ (ji1) then (if (ji1) ≤ (a0.size : Int) then (some (a0.extract 0 (t1 : Int).toNat, a0.extract ((ji1) : Int).toNat a0.size, true)) else (none)) else (none)) = some (r1, r2, r3) := bmns_
 (try rw [hji1] at A2)
 have hji7w : (IntKind.i64.wrap (t1 + (a1.size : Int))) = ji1 := (i64_w _).trans hji1
 by_cases c4 : 0 ≤ (ji1)
 case neg =>
  rw [if_neg c4] at H
  exact absurd H bxka_
 rw [if_pos c4] at H
 have c4b0 := eq_true c4
 have c4b1 : decide (0 ≤ (ji1)) = true := dt_ c4
 clear c4
 by_cases c5 : (ji1) ≤ (a0.size : Int)
 case neg =>
  rw [if_neg c5] at H
  exact absurd H bxka_
 rw [if_pos c5] at H
 have c5b0 := eq_true c5
 have c5b1 : decide ((ji1) ≤ (a0.size : Int)) = true := dt_ c5
 clear c5
 simp only [sj_, pj_] at H
 obtain ⟨rfl, rfl, rfl⟩ := H
 go_enter Tryz.func56, Tryz.ntmps56
 go_wp2_with (first | (go_at_call 74; (with_reducible refine (stringslite_Index.calls a0 a1 t1 _ A2.out).mono ?_); rintro e w' ⟨rfl, ⟨nd, rfl⟩⟩; (try first | exact ⟨rfl, _, World.drewN_drewN _ _ _⟩ | exact ⟨rfl, _, Eq.trans (World.drewN_drewN _ _ _) (congrArg (World.drewN _) (Nat.add_assoc _ _ _))⟩)))
 repeat (go_quiet (first | (go_at_call 74; (with_reducible refine (stringslite_Index.calls a0 a1 t1 _ A2.out).mono ?_); rintro e w' ⟨rfl, ⟨nd, rfl⟩⟩; (try first | exact ⟨rfl, _, World.drewN_drewN _ _ _⟩ | exact ⟨rfl, _, Eq.trans (World.drewN_drewN _ _ _) (congrArg (World.drewN _) (Nat.add_assoc _ _ _))⟩))); try go_wp2_with (first | (go_at_call 74; (with_reducible refine (stringslite_Index.calls a0 a1 t1 _ A2.out).mono ?_); rintro e w' ⟨rfl, ⟨nd, rfl⟩⟩; (try first | exact ⟨rfl, _, World.drewN_drewN _ _ _⟩ | exact ⟨rfl, _, Eq.trans (World.drewN_drewN _ _ _) (congrArg (World.drewN _) (Nat.add_assoc _ _ _))⟩))))
 go_ret3
 exact ⟨by first | rfl | (simp; done) | (simp only [← hji1] <;> (first | rfl | simp)) | (simp [*]; done), boaj_⟩

def strings_Cut.f (a0 : ByteArray) (a1 : ByteArray) : Option (ByteArray × ByteArray × Bool) := (stringslite_Cut.f a0 a1).bind fun bt261 => (some (bt261.1, bt261.2.1, bt261.2.2))
theorem strings_Cut.calls (a0 : ByteArray) (a1 : ByteArray) (r1 : ByteArray) (r2 : ByteArray) (r3 : Bool) (w : World) (h : strings_Cut.f a0 a1 = some (r1, r2, r3)) :
  Calls Tryz.prog 45 #[.string a0, .string a1] w fun e w' => e = .returned (.tuple #[.string r1, .string r2, .bool r3]) ∧ Drawn0 w w' := by
 have H : ((stringslite_Cut.f a0 a1).bind fun bt1 => (some (bt1.1, bt1.2.1, bt1.2.2))) = some (r1, r2, r3) := h
 clear h
 obtain ⟨⟨t1, t2, t3⟩, A2, H⟩ := o1_ H
 replace H : (some (t1, t2, t3)) = some (r1, r2, r3) := H
 simp only [sj_, pj_] at H
 obtain ⟨rfl, rfl, rfl⟩ := H
 go_enter Tryz.func45, Tryz.ntmps45
 go_wp2_with (first | ((with_reducible refine gc_ (f := 56) rfl ?_); refine gl_ 9 Tryz.func56 #[.string a0, .string a1] ?_; (with_reducible refine (stringslite_Cut.calls a0 a1 t1 t2 t3 _ A2.out).mono ?_); rintro e w' ⟨rfl, ⟨nd, rfl⟩⟩; refine ⟨_, rfl, ?_⟩))
 go_ret3
 exact ⟨b04z_, boaj_⟩

def lays171_ren : Go.Shelf.Ren where
 f := fun x => match x with
  | 171 => 59
  | 243 => 79
  | 246 => 93
  | 283 => 98
  | 284 => 99
  | 285 => 100
  | 286 => 101
  | 129 => 73
  | 317 => 106
  | 318 => 107
  | 319 => 108
  | 320 => 109
  | 337 => 112
  | 338 => 113
  | n => n
 t := fun x => match x with
  | 3 => 3
  | 9 => 9
  | 2 => 2
  | 4 => 4
  | 171 => 128
  | 0 => 0
  | 53 => 108
  | 37 => 130
  | 5 => 5
  | 173 => 131
  | 212 => 140
  | 51 => 106
  | 20 => 20
  | 213 => 141
  | 46 => 93
  | 232 => 144
  | 233 => 145
  | n => n
 g := fun x => match x with
  | 17 => 1
  | 18 => 2
  | 19 => 3
  | n => n
theorem lays171 : LaysM.n171 Tryz.prog lays171_ren where
 mixed := by kernel_rfl
 f129 := Tryz.func73.trans bfqv_
 f171 := Tryz.func59.trans bfqv_
 f243 := Tryz.func79.trans bfqv_
 f246 := Tryz.func93.trans bfqv_
 f283 := Tryz.func98.trans bfqv_
 f284 := Tryz.func99.trans bfqv_
 f285 := Tryz.func100.trans bfqv_
 f286 := Tryz.func101.trans bfqv_
 f317 := Tryz.func106.trans bfqv_
 f318 := Tryz.func107.trans bfqv_
 f319 := Tryz.func108.trans bfqv_
 f320 := Tryz.func109.trans bfqv_
 f337 := Tryz.func112.trans bfqv_
 f338 := Tryz.func113.trans bfqv_
 t0 := Tryz.underlying0
 a0 := Tryz.isAgg0
 z0 := Tryz.sizeOf0
 v0 := Tryz.zeroValue0
 t2 := Tryz.underlying2
 a2 := Tryz.isAgg2
 z2 := Tryz.sizeOf2
 v2 := Tryz.zeroValue2
 t3 := Tryz.underlying3
 a3 := Tryz.isAgg3
 z3 := Tryz.sizeOf3
 v3 := Tryz.zeroValue3
 t4 := Tryz.underlying4
 a4 := Tryz.isAgg4
 z4 := Tryz.sizeOf4
 v4 := Tryz.zeroValue4
 t5 := Tryz.underlying5
 a5 := Tryz.isAgg5
 z5 := Tryz.sizeOf5
 v5 := Tryz.zeroValue5
 t9 := Tryz.underlying9
 a9 := Tryz.isAgg9
 z9 := Tryz.sizeOf9
 v9 := Tryz.zeroValue9
 t20 := Tryz.underlying20
 a20 := Tryz.isAgg20
 z20 := Tryz.sizeOf20
 v20 := Tryz.zeroValue20
 t37 := Tryz.underlying130
 a37 := Tryz.isAgg130
 z37 := Tryz.sizeOf130
 v37 := Tryz.zeroValue130
 t46 := Tryz.underlying93
 a46 := Tryz.isAgg93
 z46 := Tryz.sizeOf93
 v46 := Tryz.zeroValue93
 t51 := Tryz.underlying106
 a51 := Tryz.isAgg106
 z51 := Tryz.sizeOf106
 v51 := Tryz.zeroValue106
 t53 := Tryz.underlying108
 a53 := Tryz.isAgg108
 z53 := Tryz.sizeOf108
 v53 := Tryz.zeroValue108
 t171 := Tryz.underlying128
 a171 := Tryz.isAgg128
 z171 := Tryz.sizeOf128
 v171 := Tryz.zeroValue128
 t173 := Tryz.underlying131
 a173 := Tryz.isAgg131
 z173 := Tryz.sizeOf131
 v173 := Tryz.zeroValue131
 t212 := Tryz.underlying140
 a212 := Tryz.isAgg140
 z212 := Tryz.sizeOf140
 v212 := Tryz.zeroValue140
 t213 := Tryz.underlying141
 a213 := Tryz.isAgg141
 z213 := Tryz.sizeOf141
 t232 := Tryz.underlying144
 a232 := Tryz.isAgg144
 z232 := Tryz.sizeOf144
 v232 := Tryz.zeroValue144
 t233 := Tryz.underlying145
 a233 := Tryz.isAgg145
 z233 := Tryz.sizeOf145
 v233 := Tryz.zeroValue145
 g17 := by kernel_rfl
 g18 := by kernel_rfl
 g19 := by kernel_rfl
 i0 := by kernel_rfl
 i2 := by kernel_rfl
 i3 := by kernel_rfl
 i4 := by kernel_rfl
 i5 := by kernel_rfl
 i9 := by kernel_rfl
 i20 := by kernel_rfl
 i37 := by kernel_rfl
 i46 := by kernel_rfl
 i51 := by kernel_rfl
 i53 := by kernel_rfl
 i173 := by kernel_rfl
 m17 := by kernel_rfl
 m18 := by kernel_rfl
 m19 := by kernel_rfl
 i171 := by kernel_rfl
 i212 := by kernel_rfl
 i232 := by kernel_rfl
 i233 := by kernel_rfl
/-- The table of the library's stands in its variable: what the row's list gives. -/
def TabOK (w : World) : Prop := Lib.TabIs Tryz.prog w "internal/strconv.uint64pow10" .u64 Lib.pow10Tab
theorem TabOK.below {w w' : World} (h : TabOK w) (hb : Below w.heap.size w w') : TabOK w' := Lib.tabBelow_of_tabIs h w' hb
theorem TabOK.drewN {w : World} (h : TabOK w) (n : Nat) : TabOK (w.drewN n) := h
theorem TabOK.drew {w : World} (h : TabOK w) : TabOK w.drew := h
/-- A number in decimal. -/
def strconv_Itoa.f (a0 : Int) : Option (ByteArray) := if -9223372036854775808 ≤ a0 ∧ a0 ≤ 9223372036854775807 then some ⟨(Lib.itoa a0).toArray⟩ else none
theorem strconv_Itoa.calls (a0 : Int) (r : ByteArray) (w : World) (hG : TabOK w) (h : strconv_Itoa.f a0 = some r) :
  Calls Tryz.prog 59 #[.int .i64 a0] w fun e w' => e = .returned (.string r) ∧ Below w.heap.size w w' := by
 unfold strconv_Itoa.f at h
 split at h
 case isFalse => cases h
 rename_i hc
 have e := si_ h
 subst e
 exact (Any.strconv_Itoa lays171 a0 hc.1 hc.2 w hG).mono (by rintro e w' ⟨rfl, k, os, rfl⟩; exact ⟨rfl, Lib.below_grow _ _ (Nat.le_refl _) k os⟩)


def strings_Index.f (a0 : ByteArray) (a1 : ByteArray) : Option (Int) := (stringslite_Index.f a0 a1).bind fun t264 => (some t264)
theorem strings_Index.calls (a0 : ByteArray) (a1 : ByteArray) (r : Int) (w : World) (h : strings_Index.f a0 a1 = some r) :
  Calls Tryz.prog 91 #[.string a0, .string a1] w fun e w' => e = .returned (.int .i64 r) ∧ Drawn0 w w' := by
 have H : ((stringslite_Index.f a0 a1).bind fun t1 => (some t1)) = some r := h
 clear h
 obtain ⟨t1, A2, H⟩ := o1_ H
 replace H : (some t1) = some r := H
 obtain rfl := si_ H
 go_enter Tryz.func91, Tryz.ntmps91
 go_wp2_with (first | ((with_reducible refine gc_ (f := 74) rfl ?_); refine gl_ 7 Tryz.func74 #[.string a0, .string a1] ?_; (with_reducible refine (stringslite_Index.calls a0 a1 t1 _ A2.out).mono ?_); rintro e w' ⟨rfl, ⟨nd, rfl⟩⟩; refine ⟨_, rfl, ?_⟩))
 go_ret
 exact ⟨b04z_, boaj_⟩

def strings_Contains.f (a0 : ByteArray) (a1 : ByteArray) : Option (Bool) := (strings_Index.f a0 a1).bind fun t265 => (some (decide (t265 ≥ 0)))
theorem strings_Contains.calls (a0 : ByteArray) (a1 : ByteArray) (r : Bool) (w : World) (h : strings_Contains.f a0 a1 = some r) :
  Calls Tryz.prog 75 #[.string a0, .string a1] w fun e w' => e = .returned (.bool r) ∧ Drawn0 w w' := by
 have H : ((strings_Index.f a0 a1).bind fun t1 => (some (decide (t1 ≥ 0)))) = some r := h
 clear h
 obtain ⟨t1, A2, H⟩ := o1_ H
 replace H : (some (decide (t1 ≥ 0))) = some r := H
 obtain rfl := si_ H
 go_enter Tryz.func75, Tryz.ntmps75
 go_wp2_with (first | ((with_reducible refine gc_ (f := 91) rfl ?_); refine gl_ 7 Tryz.func91 #[.string a0, .string a1] ?_; (with_reducible refine (strings_Index.calls a0 a1 t1 _ A2.out).mono ?_); rintro e w' ⟨rfl, ⟨nd, rfl⟩⟩; refine ⟨_, rfl, ?_⟩))
 go_ret
 exact ⟨b04z_, boaj_⟩

def impl_checksum.l0 : Nat → ByteArray → Int → Int → Int → Option (Int)
 | 0, _, _, _, _ => none
 | k + 1, x0, x3, x6, x7 => if x7 < x6 then (if 0 ≤ x7 then (if x7 < (x0.size : Int) then (impl_checksum.l0 k x0 (Int.tmod (wrap64 ((wrap64 ((wrap64 (41 * x3)) + (wrap64 (bt x0 x7)))) + 1)) 999979) x6 (wrap64 (x7 + 1))) else (none)) else (none)) else (some x3)
def impl_checksum.f (k : Nat) (a0 : ByteArray) : Option (Int) := impl_checksum.l0 k a0 7 (a0.size : Int) 0
theorem impl_checksum.mono_l : ∀ k, (∀ y0 y1 y2 y3, LeO (impl_checksum.l0 k y0 y1 y2 y3) (impl_checksum.l0 (k + 1) y0 y1 y2 y3))
 | 0 => fun _ _ _ _ r h => by simp [impl_checksum.l0] at h
 | k + 1 => by
  have ih0 := impl_checksum.mono_l k
  ·intro y0 y1 y2 y3
   unfold impl_checksum.l0
   repeat' with_reducible first | exact ih0 .. | exact LeO.refl .. | exact LeO.none .. | refine LeO.ite ?_ ?_ | refine LeO.bind ?_ (fun _ => ?_)
theorem impl_checksum.mono : ∀ a0 k, LeO (impl_checksum.f k a0) (impl_checksum.f (k + 1) a0) := by
 intro a0 k
 have ih0 := impl_checksum.mono_l k
 unfold impl_checksum.f
 repeat' with_reducible first | exact ih0 .. | exact LeO.refl .. | exact LeO.none .. | refine LeO.ite ?_ ?_ | refine LeO.bind ?_ (fun _ => ?_)
theorem impl_checksum.calls (k : Nat) (a0 : ByteArray) (r : Int) (w : World) (h : impl_checksum.f k a0 = some r) :
  Calls Tryz.prog 76 #[.string a0] w fun e w' => e = .returned (.int .i64 r) ∧ Drawn0 w w' := by
 have H : (impl_checksum.l0 k a0 7 (a0.size : Int) 0) = some r := h
 clear h
 have H' := A0_ H
 clear H
 go_enter Tryz.func76, Tryz.ntmps76
 go_wp2
 go_loopg [3, 7] k (fun kq v1 v2 w' => ∃ (x3_1 : Int) (x7_1 : Int), v1 = .int .i64 x3_1 ∧ v2 = .int .i64 x7_1 ∧ Aside0 (impl_checksum.l0 kq a0 x3_1 (a0.size : Int) x7_1 = some r) ∧ Aside0 (kq ≤ k) ∧ Drawn0 w w')
 case atStart => exact ⟨(7), (0), b2ew_, b2ew_, H', ⟨Nat.le_refl _⟩, boaj_⟩
 clear H'
 obtain ⟨x3_1, x7_1, rfl, rfl, HA, HK1, ⟨m1, rfl⟩⟩ := hrel
 cases gk with | zero => exact absurd HA.out (by simp [impl_checksum.l0]) | succ k1 => ?_
 have H := HA.out
 clear HA
 simp only [impl_checksum.l0] at H
 by_cases c1 : x7_1 < (a0.size : Int)
 case neg =>
  rw [if_neg c1] at H
  have c1b0 : decide (x7_1 < (a0.size : Int)) = false := decide_eq_false c1
  clear c1
  obtain rfl := si_ H
  go_wp2
  go_ret
  exact ⟨b04z_, boaj_⟩
 rw [if_pos c1] at H
 have c1b0 : decide (x7_1 < (a0.size : Int)) = true := dt_ c1
 clear c1
 by_cases c2 : 0 ≤ x7_1
 case neg =>
  rw [if_neg c2] at H
  exact absurd H bxka_
 rw [if_pos c2] at H
 have c2b0 : decide (0 ≤ x7_1) = true := dt_ c2
 clear c2
 by_cases c3 : x7_1 < (a0.size : Int)
 case neg =>
  rw [if_neg c3] at H
  exact absurd H bxka_
 rw [if_pos c3] at H
 have c3b0 : decide (x7_1 < (a0.size : Int)) = true := dt_ c3
 clear c3
 have H' := A0_ H
 clear H
 have p1 : 0 ≤ (x7_1 : Int) := od_ bpil_
 have q1 : x7_1 < (a0.size : Int) := od_ bpil_
 have hx1 := bt_at a0 x7_1
 replace p1 := eq_true p1
 replace q1 := eq_true q1
 go_wp2
 go_roundg k1
 case measure => have := HK1.out; omega
 exact ⟨(Int.tmod (wrap64 ((wrap64 ((wrap64 (41 * x3_1)) + (wrap64 (bt a0 x7_1)))) + 1)) 999979), (wrap64 (x7_1 + 1)), b2ew_, b2ew_, H', ⟨bxjq_⟩, boaj_⟩

def impl_AppendChecksum.j0 : Nat → ByteArray → Bool → Option (ByteArray × Bool)
 | 0, _, _ => none
 | k + 1, x0, x11 => if x11 = true then (some ((⟨#[]⟩ : ByteArray), false)) else (if x0.size + 1 ≤ 9223372036854775807 then ((impl_checksum.f k x0).bind fun t267 => ((strconv_Itoa.f t267).bind fun t268 => (if (x0 ++ (⟨#[35]⟩ : ByteArray)).size + t268.size ≤ 9223372036854775807 then (if (((x0 ++ (⟨#[35]⟩ : ByteArray)) ++ t268).size : Int) > 4000 then (some ((⟨#[]⟩ : ByteArray), false)) else (some ((x0 ++ (⟨#[35]⟩ : ByteArray)) ++ t268, true))) else (none)))) else (none))
def impl_AppendChecksum.f (k : Nat) (a0 : ByteArray) : Option (ByteArray × Bool) := if (a0.size : Int) > 4000 then (impl_AppendChecksum.j0 k a0 true) else ((strings_Contains.f a0 (⟨#[35]⟩ : ByteArray)).bind fun t266 => (impl_AppendChecksum.j0 k a0 t266))
theorem impl_AppendChecksum.mono_l : ∀ k, (∀ y0 y1, LeO (impl_AppendChecksum.j0 k y0 y1) (impl_AppendChecksum.j0 (k + 1) y0 y1))
 | 0 => fun _ _ r h => by simp [impl_AppendChecksum.j0] at h
 | k + 1 => by
  have ih0 := impl_AppendChecksum.mono_l k
  ·intro y0 y1
   unfold impl_AppendChecksum.j0
   repeat' with_reducible first | exact ih0 .. | exact impl_checksum.mono .. | exact LeO.refl .. | exact LeO.none .. | refine LeO.ite ?_ ?_ | refine LeO.bind ?_ (fun _ => ?_)
theorem impl_AppendChecksum.mono : ∀ a0 k, LeO (impl_AppendChecksum.f k a0) (impl_AppendChecksum.f (k + 1) a0) := by
 intro a0 k
 have ih0 := impl_AppendChecksum.mono_l k
 unfold impl_AppendChecksum.f
 repeat' with_reducible first | exact ih0 .. | exact impl_checksum.mono .. | exact LeO.refl .. | exact LeO.none .. | refine LeO.ite ?_ ?_ | refine LeO.bind ?_ (fun _ => ?_)
theorem impl_AppendChecksum.calls (k : Nat) (a0 : ByteArray) (r1 : ByteArray) (r2 : Bool) (w : World) (hG : TabOK w) (h : impl_AppendChecksum.f k a0 = some (r1, r2)) :
  Calls Tryz.prog 57 #[.string a0] w fun e w' => e = .returned (.tuple #[.string r1, .bool r2]) ∧ Below w.heap.size w w' := by
 have HG0 := A0_ hG
 clear hG
 have HB := A0_ (Below.refl w.heap.size w)
 have H : (if (a0.size : Int) > 4000 then (impl_AppendChecksum.j0 k a0 true) else ((strings_Contains.f a0 (⟨#[35]⟩ : ByteArray)).bind fun t1 => (impl_AppendChecksum.j0 k a0 t1))) = some (r1, r2) := h
 clear h
 have HC2 := A0_ H
 clear H
 go_enter Tryz.func57, Tryz.ntmps57
 go_upto_region 1 with (fail)
 go_cut [11] (fun v1 wc => ∃ (kq : Nat) (x11_1 : Bool), v1 = .bool x11_1 ∧ Aside0 (impl_AppendChecksum.j0 kq a0 x11_1 = some (r1, r2)) ∧ Aside0 (kq ≤ k) ∧ Aside0 (Below w.heap.size w wc))
 case first =>
  have H := HC2.out
  clear HC2
  by_cases c1 : (a0.size : Int) > 4000
  ·rw [if_pos c1] at H
   have c1b0 : decide (4000 < (a0.size : Int)) = true := dt_ c1
   have c1b1 : decide (4000 < a0.size) = true := dt_ bh19_
   clear c1
   (first | rw [c1b0] | (simp only [i64_w, i32_w]; rw [c1b0]) | skip)
   have H' := A0_ H
   clear H
   go_wp2
   go_meet
   exact ⟨_, (true), b2ew_, H', ⟨bbn0_⟩, ⟨brt4_⟩⟩
  rw [if_neg c1] at H
  have c1b0 : decide (4000 < (a0.size : Int)) = false := decide_eq_false c1
  have c1b1 : decide (4000 < a0.size) = false := decide_eq_false bh19_
  clear c1
  (first | rw [c1b0] | (simp only [i64_w, i32_w]; rw [c1b0]) | skip)
  obtain ⟨t1, A2, H⟩ := o1_ H
  have H' := A0_ H
  clear H
  go_wp2_with (first | (go_at_call 75; (with_reducible refine (strings_Contains.calls a0 (⟨#[35]⟩ : ByteArray) t1 _ A2.out).mono ?_); rintro e w' ⟨rfl, ⟨nd, rfl⟩⟩))
  go_meet
  exact ⟨_, (t1), b2ew_, H', ⟨bbn0_⟩, ⟨brt4_⟩⟩
 clear HC2
 obtain ⟨kq, x11_1, rfl, HA, HJ1, HB⟩ := hcut
 cases kq with | zero => exact absurd HA.out (by simp [impl_AppendChecksum.j0]) | succ kj1 => ?_
 have H := HA.out
 clear HA
 simp only [impl_AppendChecksum.j0] at H
 by_cases c1 : x11_1 = true
 ·subst c1
  rw [if_pos rfl] at H
  simp only [sj_, pj_] at H
  obtain ⟨rfl, rfl⟩ := H
  go_wp2
  go_ret2
  exact ⟨bnwh_, brt4_⟩
 obtain rfl := bf_.mpr c1
 rw [if_neg ft_] at H
 by_cases c2 : a0.size + 1 ≤ 9223372036854775807
 case neg =>
  rw [if_neg c2] at H
  exact absurd H bxka_
 rw [if_pos c2] at H
 obtain ⟨c2b0, c2b1, c2b2⟩ := nl3_ c2
 obtain ⟨t2, A2, H⟩ := o1_ H
 obtain ⟨t3, A4, H⟩ := o1_ H
 by_cases c3 : (a0 ++ (⟨#[35]⟩ : ByteArray)).size + t3.size ≤ 9223372036854775807
 case neg =>
  rw [if_neg c3] at H
  exact absurd H bxka_
 rw [if_pos c3] at H
 obtain ⟨c3b0, c3b1, c3b2⟩ := nl3_ c3
 try (have c3b3 : (9223372036854775807 < (a0 ++ (⟨#[35]⟩ : ByteArray)).size + t3.size) = False := eq_false (Nat.not_lt.2 c3); simp only [ByteArray.size_append, show (⟨#[35]⟩ : ByteArray).size = 1 from rfl] at c3b3)
 by_cases c4 : (((a0 ++ (⟨#[35]⟩ : ByteArray)) ++ t3).size : Int) > 4000
 ·rw [if_pos c4] at H
  have c4b0 : decide (4000 < (((a0 ++ (⟨#[35]⟩ : ByteArray)) ++ t3).size : Int)) = true := dt_ c4
  try (have c4b3 : decide (4000 < (((a0 ++ (⟨#[35]⟩ : ByteArray)) ++ t3).size : Int)) = true := dt_ c4; simp only [ByteArray.size_append, Int.natCast_add, show (((⟨#[35]⟩ : ByteArray).size : Nat) : Int) = 1 from rfl] at c4b3)
  have c4b1 : decide (4000 < ((a0 ++ (⟨#[35]⟩ : ByteArray)) ++ t3).size) = true := dt_ bh19_
  clear c4
  simp only [sj_, pj_] at H
  obtain ⟨rfl, rfl⟩ := H
  go_wp2_with (first | ((with_reducible refine gc_ (f := 76) rfl ?_); refine gl_ 15 Tryz.func76 #[.string a0] ?_; (with_reducible refine (impl_checksum.calls kj1 a0 t2 _ A2.out).mono ?_); rintro e w' ⟨rfl, ⟨nd, rfl⟩⟩; refine ⟨_, rfl, ?_⟩) | ((with_reducible refine gc_ (f := 59) rfl ?_); refine gl_ 16 Tryz.func59 #[.int .i64 t2] ?_; (with_reducible refine (strconv_Itoa.calls t2 t3 _ bscn_ A4.out).mono ?_); rintro e w1 ⟨rfl, hb⟩; refine ⟨_, rfl, ?_⟩; replace HB := hb_ hb brt4_; (try clear hb)))
  go_ret2
  exact ⟨bnwh_, brt4_⟩
 rw [if_neg c4] at H
 have c4b0 : decide (4000 < (((a0 ++ (⟨#[35]⟩ : ByteArray)) ++ t3).size : Int)) = false := decide_eq_false c4
 try (have c4b3 : decide (4000 < (((a0 ++ (⟨#[35]⟩ : ByteArray)) ++ t3).size : Int)) = false := decide_eq_false c4; simp only [ByteArray.size_append, Int.natCast_add, show (((⟨#[35]⟩ : ByteArray).size : Nat) : Int) = 1 from rfl] at c4b3)
 have c4b1 : decide (4000 < ((a0 ++ (⟨#[35]⟩ : ByteArray)) ++ t3).size) = false := decide_eq_false bh19_
 clear c4
 simp only [sj_, pj_] at H
 obtain ⟨rfl, rfl⟩ := H
 go_wp2_with (first | ((with_reducible refine gc_ (f := 76) rfl ?_); refine gl_ 15 Tryz.func76 #[.string a0] ?_; (with_reducible refine (impl_checksum.calls kj1 a0 t2 _ A2.out).mono ?_); rintro e w' ⟨rfl, ⟨nd, rfl⟩⟩; refine ⟨_, rfl, ?_⟩) | ((with_reducible refine gc_ (f := 59) rfl ?_); refine gl_ 16 Tryz.func59 #[.int .i64 t2] ?_; (with_reducible refine (strconv_Itoa.calls t2 t3 _ bscn_ A4.out).mono ?_); rintro e w1 ⟨rfl, hb⟩; refine ⟨_, rfl, ?_⟩; replace HB := hb_ hb brt4_; (try clear hb)))
 go_ret2
 exact ⟨bnwh_, brt4_⟩

def impl_VerifyChecksum.f (k : Nat) (a0 : ByteArray) : Option (ByteArray × Bool) := (strings_Cut.f a0 (⟨#[35]⟩ : ByteArray)).bind fun bt269 => ((impl_AppendChecksum.f k bt269.1).bind fun bt272 => (if bt272.2 = true then (if bt272.1.toList = a0.toList then (some (bt269.1, true)) else (some ((⟨#[]⟩ : ByteArray), false))) else (some ((⟨#[]⟩ : ByteArray), false))))
theorem impl_VerifyChecksum.mono : ∀ a0 k, LeO (impl_VerifyChecksum.f k a0) (impl_VerifyChecksum.f (k + 1) a0) := by
 intro a0 k
 unfold impl_VerifyChecksum.f
 repeat' with_reducible first | exact impl_AppendChecksum.mono .. | exact LeO.refl .. | exact LeO.none .. | refine LeO.ite ?_ ?_ | refine LeO.bind ?_ (fun _ => ?_)
theorem impl_VerifyChecksum.calls (k : Nat) (a0 : ByteArray) (r1 : ByteArray) (r2 : Bool) (w : World) (hG : TabOK w) (h : impl_VerifyChecksum.f k a0 = some (r1, r2)) :
  Calls Tryz.prog 46 #[.string a0] w fun e w' => e = .returned (.tuple #[.string r1, .bool r2]) ∧ Below w.heap.size w w' := by
 have HG0 := A0_ hG
 clear hG
 have HB := A0_ (Below.refl w.heap.size w)
 have H : ((strings_Cut.f a0 (⟨#[35]⟩ : ByteArray)).bind fun bt1 => ((impl_AppendChecksum.f k bt1.1).bind fun bt2 => (if bt2.2 = true then (if bt2.1.toList = a0.toList then (some (bt1.1, true)) else (some ((⟨#[]⟩ : ByteArray), false))) else (some ((⟨#[]⟩ : ByteArray), false))))) = some (r1, r2) := h
 clear h
 obtain ⟨⟨t1, t2, t3⟩, A2, H⟩ := o1_ H
 obtain ⟨⟨t4, t5⟩, A4, H⟩ := o1_ H
 by_cases c1 : t5 = true
 case neg =>
  obtain rfl := bf_.mpr c1
  rw [if_neg ft_] at H
  simp only [sj_, pj_] at H
  obtain ⟨rfl, rfl⟩ := H
  go_enter Tryz.func46, Tryz.ntmps46
  go_wp2_with (first | ((with_reducible refine gc_ (f := 45) rfl ?_); refine gl_ 11 Tryz.func45 #[.string a0, .string (⟨#[35]⟩ : ByteArray)] ?_; (with_reducible refine (strings_Cut.calls a0 (⟨#[35]⟩ : ByteArray) t1 t2 t3 _ A2.out).mono ?_); rintro e w' ⟨rfl, ⟨nd, rfl⟩⟩; refine ⟨_, rfl, ?_⟩) | ((with_reducible refine gc_ (f := 57) rfl ?_); refine gl_ 17 Tryz.func57 #[.string t1] ?_; (with_reducible refine (impl_AppendChecksum.calls k t1 t4 false _ bscn_ A4.out).mono ?_); rintro e w1 ⟨rfl, hb⟩; refine ⟨_, rfl, ?_⟩; replace HB := hb_ hb brt4_; (try clear hb)))
  go_ret2
  exact ⟨bnwh_, brt4_⟩
 subst c1
 rw [if_pos rfl] at H
 by_cases c2 : t4.toList = a0.toList
 case neg =>
  rw [if_neg c2] at H
  obtain ⟨c2b0, c2b1⟩ := ef_ c2
  simp only [sj_, pj_] at H
  obtain ⟨rfl, rfl⟩ := H
  go_enter Tryz.func46, Tryz.ntmps46
  go_wp2_with (first | ((with_reducible refine gc_ (f := 45) rfl ?_); refine gl_ 11 Tryz.func45 #[.string a0, .string (⟨#[35]⟩ : ByteArray)] ?_; (with_reducible refine (strings_Cut.calls a0 (⟨#[35]⟩ : ByteArray) t1 t2 t3 _ A2.out).mono ?_); rintro e w' ⟨rfl, ⟨nd, rfl⟩⟩; refine ⟨_, rfl, ?_⟩) | ((with_reducible refine gc_ (f := 57) rfl ?_); refine gl_ 17 Tryz.func57 #[.string t1] ?_; (with_reducible refine (impl_AppendChecksum.calls k t1 t4 true _ bscn_ A4.out).mono ?_); rintro e w1 ⟨rfl, hb⟩; refine ⟨_, rfl, ?_⟩; replace HB := hb_ hb brt4_; (try clear hb)))
  go_ret2
  exact ⟨bnwh_, brt4_⟩
 rw [if_pos c2] at H
 obtain ⟨c2b0, c2b1⟩ := et_ c2
 clear c2
 simp only [sj_, pj_] at H
 obtain ⟨rfl, rfl⟩ := H
 go_enter Tryz.func46, Tryz.ntmps46
 go_wp2_with (first | ((with_reducible refine gc_ (f := 45) rfl ?_); refine gl_ 11 Tryz.func45 #[.string a0, .string (⟨#[35]⟩ : ByteArray)] ?_; (with_reducible refine (strings_Cut.calls a0 (⟨#[35]⟩ : ByteArray) t1 t2 t3 _ A2.out).mono ?_); rintro e w' ⟨rfl, ⟨nd, rfl⟩⟩; refine ⟨_, rfl, ?_⟩) | ((with_reducible refine gc_ (f := 57) rfl ?_); refine gl_ 17 Tryz.func57 #[.string t1] ?_; (with_reducible refine (impl_AppendChecksum.calls k t1 t4 true _ bscn_ A4.out).mono ?_); rintro e w1 ⟨rfl, hb⟩; refine ⟨_, rfl, ?_⟩; replace HB := hb_ hb brt4_; (try clear hb)))
 go_ret2
 exact ⟨bnwh_, brt4_⟩

def lays150_ren : Go.Shelf.Ren where
 f := fun x => match x with
  | 150 => 92
  | 153 => 97
  | 152 => 102
  | 226 => 103
  | 227 => 104
  | 228 => 105
  | 137 => 110
  | 119 => 111
  | 224 => 89
  | 225 => 88
  | 217 => 87
  | 266 => 95
  | n => n
 t := fun x => match x with
  | 9 => 9
  | 4 => 4
  | 3 => 3
  | 5 => 5
  | 21 => 21
  | 117 => 136
  | 116 => 135
  | 0 => 0
  | 46 => 93
  | 124 => 143
  | n => n
 g := fun x => x
theorem lays150 : Lays.n150 Tryz.prog lays150_ren where
 mixed := by kernel_rfl
 f119 := Tryz.func111.trans bfqv_
 f137 := Tryz.func110.trans bfqv_
 f150 := Tryz.func92.trans bfqv_
 f152 := Tryz.func102.trans bfqv_
 f153 := Tryz.func97.trans bfqv_
 f217 := Tryz.func87.trans bfqv_
 f224 := Tryz.func89.trans bfqv_
 f225 := Tryz.func88.trans bfqv_
 f226 := Tryz.func103.trans bfqv_
 f227 := Tryz.func104.trans bfqv_
 f228 := Tryz.func105.trans bfqv_
 f266 := Tryz.func95.trans bfqv_
 t0 := Tryz.underlying0
 a0 := Tryz.isAgg0
 z0 := Tryz.sizeOf0
 v0 := Tryz.zeroValue0
 t3 := Tryz.underlying3
 a3 := Tryz.isAgg3
 z3 := Tryz.sizeOf3
 v3 := Tryz.zeroValue3
 t4 := Tryz.underlying4
 a4 := Tryz.isAgg4
 z4 := Tryz.sizeOf4
 v4 := Tryz.zeroValue4
 t5 := Tryz.underlying5
 a5 := Tryz.isAgg5
 z5 := Tryz.sizeOf5
 v5 := Tryz.zeroValue5
 t9 := Tryz.underlying9
 a9 := Tryz.isAgg9
 z9 := Tryz.sizeOf9
 v9 := Tryz.zeroValue9
 t21 := Tryz.underlying21
 a21 := Tryz.isAgg21
 z21 := Tryz.sizeOf21
 v21 := Tryz.zeroValue21
 t46 := Tryz.underlying93
 a46 := Tryz.isAgg93
 z46 := Tryz.sizeOf93
 v46 := Tryz.zeroValue93
 t116 := Tryz.underlying135
 a116 := Tryz.isAgg135
 z116 := Tryz.sizeOf135
 t117 := Tryz.underlying136
 a117 := Tryz.isAgg136
 z117 := Tryz.sizeOf136
 v117 := Tryz.zeroValue136
 t124 := Tryz.underlying143
 a124 := Tryz.isAgg143
 z124 := Tryz.sizeOf143
 v124 := Tryz.zeroValue143
theorem set150 : (Tryz.prog.info? (lays150_ren.t 116)).map (fun i => (i.zero, i.size)) = some (some (.agg (Array.replicate 256 (.bool false))), 256) := by kernel_rfl
/-- Whether some byte of the second text stands in the first one: told for ASCII texts alone. -/
def strings_ContainsAny.f (a0 : ByteArray) (a1 : ByteArray) : Option (Bool) := if a0.size < 4294967281 ∧ a1.size < 4294967281 ∧ (a0.data.toList.all fun b => decide (b.toNat < 128)) = true ∧ (a1.data.toList.all fun b => decide (b.toNat < 128)) = true then some (Lib.containsAny a0.data.toList a1.data.toList) else none
theorem strings_ContainsAny.calls (a0 : ByteArray) (a1 : ByteArray) (r : Bool) (w : World) (h : strings_ContainsAny.f a0 a1 = some r) :
  Calls Tryz.prog 92 #[.string a0, .string a1] w fun e w' => e = .returned (.bool r) ∧ Below w.heap.size w w' := by
 unfold strings_ContainsAny.f at h
 split at h
 case isFalse => cases h
 rename_i hc
 have ascii : ∀ l : List UInt8, (l.all fun b => decide (b.toNat < 128)) = true → ∀ (j : Nat) (b : UInt8), l[j]? = some b → b.toNat < 128 := fun l hl j b hb => od_ (List.all_eq_true.1 hl b (List.mem_of_getElem? hb))
 have e := si_ h
 subst e
 exact Any.strings_ContainsAny_laid lays150 set150 a0 a1 w hc.1 hc.2.1 (ascii _ hc.2.2.1) (ascii _ hc.2.2.2)


def impl_isPlain.l0 : Nat → ByteArray → Int → ByteArray → Int → Int → Option (Bool)
 | 0, _, _, _, _, _ => none
 | k + 1, x0, x1, x2, x9, x10 => if x10 < x9 then (if 0 ≤ x10 then (if x10 < (x0.size : Int) then (if (bt x0 x10) < 32 then (some false) else (if (bt x0 x10) > 126 then (some false) else (impl_isPlain.l0 k x0 x1 x2 x9 (wrap64 (x10 + 1))))) else (none)) else (none)) else (if (x0.size : Int) ≤ x1 then ((strings_ContainsAny.f x0 x2).bind fun t274 => (some (!t274))) else (some false))
def impl_isPlain.f (k : Nat) (a0 : ByteArray) (a1 : Int) (a2 : ByteArray) : Option (Bool) := impl_isPlain.l0 k a0 a1 a2 (a0.size : Int) 0
theorem impl_isPlain.mono_l : ∀ k, (∀ y0 y1 y2 y3 y4, LeO (impl_isPlain.l0 k y0 y1 y2 y3 y4) (impl_isPlain.l0 (k + 1) y0 y1 y2 y3 y4))
 | 0 => fun _ _ _ _ _ r h => by simp [impl_isPlain.l0] at h
 | k + 1 => by
  have ih0 := impl_isPlain.mono_l k
  ·intro y0 y1 y2 y3 y4
   unfold impl_isPlain.l0
   repeat' with_reducible first | exact ih0 .. | exact LeO.refl .. | exact LeO.none .. | refine LeO.ite ?_ ?_ | refine LeO.bind ?_ (fun _ => ?_)
theorem impl_isPlain.mono : ∀ a0 a1 a2 k, LeO (impl_isPlain.f k a0 a1 a2) (impl_isPlain.f (k + 1) a0 a1 a2) := by
 intro a0 a1 a2 k
 have ih0 := impl_isPlain.mono_l k
 unfold impl_isPlain.f
 repeat' with_reducible first | exact ih0 .. | exact LeO.refl .. | exact LeO.none .. | refine LeO.ite ?_ ?_ | refine LeO.bind ?_ (fun _ => ?_)
theorem impl_isPlain.calls (k : Nat) (a0 : ByteArray) (a1 : Int) (a2 : ByteArray) (r : Bool) (w : World) (h : impl_isPlain.f k a0 a1 a2 = some r) :
  Calls Tryz.prog 78 #[.string a0, .int .i64 a1, .string a2] w fun e w' => e = .returned (.bool r) ∧ Below w.heap.size w w' := by
 have HB := A0_ (Below.refl w.heap.size w)
 have H : (impl_isPlain.l0 k a0 a1 a2 (a0.size : Int) 0) = some r := h
 clear h
 have H' := A0_ H
 clear H
 go_enter Tryz.func78, Tryz.ntmps78
 go_wp2
 go_loopg [10] k (fun kq v1 w' => ∃ (x10_1 : Int), v1 = .int .i64 x10_1 ∧ Aside0 (impl_isPlain.l0 kq a0 a1 a2 (a0.size : Int) x10_1 = some r) ∧ Aside0 (kq ≤ k) ∧ Aside0 (Below w.heap.size w w'))
 case atStart => exact ⟨(0), b2ew_, H', ⟨Nat.le_refl _⟩, ⟨brt4_⟩⟩
 clear H'
 obtain ⟨x10_1, rfl, HA, HK1, HB⟩ := hrel
 cases gk with | zero => exact absurd HA.out (by simp [impl_isPlain.l0]) | succ k1 => ?_
 have H := HA.out
 clear HA
 simp only [impl_isPlain.l0] at H
 by_cases c1 : x10_1 < (a0.size : Int)
 case neg =>
  rw [if_neg c1] at H
  have c1b0 : decide (x10_1 < (a0.size : Int)) = false := decide_eq_false c1
  clear c1
  by_cases c2 : (a0.size : Int) ≤ a1
  case neg =>
   rw [if_neg c2] at H
   have c2b0 : decide ((a0.size : Int) ≤ a1) = false := decide_eq_false c2
   clear c2
   obtain rfl := si_ H
   go_wp2
   go_ret
   exact ⟨bnwh_, brt4_⟩
  rw [if_pos c2] at H
  have c2b0 : decide ((a0.size : Int) ≤ a1) = true := dt_ c2
  clear c2
  obtain ⟨t1, A2, H⟩ := o1_ H
  replace H : (some (!t1)) = some r := H
  obtain rfl := si_ H
  go_wp2_with (first | (go_at_call 92; (with_reducible refine (strings_ContainsAny.calls a0 a2 t1 _ A2.out).mono ?_); rintro e w1 ⟨rfl, hb⟩; replace HB := hb_ hb brt4_; (try clear hb)))
  go_ret
  exact ⟨bnwh_, brt4_⟩
 rw [if_pos c1] at H
 have c1b0 : decide (x10_1 < (a0.size : Int)) = true := dt_ c1
 clear c1
 by_cases c2 : 0 ≤ x10_1
 case neg =>
  rw [if_neg c2] at H
  exact absurd H bxka_
 rw [if_pos c2] at H
 have c2b0 : decide (0 ≤ x10_1) = true := dt_ c2
 clear c2
 by_cases c3 : x10_1 < (a0.size : Int)
 case neg =>
  rw [if_neg c3] at H
  exact absurd H bxka_
 rw [if_pos c3] at H
 have c3b0 : decide (x10_1 < (a0.size : Int)) = true := dt_ c3
 clear c3
 by_cases c4 : (bt a0 x10_1) < 32
 ·rw [if_pos c4] at H
  have c4b0 : decide ((bt a0 x10_1) < 32) = true := dt_ c4
  clear c4
  obtain rfl := si_ H
  have p1 : 0 ≤ (x10_1 : Int) := od_ bpil_
  have q1 : x10_1 < (a0.size : Int) := od_ bpil_
  have hx1 := bt_at a0 x10_1
  replace p1 := eq_true p1
  replace q1 := eq_true q1
  go_wp2
  go_ret
  exact ⟨bnwh_, brt4_⟩
 rw [if_neg c4] at H
 have c4b0 : decide ((bt a0 x10_1) < 32) = false := decide_eq_false c4
 clear c4
 by_cases c5 : (bt a0 x10_1) > 126
 ·rw [if_pos c5] at H
  have c5b0 : decide (126 < (bt a0 x10_1)) = true := dt_ c5
  clear c5
  obtain rfl := si_ H
  have p1 : 0 ≤ (x10_1 : Int) := od_ bpil_
  have q1 : x10_1 < (a0.size : Int) := od_ bpil_
  have hx1 := bt_at a0 x10_1
  replace p1 := eq_true p1
  replace q1 := eq_true q1
  have p2 : 0 ≤ (x10_1 : Int) := od_ bpil_
  have q2 : x10_1 < (a0.size : Int) := od_ bpil_
  have hx2 := bt_at a0 x10_1
  replace p2 := eq_true p2
  replace q2 := eq_true q2
  go_wp2
  go_ret
  exact ⟨bnwh_, brt4_⟩
 rw [if_neg c5] at H
 have c5b0 : decide (126 < (bt a0 x10_1)) = false := decide_eq_false c5
 clear c5
 have H' := A0_ H
 clear H
 have p1 : 0 ≤ (x10_1 : Int) := od_ bpil_
 have q1 : x10_1 < (a0.size : Int) := od_ bpil_
 have hx1 := bt_at a0 x10_1
 replace p1 := eq_true p1
 replace q1 := eq_true q1
 have p2 : 0 ≤ (x10_1 : Int) := od_ bpil_
 have q2 : x10_1 < (a0.size : Int) := od_ bpil_
 have hx2 := bt_at a0 x10_1
 replace p2 := eq_true p2
 replace q2 := eq_true q2
 go_wp2
 go_roundg k1
 case measure => have := HK1.out; omega
 exact ⟨(wrap64 (x10_1 + 1)), b2ew_, H', ⟨bxjq_⟩, ⟨brt4_⟩⟩

def impl_isCommand.f (k : Nat) (a0 : ByteArray) : Option (Bool) := if a0.toList = ([] : List UInt8) then (some false) else ((impl_isPlain.f k a0 160 (⟨#[35, 64]⟩ : ByteArray)).bind fun t275 => (some t275))
theorem impl_isCommand.mono : ∀ a0 k, LeO (impl_isCommand.f k a0) (impl_isCommand.f (k + 1) a0) := by
 intro a0 k
 unfold impl_isCommand.f
 repeat' with_reducible first | exact impl_isPlain.mono .. | exact LeO.refl .. | exact LeO.none .. | refine LeO.ite ?_ ?_ | refine LeO.bind ?_ (fun _ => ?_)
theorem impl_isCommand.calls (k : Nat) (a0 : ByteArray) (r : Bool) (w : World) (h : impl_isCommand.f k a0 = some r) :
  Calls Tryz.prog 77 #[.string a0] w fun e w' => e = .returned (.bool r) ∧ Below w.heap.size w w' := by
 have HB := A0_ (Below.refl w.heap.size w)
 have H : (if a0.toList = ([] : List UInt8) then (some false) else ((impl_isPlain.f k a0 160 (⟨#[35, 64]⟩ : ByteArray)).bind fun t1 => (some t1))) = some r := h
 clear h
 by_cases c1 : a0.toList = ([] : List UInt8)
 ·rw [if_pos c1] at H
  obtain ⟨c1b0, c1b1⟩ := et_ c1
  clear c1
  obtain rfl := si_ H
  go_enter Tryz.func77, Tryz.ntmps77
  go_wp2
  go_ret
  exact ⟨bnwh_, brt4_⟩
 rw [if_neg c1] at H
 obtain ⟨c1b0, c1b1⟩ := ef_ c1
 obtain ⟨t1, A2, H⟩ := o1_ H
 replace H : (some t1) = some r := H
 obtain rfl := si_ H
 go_enter Tryz.func77, Tryz.ntmps77
 go_wp2_with (first | (go_at_call 78; (with_reducible refine (impl_isPlain.calls k a0 160 (⟨#[35, 64]⟩ : ByteArray) t1 _ A2.out).mono ?_); rintro e w1 ⟨rfl, hb⟩; replace HB := hb_ hb brt4_; (try clear hb)))
 go_ret
 exact ⟨bnwh_, brt4_⟩

def impl_IsValidRecord.f (k : Nat) (a0_0 : ByteArray) (a0_1 : ByteArray) : Option (Bool) := (impl_isCommand.f k a0_0).bind fun t277 => (if t277 = true then ((impl_isPlain.f k a0_1 250 (⟨#[35]⟩ : ByteArray)).bind fun t278 => (some t278)) else (some false))
theorem impl_IsValidRecord.mono : ∀ a0 a1 k, LeO (impl_IsValidRecord.f k a0 a1) (impl_IsValidRecord.f (k + 1) a0 a1) := by
 intro a0 a1 k
 unfold impl_IsValidRecord.f
 repeat' with_reducible first | exact impl_isCommand.mono .. | exact impl_isPlain.mono .. | exact LeO.refl .. | exact LeO.none .. | refine LeO.ite ?_ ?_ | refine LeO.bind ?_ (fun _ => ?_)
theorem impl_IsValidRecord.calls (k : Nat) (a0_0 : ByteArray) (a0_1 : ByteArray) (r : Bool) (w : World) (h : impl_IsValidRecord.f k a0_0 a0_1 = some r) :
  Calls Tryz.prog 58 #[.agg #[.string a0_0, .string a0_1]] w fun e w' => e = .returned (.bool r) ∧ Below w.heap.size w w' := by
 have hu72 := Tryz.underlying72
 have HB := A0_ (Below.refl w.heap.size w)
 have H : ((impl_isCommand.f k a0_0).bind fun t1 => (if t1 = true then ((impl_isPlain.f k a0_1 250 (⟨#[35]⟩ : ByteArray)).bind fun t2 => (some t2)) else (some false))) = some r := h
 clear h
 obtain ⟨t1, A2, H⟩ := o1_ H
 by_cases c1 : t1 = true
 case neg =>
  obtain rfl := bf_.mpr c1
  rw [if_neg ft_] at H
  obtain rfl := si_ H
  go_enter Tryz.func58, Tryz.ntmps58
  go_wp2_with (first | ((with_reducible refine gd_ (N := 1) rfl ?_); refine bx_ 1 #[.string a0_0, .string a0_1] 72 ?_; intro gb1 hg w1 BK1 hb; have GW1 := ge_ hg brt4_; have GE1 := GW1; replace HB := hb_ hb brt4_; clear hb hg; have hcz1 := c2_ BK1) | ((with_reducible refine gc_ (f := 77) rfl ?_); refine gl_ 5 Tryz.func77 #[.string a0_0] ?_; (with_reducible refine (impl_isCommand.calls k a0_0 false _ A2.out).mono ?_); rintro e w2 ⟨rfl, hb⟩; refine ⟨_, rfl, ?_⟩; replace BK1 := k1_ BK1 hb; replace HB := hb_ hb be6g_; (try clear hb)))
  go_ret
  exact ⟨bnwh_, be6g_⟩
 subst c1
 rw [if_pos rfl] at H
 obtain ⟨t2, A4, H⟩ := o1_ H
 replace H : (some t2) = some r := H
 obtain rfl := si_ H
 go_enter Tryz.func58, Tryz.ntmps58
 go_wp2_with (first | ((with_reducible refine gd_ (N := 1) rfl ?_); refine bx_ 1 #[.string a0_0, .string a0_1] 72 ?_; intro gb1 hg w1 BK1 hb; have GW1 := ge_ hg brt4_; have GE1 := GW1; replace HB := hb_ hb brt4_; clear hb hg; have hcz1 := c2_ BK1) | ((with_reducible refine gc_ (f := 77) rfl ?_); refine gl_ 5 Tryz.func77 #[.string a0_0] ?_; (with_reducible refine (impl_isCommand.calls k a0_0 true _ A2.out).mono ?_); rintro e w2 ⟨rfl, hb⟩; refine ⟨_, rfl, ?_⟩; replace BK1 := k1_ BK1 hb; replace HB := hb_ hb be6g_; (try clear hb); have hcz2 := c2_ BK1) | (go_at_call 78; (with_reducible refine (impl_isPlain.calls k a0_1 250 (⟨#[35]⟩ : ByteArray) t2 _ A4.out).mono ?_); rintro e w3 ⟨rfl, hb⟩; replace BK1 := k1_ BK1 hb; replace HB := hb_ hb be6g_; (try clear hb)))
 go_ret
 exact ⟨bnwh_, be6g_⟩

def impl_EncodeRecord.j0 : Nat → Int → Bool → ByteArray → ByteArray → Option (ByteArray × Bool)
 | 0, _, _, _, _ => none
 | k + 1, x0, x15, x280000, x280001 => if x15 = true then (some ((⟨#[]⟩ : ByteArray), false)) else ((strconv_Itoa.f x0).bind fun t282 => (if t282.size + 1 ≤ 9223372036854775807 then (if (t282 ++ (⟨#[32]⟩ : ByteArray)).size + x280000.size ≤ 9223372036854775807 then (if ((t282 ++ (⟨#[32]⟩ : ByteArray)) ++ x280000).size + 1 ≤ 9223372036854775807 then (if (((t282 ++ (⟨#[32]⟩ : ByteArray)) ++ x280000) ++ (⟨#[64]⟩ : ByteArray)).size + x280001.size ≤ 9223372036854775807 then ((impl_AppendChecksum.f k ((((t282 ++ (⟨#[32]⟩ : ByteArray)) ++ x280000) ++ (⟨#[64]⟩ : ByteArray)) ++ x280001)).bind fun bt283 => (if bt283.1.size + 1 ≤ 9223372036854775807 then (some (bt283.1 ++ (⟨#[10]⟩ : ByteArray), true)) else (none))) else (none)) else (none)) else (none)) else (none)))
def impl_EncodeRecord.f (k : Nat) (a0 : Int) (a1_0 : ByteArray) (a1_1 : ByteArray) : Option (ByteArray × Bool) := (impl_within.f a0 0 59).bind fun t280 => (if t280 = true then ((impl_IsValidRecord.f k a1_0 a1_1).bind fun t281 => (impl_EncodeRecord.j0 k a0 (!t281) a1_0 a1_1)) else (impl_EncodeRecord.j0 k a0 true a1_0 a1_1))
theorem impl_EncodeRecord.mono_l : ∀ k, (∀ y0 y1 y2 y3, LeO (impl_EncodeRecord.j0 k y0 y1 y2 y3) (impl_EncodeRecord.j0 (k + 1) y0 y1 y2 y3))
 | 0 => fun _ _ _ _ r h => by simp [impl_EncodeRecord.j0] at h
 | k + 1 => by
  have ih0 := impl_EncodeRecord.mono_l k
  ·intro y0 y1 y2 y3
   unfold impl_EncodeRecord.j0
   repeat' with_reducible first | exact ih0 .. | exact impl_AppendChecksum.mono .. | exact impl_IsValidRecord.mono .. | exact LeO.refl .. | exact LeO.none .. | refine LeO.ite ?_ ?_ | refine LeO.bind ?_ (fun _ => ?_)
theorem impl_EncodeRecord.mono : ∀ a0 a1 a2 k, LeO (impl_EncodeRecord.f k a0 a1 a2) (impl_EncodeRecord.f (k + 1) a0 a1 a2) := by
 intro a0 a1 a2 k
 have ih0 := impl_EncodeRecord.mono_l k
 unfold impl_EncodeRecord.f
 repeat' with_reducible first | exact ih0 .. | exact impl_AppendChecksum.mono .. | exact impl_IsValidRecord.mono .. | exact LeO.refl .. | exact LeO.none .. | refine LeO.ite ?_ ?_ | refine LeO.bind ?_ (fun _ => ?_)
def impl_EncodeRecord.T3 : Bool × List (List Nat × List Nat) := (true, [([], []), ([0], [0]), ([1], [1]), ([], []), ([3], [3]), ([2, 4], [2, 4]), ([5], [5]), ([], []), ([7], [7]), ([6, 8], [6, 8]), ([9, 1], [9]), ([10], [10]), ([11], [11]), ([11], [11]), ([12, 10, 0, 1, 2, 3, 4, 5, 6, 7, 8, 9, 10, 11, 12], [12]), ([13, 14, 0, 1, 2, 3, 4, 5, 6, 7, 8, 9, 10, 11, 12, 13, 14], [13])])
def impl_EncodeRecord.B3 : List Nat := [0, 1, 3, 0, 8, 31, 63, 0, 128, 511, 1023, 2047, 4095, 4095, 8191, 32767]
theorem impl_EncodeRecord.tab3 : rtab .any (opsOf Tryz.f47 3) = impl_EncodeRecord.T3 := by kernel_rfl
theorem impl_EncodeRecord.bits3 : waitsOk impl_EncodeRecord.T3.2 impl_EncodeRecord.B3 = true := by kernel_rfl
theorem impl_EncodeRecord.calls (k : Nat) (a0 : Int) (a1_0 : ByteArray) (a1_1 : ByteArray) (r1 : ByteArray) (r2 : Bool) (w : World) (hG : TabOK w) (h : impl_EncodeRecord.f k a0 a1_0 a1_1 = some (r1, r2)) :
  Calls Tryz.prog 47 #[.int .i64 a0, .agg #[.string a1_0, .string a1_1]] w fun e w' => e = .returned (.tuple #[.string r1, .bool r2]) ∧ Below w.heap.size w w' := by
 have HG0 := A0_ hG
 clear hG
 have hu72 := Tryz.underlying72
 have HB := A0_ (Below.refl w.heap.size w)
 have H : ((impl_within.f a0 0 59).bind fun t1 => (if t1 = true then ((impl_IsValidRecord.f k a1_0 a1_1).bind fun t2 => (impl_EncodeRecord.j0 k a0 (!t2) a1_0 a1_1)) else (impl_EncodeRecord.j0 k a0 true a1_0 a1_1))) = some (r1, r2) := h
 clear h
 have HC3 := A0_ H
 clear H
 go_enter Tryz.func47, Tryz.ntmps47
 go_upto_region 1 with (first | ((with_reducible refine gd_ (N := 3) rfl ?_); refine bx_ 3 #[.string a1_0, .string a1_1] 72 ?_; intro gb1 hg w1 BK1 hb; have GW1 := ge_ hg brt4_; have GE1 := GW1; replace HB := hb_ hb brt4_; clear hb hg))
 (try simp only [Act.put, sa_, sz_, ss_])
 go_cut [15] (fun v1 wc => ∃ (kq : Nat) (x15_2 : Bool), v1 = .bool x15_2 ∧ Aside0 (impl_EncodeRecord.j0 kq a0 x15_2 a1_0 a1_1 = some (r1, r2)) ∧ Aside0 (kq ≤ k) ∧ Aside0 (wc.heap[gb1]? = some (.cells #[.string a1_0, .string a1_1] 72 (0, 0))) ∧ Aside0 (Below w.heap.size w wc))
 case first =>
  have H := HC3.out
  clear HC3
  obtain ⟨t1, A2, H⟩ := o1_ H
  by_cases c1 : t1 = true
  case neg =>
   obtain rfl := bf_.mpr c1
   rw [if_neg ft_] at H
   have H' := A0_ H
   clear H
   go_wp2_with (first | ((with_reducible refine gc_ (f := 31) rfl ?_); refine gl_ 9 Tryz.func31 #[.int .i64 a0, .int .i64 0, .int .i64 59] ?_; (with_reducible refine (impl_within.calls a0 0 59 false _ A2.out).mono ?_); rintro e w' ⟨rfl, ⟨nd, rfl⟩⟩; refine ⟨_, rfl, ?_⟩))
   go_meet
   exact ⟨_, (true), b2ew_, H', ⟨bbn0_⟩, ⟨u1_ BK1⟩, ⟨be6g_⟩⟩
  subst c1
  rw [if_pos rfl] at H
  obtain ⟨t2, A4, H⟩ := o1_ H
  have H' := A0_ H
  clear H
  go_wp2_with (first | ((with_reducible refine gc_ (f := 31) rfl ?_); refine gl_ 9 Tryz.func31 #[.int .i64 a0, .int .i64 0, .int .i64 59] ?_; (with_reducible refine (impl_within.calls a0 0 59 true _ A2.out).mono ?_); rintro e w' ⟨rfl, ⟨nd, rfl⟩⟩; refine ⟨_, rfl, ?_⟩; have hcz1 := c2_ BK1) | (go_at_call 58; (with_reducible refine (impl_IsValidRecord.calls k a1_0 a1_1 t2 _ A4.out).mono ?_); rintro e w2 ⟨rfl, hb⟩; replace BK1 := k1_ BK1 hb; replace HB := hb_ hb be6g_; (try clear hb)))
  go_meet
  exact ⟨_, (!t2), b2ew_, H', ⟨bbn0_⟩, ⟨u1_ BK1⟩, ⟨be6g_⟩⟩
 clear HC3
 obtain ⟨kq, x15_2, rfl, HA, HJ1, BK1, HB⟩ := hcut
 cases kq with | zero => exact absurd HA.out (by simp [impl_EncodeRecord.j0]) | succ kj1 => ?_
 have H := HA.out
 clear HA
 simp only [impl_EncodeRecord.j0] at H
 by_cases c1 : x15_2 = true
 ·subst c1
  rw [if_pos rfl] at H
  simp only [sj_, pj_] at H
  obtain ⟨rfl, rfl⟩ := H
  go_wp2
  go_ret2
  exact ⟨bnwh_, be6g_⟩
 obtain rfl := bf_.mpr c1
 rw [if_neg ft_] at H
 obtain ⟨t3, A2, H⟩ := o1_ H
 by_cases c2 : t3.size + 1 ≤ 9223372036854775807
 case neg =>
  rw [if_neg c2] at H
  exact absurd H bxka_
 rw [if_pos c2] at H
 obtain ⟨c2b0, c2b1, c2b2⟩ := nl3_ c2
 by_cases c3 : (t3 ++ (⟨#[32]⟩ : ByteArray)).size + a1_0.size ≤ 9223372036854775807
 case neg =>
  rw [if_neg c3] at H
  exact absurd H bxka_
 rw [if_pos c3] at H
 obtain ⟨c3b0, c3b1, c3b2⟩ := nl3_ c3
 try (have c3b3 : (9223372036854775807 < (t3 ++ (⟨#[32]⟩ : ByteArray)).size + a1_0.size) = False := eq_false (Nat.not_lt.2 c3); simp only [ByteArray.size_append, show (⟨#[32]⟩ : ByteArray).size = 1 from rfl] at c3b3)
 by_cases c4 : ((t3 ++ (⟨#[32]⟩ : ByteArray)) ++ a1_0).size + 1 ≤ 9223372036854775807
 case neg =>
  rw [if_neg c4] at H
  exact absurd H bxka_
 rw [if_pos c4] at H
 obtain ⟨c4b0, c4b1, c4b2⟩ := nl3_ c4
 try (have c4b3 : (9223372036854775807 < ((t3 ++ (⟨#[32]⟩ : ByteArray)) ++ a1_0).size + 1) = False := eq_false (Nat.not_lt.2 c4); simp only [ByteArray.size_append, show (⟨#[32]⟩ : ByteArray).size = 1 from rfl] at c4b3)
 by_cases c5 : (((t3 ++ (⟨#[32]⟩ : ByteArray)) ++ a1_0) ++ (⟨#[64]⟩ : ByteArray)).size + a1_1.size ≤ 9223372036854775807
 case neg =>
  rw [if_neg c5] at H
  exact absurd H bxka_
 rw [if_pos c5] at H
 obtain ⟨c5b0, c5b1, c5b2⟩ := nl3_ c5
 try (have c5b3 : (9223372036854775807 < (((t3 ++ (⟨#[32]⟩ : ByteArray)) ++ a1_0) ++ (⟨#[64]⟩ : ByteArray)).size + a1_1.size) = False := eq_false (Nat.not_lt.2 c5); simp only [ByteArray.size_append, show (⟨#[32]⟩ : ByteArray).size = 1 from rfl, show (⟨#[64]⟩ : ByteArray).size = 1 from rfl] at c5b3)
 obtain ⟨⟨t4, t5⟩, A4, H⟩ := o1_ H
 by_cases c6 : t4.size + 1 ≤ 9223372036854775807
 case neg =>
  rw [if_neg c6] at H
  exact absurd H bxka_
 rw [if_pos c6] at H
 obtain ⟨c6b0, c6b1, c6b2⟩ := nl3_ c6
 simp only [sj_, pj_] at H
 obtain ⟨rfl, rfl⟩ := H
 try go_wp2
 replace BK1 := A0_ (kd_ BK1.out)
 replace HB := A0_ (bd_ HB.out)
 refine s2_ 16 [] BK1 impl_EncodeRecord.tab3 impl_EncodeRecord.bits3 (fun hHeld HT_ HW_ => ?_)
 generalize wc.drew = w2 at BK1 HB hHeld ⊢
 refine pu_ 0 17 ?_
 refine pu_ 3 20 ?_
 refine pu_ 7 24 ?_
 refine tk_ 4 21 hHeld ?_
 refine tk_ 8 25 hHeld ?_
 refine on_ 1 (some 18) (fun K hK => ?_)
 refine gs_ Tryz.func59 #[.int .i64 a0] ?_
 with_reducible refine (strconv_Itoa.calls a0 t3 _ bko1_ A2.out).mono ?_
 rintro e w3 ⟨rfl, hb⟩
 refine ⟨_, rfl, ?_⟩
 replace BK1 := k1_ BK1 hb
 replace HB := hb_ hb be6g_
 (try clear hb)
 refine hK.out _ _ (c2_ BK1) (fun hHeld => ?_)
 clear hK K
 refine nm_ 18 ?_
 refine pu_ 2 19 ?_
 refine pu_ 5 22 ?_
 refine pu_ 6 23 ?_
 refine pu_ 9 26 ?_
 refine on_ 10 (some 27) (fun K hK => ?_)
 refine gs_ Tryz.func57 #[.string ((((t3 ++ (⟨#[32]⟩ : ByteArray)) ++ a1_0) ++ (⟨#[64]⟩ : ByteArray)) ++ a1_1)] ?_
 with_reducible refine (impl_AppendChecksum.calls kj1 ((((t3 ++ (⟨#[32]⟩ : ByteArray)) ++ a1_0) ++ (⟨#[64]⟩ : ByteArray)) ++ a1_1) t4 t5 _ bko1_ A4.out).mono ?_
 rintro e w4 ⟨rfl, hb⟩
 refine ⟨_, rfl, ?_⟩
 replace BK1 := k1_ BK1 hb
 replace HB := hb_ hb be6g_
 (try clear hb)
 refine hK.out _ _ (c2_ BK1) (fun hHeld => ?_)
 clear hK K
 refine nm_ 27 ?_
 refine pu_ 11 16 ?_
 refine pu_ 12 28 ?_
 refine pu_ 13 29 ?_
 refine pu_ 14 6 ?_
 refine pu_ 15 7 ?_
 refine dn_ ?_
 try go_wp2
 go_ret2
 exact ⟨bnwh_, be6g_⟩

def impl_readRecords.l0 : Nat → ByteArray → List (S72) → List Int → Int → Option ((List (S72)) × List Int)
 | 0, _, _, _, _ => none
 | k + 1, x0, x4, x5, x6 => if (x4.length : Int) < 60 then (if 0 ≤ x6 then (if x6 ≤ (x0.size : Int) then ((strings_Cut.f (x0.extract (x6 : Int).toNat x0.size) (⟨#[10]⟩ : ByteArray)).bind fun bt291 => (if bt291.2.2 = true then ((impl_VerifyChecksum.f k bt291.1).bind fun bt294 => ((strings_Cut.f bt294.1 (⟨#[32]⟩ : ByteArray)).bind fun bt296 => ((strings_Cut.f bt296.2.1 (⟨#[64]⟩ : ByteArray)).bind fun bt299 => ((impl_EncodeRecord.f k (x4.length : Int) bt299.1 bt299.2.1).bind fun bt303 => (if bt303.2 = true then (if bt291.1.size + 1 ≤ 9223372036854775807 then (if bt303.1.toList = (bt291.1 ++ (⟨#[10]⟩ : ByteArray)).toList then (if x4.length < 4398046511104 then (if x5.length < 17592186044416 then (impl_readRecords.l0 k x0 (x4 ++ [(⟨bt299.1, bt299.2.1⟩ : S72)]) (x5 ++ [wrap64 (x6 + (wrap64 ((bt291.1.size : Int) + 1)))]) (wrap64 (x6 + (wrap64 ((bt291.1.size : Int) + 1))))) else (none)) else (none)) else (some (x4, x5))) else (none)) else (some (x4, x5))))))) else (some (x4, x5)))) else (none)) else (none)) else (some (x4, x5))
def impl_readRecords.f (k : Nat) (a0 : ByteArray) : Option ((List (S72)) × List Int) := impl_readRecords.l0 k a0 (([] : List (S72))) (([0] : List Int)) 0
theorem impl_readRecords.mono_l : ∀ k, (∀ y0 y1 y2 y3, LeO (impl_readRecords.l0 k y0 y1 y2 y3) (impl_readRecords.l0 (k + 1) y0 y1 y2 y3))
 | 0 => fun _ _ _ _ r h => by simp [impl_readRecords.l0] at h
 | k + 1 => by
  have ih0 := impl_readRecords.mono_l k
  ·intro y0 y1 y2 y3
   unfold impl_readRecords.l0
   repeat' with_reducible first | exact ih0 .. | exact impl_EncodeRecord.mono .. | exact impl_VerifyChecksum.mono .. | exact LeO.refl .. | exact LeO.none .. | refine LeO.ite ?_ ?_ | refine LeO.bind ?_ (fun _ => ?_)
theorem impl_readRecords.mono : ∀ a0 k, LeO (impl_readRecords.f k a0) (impl_readRecords.f (k + 1) a0) := by
 intro a0 k
 have ih0 := impl_readRecords.mono_l k
 unfold impl_readRecords.f
 repeat' with_reducible first | exact ih0 .. | exact impl_EncodeRecord.mono .. | exact impl_VerifyChecksum.mono .. | exact LeO.refl .. | exact LeO.none .. | refine LeO.ite ?_ ?_ | refine LeO.bind ?_ (fun _ => ?_)
theorem impl_readRecords.calls (k : Nat) (a0 : ByteArray) (r1 : List (S72)) (r2 : List Int) (w : World) (hG : TabOK w) (h : impl_readRecords.f k a0 = some (r1, r2)) :
  Calls Tryz.prog 32 #[.string a0] w fun e w' => ∃ v0_ v1_ : Value, e = .returned (.tuple #[v0_, v1_]) ∧ Kd.R k72 72 w' w.heap.size (fun _ => True) v0_ r1 ∧ Kd.R (Kd.int .i64) 3 w' w.heap.size (fun _ => True) v1_ r2 ∧ Below w.heap.size w w' := by
 have HG0 := A0_ hG
 clear hG
 have hu72 := Tryz.underlying72
 have HB := A0_ (Below.refl w.heap.size w)
 have H : (impl_readRecords.l0 k a0 (([] : List (S72))) (([0] : List Int)) 0) = some (r1, r2) := h
 clear h
 obtain ⟨y1, hy1⟩ : ∃ y_ : List (S72), y_ = (([] : List (S72))) := ⟨_, rfl⟩
 replace H : (impl_readRecords.l0 k a0 y1 (([0] : List Int)) 0) = some (r1, r2) := bgiq_
 have Ny1 := A0_ hy1
 clear hy1
 obtain ⟨y2, hy2⟩ : ∃ y_ : List Int, y_ = (([0] : List Int)) := ⟨_, rfl⟩
 replace H : (impl_readRecords.l0 k a0 y1 y2 0) = some (r1, r2) := bscs_
 have Ny2 := A0_ hy2
 clear hy2
 have H' := A0_ H
 clear H
 go_enter Tryz.func32, Tryz.ntmps32
 go_wp2_with (first | ((with_reducible refine gd_ (N := 18) rfl ?_); refine Kd.R_lit k72 _ 72 ?hg (N := 18) ?hd (xs := ([] : List (S72))) (inner := []) (ok := fun _ => True) (okp := fun _ => True) ?hr ?hp (fun _ hk => hk) trivial (Below.refl _ _) (Nat.le_refl _) bxka_ ?_; (case hd => rfl); (case hg => rfl); (case hr => go_simp; first | done | rfl); (case hp => exact (Reps.none _ _)); intro v2 w1 ho3 hb hg_ hnew_; clear hg_ hnew_; (first | rw [← Ny1.out] at ho3 | (simp only [Int.reduceToNat] at ho3; rw [← Ny1.out] at ho3)); have HO1 := A0_ (Kd.R_lower ho3 (bz_ brt4_)); replace HB := hb_ hb brt4_; clear hb ho3) | ((with_reducible refine gd_ (N := 19) rfl ?_); refine Kd.R_lit (Kd.int .i64) _ 3 ?hg (N := 19) ?hd (xs := ([0] : List Int)) (inner := [.int .i64 0]) (ok := fun _ => True) (okp := fun _ => True) ?hr ?hp (fun _ hk => hk) trivial (Below.refl _ _) (Nat.le_refl _) bxka_ ?_; (case hd => rfl); (case hg => rfl); (case hr => go_simp; first | done | rfl); (case hp => exact (Reps.one (show Kd.M (Kd.int .i64) _ _ _ 0 [.int .i64 0] from rfl) (Reps.none _ _))); intro v3 w2 ho5 hb hg_ hnew_; clear hg_ hnew_; (first | rw [← Ny2.out] at ho5 | (simp only [Int.reduceToNat] at ho5; rw [← Ny2.out] at ho5)); replace HO1 := A0_ (Kd.R_below bsm5_ hb); have HO2 := A0_ (Kd.R_lower ho5 (bz_ brt4_)); replace HB := hb_ hb brt4_; clear hb ho5))
 go_loopg [4, 5, 6] k (fun kq v4 v5 v6 w' => ∃ (x4_1 : List (S72)) (x5_1 : List Int) (x6_1 : Int), v6 = .int .i64 x6_1 ∧ Aside0 (impl_readRecords.l0 kq a0 x4_1 x5_1 x6_1 = some (r1, r2)) ∧ Aside0 (kq ≤ k) ∧ Aside0 (Kd.R k72 72 w' w.heap.size (fun _ => True) v4 x4_1) ∧ Aside0 (Kd.R (Kd.int .i64) 3 w' w.heap.size (fun _ => True) v5 x5_1) ∧ Aside0 (Below w.heap.size w w'))
 case atStart => exact ⟨(y1), (y2), (0), b2ew_, H', ⟨Nat.le_refl _⟩, ⟨bsm5_⟩, ⟨b9so_⟩, ⟨brt4_⟩⟩
 clear H'
 obtain ⟨x4_1, x5_1, x6_1, rfl, HA, HK1, HO_1, HO_2, HB⟩ := hrel
 cases gk with | zero => exact absurd HA.out (by simp [impl_readRecords.l0]) | succ k1 => ?_
 have H := HA.out
 clear HA
 simp only [impl_readRecords.l0] at H
 by_cases c1 : (x4_1.length : Int) < 60
 case neg =>
  rw [if_neg c1] at H
  have c1b0 : decide ((x4_1.length : Int) < 60) = false := decide_eq_false c1
  have c1b1 : decide (x4_1.length < 60) = false := decide_eq_false bh19_
  clear c1
  simp only [sj_, pj_] at H
  obtain ⟨rfl, rfl⟩ := H
  obtain ⟨Ao1, co1, eo1⟩ := Kd.R_slice HO_1.out
  subst eo1
  go_wp2
  go_ret2
  exact ⟨_, _, bnwh_, bwik_, b7sq_, brt4_⟩
 rw [if_pos c1] at H
 have c1b0 : decide ((x4_1.length : Int) < 60) = true := dt_ c1
 have c1b1 : decide (x4_1.length < 60) = true := dt_ bh19_
 clear c1
 by_cases c2 : 0 ≤ x6_1
 case neg =>
  rw [if_neg c2] at H
  exact absurd H bxka_
 rw [if_pos c2] at H
 have c2b0 := eq_true c2
 have c2b1 : decide (0 ≤ x6_1) = true := dt_ c2
 clear c2
 by_cases c3 : x6_1 ≤ (a0.size : Int)
 case neg =>
  rw [if_neg c3] at H
  exact absurd H bxka_
 rw [if_pos c3] at H
 have c3b0 := eq_true c3
 have c3b1 : decide (x6_1 ≤ (a0.size : Int)) = true := dt_ c3
 clear c3
 obtain ⟨⟨t1, t2, t3⟩, A2, H⟩ := o1_ H
 by_cases c4 : t3 = true
 case neg =>
  obtain rfl := bf_.mpr c4
  rw [if_neg ft_] at H
  simp only [sj_, pj_] at H
  obtain ⟨rfl, rfl⟩ := H
  obtain ⟨Ao1, co1, eo1⟩ := Kd.R_slice HO_1.out
  subst eo1
  go_wp2_with (first | ((with_reducible refine gc_ (f := 45) rfl ?_); refine gl_ 27 Tryz.func45 #[.string (a0.extract (x6_1 : Int).toNat a0.size), .string (⟨#[10]⟩ : ByteArray)] ?_; (with_reducible refine (strings_Cut.calls (a0.extract (x6_1 : Int).toNat a0.size) (⟨#[10]⟩ : ByteArray) t1 t2 false _ A2.out).mono ?_); rintro e w' ⟨rfl, ⟨nd, rfl⟩⟩; refine ⟨_, rfl, ?_⟩))
  go_ret2
  exact ⟨_, _, bnwh_, bwik_, b7sq_, brt4_⟩
 subst c4
 rw [if_pos rfl] at H
 obtain ⟨⟨t4, t5⟩, A4, H⟩ := o1_ H
 obtain ⟨⟨t6, t7, t8⟩, A6, H⟩ := o1_ H
 obtain ⟨⟨t9, t10, t11⟩, A8, H⟩ := o1_ H
 obtain ⟨⟨t12, t13⟩, A10, H⟩ := o1_ H
 by_cases c5 : t13 = true
 case neg =>
  obtain rfl := bf_.mpr c5
  rw [if_neg ft_] at H
  simp only [sj_, pj_] at H
  obtain ⟨rfl, rfl⟩ := H
  obtain ⟨Ao1, co1, eo1⟩ := Kd.R_slice HO_1.out
  subst eo1
  go_wp2_with (first | ((with_reducible refine gc_ (f := 45) rfl ?_); refine gl_ 27 Tryz.func45 #[.string (a0.extract (x6_1 : Int).toNat a0.size), .string (⟨#[10]⟩ : ByteArray)] ?_; (with_reducible refine (strings_Cut.calls (a0.extract (x6_1 : Int).toNat a0.size) (⟨#[10]⟩ : ByteArray) t1 t2 true _ A2.out).mono ?_); rintro e w' ⟨rfl, ⟨nd, rfl⟩⟩; refine ⟨_, rfl, ?_⟩; (try (rw [drewN_self wr]; generalize hq_ : World.drewN wr _ = wr; have n0_ : Aside0 (Kd.R k72 72 wr w.heap.size (fun _ => True) (.slice Ao1 x4_1.length co1) x4_1) := ⟨bfiv_⟩; have n1_ : Aside0 (Kd.R (Kd.int .i64) 3 wr w.heap.size (fun _ => True) u5 x5_1) := ⟨bxqk_⟩; have n2_ : Aside0 (Below w.heap.size w wr) := ⟨bhad_⟩; clear HO_1 HO_2 HB hq_; have HO_1 := n0_; have HO_2 := n1_; have HB := n2_; clear n0_ n1_ n2_))) | ((with_reducible refine gc_ (f := 46) rfl ?_); refine gl_ 35 Tryz.func46 #[.string t1] ?_; (with_reducible refine (impl_VerifyChecksum.calls k1 t1 t4 t5 _ bko1_ A4.out).mono ?_); rintro e w3 ⟨rfl, hb⟩; refine ⟨_, rfl, ?_⟩; replace HO_1 := A0_ (Kd.R_below bwik_ hb); replace HO_2 := A0_ (Kd.R_below b7sq_ hb); replace HB := hb_ hb brt4_; (try clear hb)) | ((with_reducible refine gc_ (f := 45) rfl ?_); refine gl_ 40 Tryz.func45 #[.string t4, .string (⟨#[32]⟩ : ByteArray)] ?_; (with_reducible refine (strings_Cut.calls t4 (⟨#[32]⟩ : ByteArray) t6 t7 t8 _ A6.out).mono ?_); rintro e w' ⟨rfl, ⟨nd, rfl⟩⟩; refine ⟨_, rfl, ?_⟩; (try (rw [drewN_self w3]; generalize hq_ : World.drewN w3 _ = w3; have n0_ : Aside0 (Kd.R k72 72 w3 w.heap.size (fun _ => True) (.slice Ao1 x4_1.length co1) x4_1) := ⟨bfiv_⟩; have n1_ : Aside0 (Kd.R (Kd.int .i64) 3 w3 w.heap.size (fun _ => True) u5 x5_1) := ⟨bxqk_⟩; have n2_ : Aside0 (Below w.heap.size w w3) := ⟨bhad_⟩; clear HO_1 HO_2 HB hq_; have HO_1 := n0_; have HO_2 := n1_; have HB := n2_; clear n0_ n1_ n2_))) | ((with_reducible refine gc_ (f := 45) rfl ?_); refine gl_ 46 Tryz.func45 #[.string t7, .string (⟨#[64]⟩ : ByteArray)] ?_; (with_reducible refine (strings_Cut.calls t7 (⟨#[64]⟩ : ByteArray) t9 t10 t11 _ A8.out).mono ?_); rintro e w' ⟨rfl, ⟨nd, rfl⟩⟩; refine ⟨_, rfl, ?_⟩; (try (rw [drewN_self w3]; generalize hq_ : World.drewN w3 _ = w3; have n0_ : Aside0 (Kd.R k72 72 w3 w.heap.size (fun _ => True) (.slice Ao1 x4_1.length co1) x4_1) := ⟨bfiv_⟩; have n1_ : Aside0 (Kd.R (Kd.int .i64) 3 w3 w.heap.size (fun _ => True) u5 x5_1) := ⟨bxqk_⟩; have n2_ : Aside0 (Below w.heap.size w w3) := ⟨bhad_⟩; clear HO_1 HO_2 HB hq_; have HO_1 := n0_; have HO_2 := n1_; have HB := n2_; clear n0_ n1_ n2_))) | ((with_reducible refine gd_ (N := 15) rfl ?_); refine bx_ 15 #[.string (⟨#[]⟩ : ByteArray), .string (⟨#[]⟩ : ByteArray)] 72 ?_; intro gb1 hg w4 BK1 hb; replace HO_1 := A0_ (Kd.R_below (Kd.R_elderB bwik_ gb1 (Nat.le_of_eq hg.symm)) hb); replace HO_2 := A0_ (Kd.R_below b7sq_ hb); have GW1 := ge_ hg brt4_; have GE1 := GW1; replace HB := hb_ hb brt4_; clear hb hg; have hcz1 := z2_ BK1) | ((with_reducible refine gc_ (f := 47) rfl ?_); refine gl_ 57 Tryz.func47 #[.int .i64 (x4_1.length : Int), .agg #[.string t9, .string t10]] ?_; (with_reducible refine (impl_EncodeRecord.calls k1 (x4_1.length : Int) t9 t10 t12 false _ bko1_ A10.out).mono ?_); rintro e w5 ⟨rfl, hb⟩; refine ⟨_, rfl, ?_⟩; replace HO_1 := A0_ (Kd.R_below bxfd_ hb); replace HO_2 := A0_ (Kd.R_below bgcj_ hb); replace BK1 := k2_ (.cells #[.string t9, .string t10] 72 (0, 0)) BK1 hb; replace HB := hb_ hb be6g_; (try clear hb)))
  go_ret2
  exact ⟨_, _, bnwh_, bzf8_, b7sq_, be6g_⟩
 subst c5
 rw [if_pos rfl] at H
 by_cases c6 : t1.size + 1 ≤ 9223372036854775807
 case neg =>
  rw [if_neg c6] at H
  exact absurd H bxka_
 rw [if_pos c6] at H
 have hw_ : wrap64 ((t1.size : Int) + 1) = ((t1.size : Int) + 1) := by unfold wrap64; omega
 (try rw [hw_] at H)
 obtain ⟨c6b0, c6b1, c6b2⟩ := nl3_ c6
 by_cases c7 : t12.toList = (t1 ++ (⟨#[10]⟩ : ByteArray)).toList
 case neg =>
  rw [if_neg c7] at H
  obtain ⟨c7b0, c7b1⟩ := ef_ c7
  simp only [sj_, pj_] at H
  obtain ⟨rfl, rfl⟩ := H
  obtain ⟨Ao1, co1, eo1⟩ := Kd.R_slice HO_1.out
  subst eo1
  go_wp2_with (first | ((with_reducible refine gc_ (f := 45) rfl ?_); refine gl_ 27 Tryz.func45 #[.string (a0.extract (x6_1 : Int).toNat a0.size), .string (⟨#[10]⟩ : ByteArray)] ?_; (with_reducible refine (strings_Cut.calls (a0.extract (x6_1 : Int).toNat a0.size) (⟨#[10]⟩ : ByteArray) t1 t2 true _ A2.out).mono ?_); rintro e w' ⟨rfl, ⟨nd, rfl⟩⟩; refine ⟨_, rfl, ?_⟩; (try (rw [drewN_self wr]; generalize hq_ : World.drewN wr _ = wr; have n0_ : Aside0 (Kd.R k72 72 wr w.heap.size (fun _ => True) (.slice Ao1 x4_1.length co1) x4_1) := ⟨bfiv_⟩; have n1_ : Aside0 (Kd.R (Kd.int .i64) 3 wr w.heap.size (fun _ => True) u5 x5_1) := ⟨bxqk_⟩; have n2_ : Aside0 (Below w.heap.size w wr) := ⟨bhad_⟩; clear HO_1 HO_2 HB hq_; have HO_1 := n0_; have HO_2 := n1_; have HB := n2_; clear n0_ n1_ n2_))) | ((with_reducible refine gc_ (f := 46) rfl ?_); refine gl_ 35 Tryz.func46 #[.string t1] ?_; (with_reducible refine (impl_VerifyChecksum.calls k1 t1 t4 t5 _ bko1_ A4.out).mono ?_); rintro e w3 ⟨rfl, hb⟩; refine ⟨_, rfl, ?_⟩; replace HO_1 := A0_ (Kd.R_below bwik_ hb); replace HO_2 := A0_ (Kd.R_below b7sq_ hb); replace HB := hb_ hb brt4_; (try clear hb)) | ((with_reducible refine gc_ (f := 45) rfl ?_); refine gl_ 40 Tryz.func45 #[.string t4, .string (⟨#[32]⟩ : ByteArray)] ?_; (with_reducible refine (strings_Cut.calls t4 (⟨#[32]⟩ : ByteArray) t6 t7 t8 _ A6.out).mono ?_); rintro e w' ⟨rfl, ⟨nd, rfl⟩⟩; refine ⟨_, rfl, ?_⟩; (try (rw [drewN_self w3]; generalize hq_ : World.drewN w3 _ = w3; have n0_ : Aside0 (Kd.R k72 72 w3 w.heap.size (fun _ => True) (.slice Ao1 x4_1.length co1) x4_1) := ⟨bfiv_⟩; have n1_ : Aside0 (Kd.R (Kd.int .i64) 3 w3 w.heap.size (fun _ => True) u5 x5_1) := ⟨bxqk_⟩; have n2_ : Aside0 (Below w.heap.size w w3) := ⟨bhad_⟩; clear HO_1 HO_2 HB hq_; have HO_1 := n0_; have HO_2 := n1_; have HB := n2_; clear n0_ n1_ n2_))) | ((with_reducible refine gc_ (f := 45) rfl ?_); refine gl_ 46 Tryz.func45 #[.string t7, .string (⟨#[64]⟩ : ByteArray)] ?_; (with_reducible refine (strings_Cut.calls t7 (⟨#[64]⟩ : ByteArray) t9 t10 t11 _ A8.out).mono ?_); rintro e w' ⟨rfl, ⟨nd, rfl⟩⟩; refine ⟨_, rfl, ?_⟩; (try (rw [drewN_self w3]; generalize hq_ : World.drewN w3 _ = w3; have n0_ : Aside0 (Kd.R k72 72 w3 w.heap.size (fun _ => True) (.slice Ao1 x4_1.length co1) x4_1) := ⟨bfiv_⟩; have n1_ : Aside0 (Kd.R (Kd.int .i64) 3 w3 w.heap.size (fun _ => True) u5 x5_1) := ⟨bxqk_⟩; have n2_ : Aside0 (Below w.heap.size w w3) := ⟨bhad_⟩; clear HO_1 HO_2 HB hq_; have HO_1 := n0_; have HO_2 := n1_; have HB := n2_; clear n0_ n1_ n2_))) | ((with_reducible refine gd_ (N := 15) rfl ?_); refine bx_ 15 #[.string (⟨#[]⟩ : ByteArray), .string (⟨#[]⟩ : ByteArray)] 72 ?_; intro gb1 hg w4 BK1 hb; replace HO_1 := A0_ (Kd.R_below (Kd.R_elderB bwik_ gb1 (Nat.le_of_eq hg.symm)) hb); replace HO_2 := A0_ (Kd.R_below b7sq_ hb); have GW1 := ge_ hg brt4_; have GE1 := GW1; replace HB := hb_ hb brt4_; clear hb hg; have hcz1 := z2_ BK1) | ((with_reducible refine gc_ (f := 47) rfl ?_); refine gl_ 57 Tryz.func47 #[.int .i64 (x4_1.length : Int), .agg #[.string t9, .string t10]] ?_; (with_reducible refine (impl_EncodeRecord.calls k1 (x4_1.length : Int) t9 t10 t12 true _ bko1_ A10.out).mono ?_); rintro e w5 ⟨rfl, hb⟩; refine ⟨_, rfl, ?_⟩; replace HO_1 := A0_ (Kd.R_below bxfd_ hb); replace HO_2 := A0_ (Kd.R_below bgcj_ hb); replace BK1 := k2_ (.cells #[.string t9, .string t10] 72 (0, 0)) BK1 hb; replace HB := hb_ hb be6g_; (try clear hb)))
  go_ret2
  exact ⟨_, _, bnwh_, bzf8_, b7sq_, be6g_⟩
 rw [if_pos c7] at H
 obtain ⟨c7b0, c7b1⟩ := et_ c7
 clear c7
 by_cases c8 : x4_1.length < 4398046511104
 case neg =>
  rw [if_neg c8] at H
  exact absurd H bxka_
 rw [if_pos c8] at H
 have LMc1 := A0_ c8
 clear c8
 obtain ⟨y3, hy3⟩ : ∃ y_ : List (S72), y_ = (x4_1 ++ [(⟨t9, t10⟩ : S72)]) := ⟨_, rfl⟩
 replace H : (if x5_1.length < 17592186044416 then (impl_readRecords.l0 k1 a0 y3 (x5_1 ++ [wrap64 (x6_1 + ((t1.size : Int) + 1))]) (wrap64 (x6_1 + ((t1.size : Int) + 1)))) else (none)) = some (r1, r2) := by first | (rw [hy3]; with_reducible exact H) | (have H2_ := (Option.bind_some _ _).symm.trans H; rw [hy3]; with_reducible exact H2_) | (have H2_ := (Option.bind_some _ _).symm.trans H; with_reducible exact H2_) | with_reducible exact H | (rw [hy3]; exact H) | exact H
 have Ny3 := A0_ hy3
 clear hy3
 by_cases c9 : x5_1.length < 17592186044416
 case neg =>
  rw [if_neg c9] at H
  exact absurd H bxka_
 rw [if_pos c9] at H
 have LMc2 := A0_ c9
 clear c9
 obtain ⟨y4, hy4⟩ : ∃ y_ : List Int, y_ = (x5_1 ++ [wrap64 (x6_1 + ((t1.size : Int) + 1))]) := ⟨_, rfl⟩
 replace H : (impl_readRecords.l0 k1 a0 y3 y4 (wrap64 (x6_1 + ((t1.size : Int) + 1)))) = some (r1, r2) := by first | (rw [hy4]; with_reducible exact H) | (have H2_ := (Option.bind_some _ _).symm.trans H; rw [hy4]; with_reducible exact H2_) | (have H2_ := (Option.bind_some _ _).symm.trans H; with_reducible exact H2_) | with_reducible exact H | (rw [hy4]; exact H) | exact H
 have Ny4 := A0_ hy4
 clear hy4
 have H' := A0_ H
 clear H
 obtain ⟨Ao1, co1, eo1⟩ := Kd.R_slice HO_1.out
 subst eo1
 go_wp2_with (first | ((with_reducible refine gc_ (f := 45) rfl ?_); refine gl_ 27 Tryz.func45 #[.string (a0.extract (x6_1 : Int).toNat a0.size), .string (⟨#[10]⟩ : ByteArray)] ?_; (with_reducible refine (strings_Cut.calls (a0.extract (x6_1 : Int).toNat a0.size) (⟨#[10]⟩ : ByteArray) t1 t2 true _ A2.out).mono ?_); rintro e w' ⟨rfl, ⟨nd, rfl⟩⟩; refine ⟨_, rfl, ?_⟩; (try (rw [drewN_self wr]; generalize hq_ : World.drewN wr _ = wr; have n0_ : Aside0 (Kd.R k72 72 wr w.heap.size (fun _ => True) (.slice Ao1 x4_1.length co1) x4_1) := ⟨bfiv_⟩; have n1_ : Aside0 (Kd.R (Kd.int .i64) 3 wr w.heap.size (fun _ => True) u5 x5_1) := ⟨bxqk_⟩; have n2_ : Aside0 (Below w.heap.size w wr) := ⟨bhad_⟩; clear HO_1 HO_2 HB hq_; have HO_1 := n0_; have HO_2 := n1_; have HB := n2_; clear n0_ n1_ n2_))) | ((with_reducible refine gc_ (f := 46) rfl ?_); refine gl_ 35 Tryz.func46 #[.string t1] ?_; (with_reducible refine (impl_VerifyChecksum.calls k1 t1 t4 t5 _ bko1_ A4.out).mono ?_); rintro e w3 ⟨rfl, hb⟩; refine ⟨_, rfl, ?_⟩; replace HO_1 := A0_ (Kd.R_below bwik_ hb); replace HO_2 := A0_ (Kd.R_below b7sq_ hb); replace HB := hb_ hb brt4_; (try clear hb)) | ((with_reducible refine gc_ (f := 45) rfl ?_); refine gl_ 40 Tryz.func45 #[.string t4, .string (⟨#[32]⟩ : ByteArray)] ?_; (with_reducible refine (strings_Cut.calls t4 (⟨#[32]⟩ : ByteArray) t6 t7 t8 _ A6.out).mono ?_); rintro e w' ⟨rfl, ⟨nd, rfl⟩⟩; refine ⟨_, rfl, ?_⟩; (try (rw [drewN_self w3]; generalize hq_ : World.drewN w3 _ = w3; have n0_ : Aside0 (Kd.R k72 72 w3 w.heap.size (fun _ => True) (.slice Ao1 x4_1.length co1) x4_1) := ⟨bfiv_⟩; have n1_ : Aside0 (Kd.R (Kd.int .i64) 3 w3 w.heap.size (fun _ => True) u5 x5_1) := ⟨bxqk_⟩; have n2_ : Aside0 (Below w.heap.size w w3) := ⟨bhad_⟩; clear HO_1 HO_2 HB hq_; have HO_1 := n0_; have HO_2 := n1_; have HB := n2_; clear n0_ n1_ n2_))) | ((with_reducible refine gc_ (f := 45) rfl ?_); refine gl_ 46 Tryz.func45 #[.string t7, .string (⟨#[64]⟩ : ByteArray)] ?_; (with_reducible refine (strings_Cut.calls t7 (⟨#[64]⟩ : ByteArray) t9 t10 t11 _ A8.out).mono ?_); rintro e w' ⟨rfl, ⟨nd, rfl⟩⟩; refine ⟨_, rfl, ?_⟩; (try (rw [drewN_self w3]; generalize hq_ : World.drewN w3 _ = w3; have n0_ : Aside0 (Kd.R k72 72 w3 w.heap.size (fun _ => True) (.slice Ao1 x4_1.length co1) x4_1) := ⟨bfiv_⟩; have n1_ : Aside0 (Kd.R (Kd.int .i64) 3 w3 w.heap.size (fun _ => True) u5 x5_1) := ⟨bxqk_⟩; have n2_ : Aside0 (Below w.heap.size w w3) := ⟨bhad_⟩; clear HO_1 HO_2 HB hq_; have HO_1 := n0_; have HO_2 := n1_; have HB := n2_; clear n0_ n1_ n2_))) | ((with_reducible refine gd_ (N := 15) rfl ?_); refine bx_ 15 #[.string (⟨#[]⟩ : ByteArray), .string (⟨#[]⟩ : ByteArray)] 72 ?_; intro gb1 hg w4 BK1 hb; replace HO_1 := A0_ (Kd.R_below (Kd.R_elderB bwik_ gb1 (Nat.le_of_eq hg.symm)) hb); replace HO_2 := A0_ (Kd.R_below b7sq_ hb); have GW1 := ge_ hg brt4_; have GE1 := GW1; replace HB := hb_ hb brt4_; clear hb hg; have hcz1 := z2_ BK1) | ((with_reducible refine gc_ (f := 47) rfl ?_); refine gl_ 57 Tryz.func47 #[.int .i64 (x4_1.length : Int), .agg #[.string t9, .string t10]] ?_; (with_reducible refine (impl_EncodeRecord.calls k1 (x4_1.length : Int) t9 t10 t12 true _ bko1_ A10.out).mono ?_); rintro e w5 ⟨rfl, hb⟩; refine ⟨_, rfl, ?_⟩; replace HO_1 := A0_ (Kd.R_below bxfd_ hb); replace HO_2 := A0_ (Kd.R_below bgcj_ hb); replace BK1 := k2_ (.cells #[.string t9, .string t10] 72 (0, 0)) BK1 hb; replace HB := hb_ hb be6g_; (try clear hb); have hcz2 := z2_ BK1) | ((with_reducible refine gate_builtin (b := .append) (xs := #[.tmp 73, .tmp 75]) rfl ?_); at_builtin; refine Kd.R_append k72 (w0 := w) w.heap.size rfl (.tmp 73) (.tmp 75) 55 72 (.agg #[(.string ⟨#[]⟩), (.string ⟨#[]⟩)]) 32 rfl Tryz.underlying55 info72 rfl bi3y_ bh19_ (.slice Ao1 x4_1.length co1) x4_1 (⟨t9, t10⟩ : S72) [.string t9, .string t10] (fun k_ => k_ ≠ gb1) (fun _ => False) rfl rfl ?aP (fun _ hk => hk.elim) ?aF ?aO ?aB ?aS ?aL ?_; (case aP => exact k72_mkM _ _ _ (⟨t9, t10⟩ : S72)); (case aB => exact be6g_); (case aF => exact (fun k_ hk => Kd.freshB (g := gb1) (o := .cells #[.string t9, .string t10] 72 (0, 0)) (u1_ BK1) k_ hk)); (case aO => exact (by (with_reducible repeat (first | apply ra_ | apply rn_ | apply rd_)); exact Kd.R_mono HO_1.out (fun _ hk => hk.2))); (case aS => exact (bz_ be6g_)); (case aL => have := LMc1.out; omega); intro v7 w6 ho hb hg hat; rw [← Ny3.out] at ho; have n0_ := A0_ (Kd.R_over' b7sq_ (Kd.R_typed bwik_) bi3y_ hg); have n1_ := A0_ (blk_grown (g := gb1) (o := .cells #[.string t9, .string t10] 72 (0, 0)) (u1_ BK1) hg (Kd.R_away HO_1.out (fun _ hk => hk.2))); have n2_ := A0_ (hb); have n3_ := A0_ (ho); clear HO_2 BK1 HB HO_1; have HO_2 := n0_; have BK1 := n1_; have HB := n2_; have HO3 := n3_; clear n0_ n1_ n2_ n3_ ho hb hg hat) | ((with_reducible refine gate_builtin (b := .append) (xs := #[.tmp 77, .tmp 79]) rfl ?_); at_builtin; refine Kd.R_append (Kd.int .i64) (w0 := w) w.heap.size rfl (.tmp 77) (.tmp 79) 22 3 (.int .i64 0) 8 rfl Tryz.underlying22 info3 rfl bi3y_ bh19_ u5 x5_1 (wrap64 (x6_1 + ((t1.size : Int) + 1))) [.int .i64 (wrap64 (x6_1 + ((t1.size : Int) + 1)))] (fun _ => True) (fun _ => False) rfl rfl ?aP (fun _ hk => hk.elim) ?aF ?aO ?aB ?aS ?aL ?_; (case aP => exact rfl); (case aB => exact be6g_); (case aF => exact (fun _ _ => trivial)); (case aO => exact b7sq_); (case aS => exact (bz_ be6g_)); (case aL => have := LMc2.out; omega); intro v8 w7 ho hb hg hat; rw [← Ny4.out] at ho; have n0_ := A0_ (blk_grown (g := gb1) (o := .cells #[.string t9, .string t10] 72 (0, 0)) (u1_ BK1) hg (Kd.R_ne HO_2.out BK1.out bi3y_)); have n1_ := A0_ (Kd.R_over' buiy_ (Kd.R_typed b7sq_) bi3y_ hg); have n2_ := A0_ (hb); have n3_ := A0_ (ho); clear BK1 HO3 HB HO_2; have BK1 := n0_; have HO3 := n1_; have HB := n2_; have HO4 := n3_; clear n0_ n1_ n2_ n3_ ho hb hg hat))
 go_roundg k1
 case measure => have := HK1.out; omega
 exact ⟨(y3), (y4), (wrap64 (x6_1 + ((t1.size : Int) + 1))), b2ew_, H', ⟨bxjq_⟩, ⟨be88_⟩, ⟨b6ip_⟩, ⟨be6g_⟩⟩

def slices_Index_int_int.l0 : Nat → List Int → Int → Int → Int → Option (Int)
 | 0, _, _, _, _ => none
 | k + 1, x0, x1, x7, x8 => if x8 < x7 then (if 0 ≤ x8 then (if x8 < (x0.length : Int) then (if x1 = (rd x0 x8) then (some x8) else (slices_Index_int_int.l0 k x0 x1 x7 (wrap64 (x8 + 1)))) else (none)) else (none)) else (some (-1))
def slices_Index_int_int.f (k : Nat) (l0 : List Int) (a1 : Int) : Option (Int) := slices_Index_int_int.l0 k l0 a1 (l0.length : Int) 0
theorem slices_Index_int_int.mono_l : ∀ k, (∀ y0 y1 y2 y3, LeO (slices_Index_int_int.l0 k y0 y1 y2 y3) (slices_Index_int_int.l0 (k + 1) y0 y1 y2 y3))
 | 0 => fun _ _ _ _ r h => by simp [slices_Index_int_int.l0] at h
 | k + 1 => by
  have ih0 := slices_Index_int_int.mono_l k
  ·intro y0 y1 y2 y3
   unfold slices_Index_int_int.l0
   repeat' with_reducible first | exact ih0 .. | exact LeO.refl .. | exact LeO.none .. | refine LeO.ite ?_ ?_ | refine LeO.bind ?_ (fun _ => ?_)
theorem slices_Index_int_int.mono : ∀ a0 a1 k, LeO (slices_Index_int_int.f k a0 a1) (slices_Index_int_int.f (k + 1) a0 a1) := by
 intro a0 a1 k
 have ih0 := slices_Index_int_int.mono_l k
 unfold slices_Index_int_int.f
 repeat' with_reducible first | exact ih0 .. | exact LeO.refl .. | exact LeO.none .. | refine LeO.ite ?_ ?_ | refine LeO.bind ?_ (fun _ => ?_)
theorem slices_Index_int_int.calls (k : Nat) (A0 : Option Addr) (c0 : Nat) (l0 : List Int) (a1 : Int) (r : Int) (w : World) (hr0 : Kd.C (Kd.int .i64) w A0 l0.length l0) (hc0 : l0.length ≤ c0) (h : slices_Index_int_int.f k l0 a1 = some r) :
  Calls Tryz.prog 48 #[.slice A0 l0.length c0, .int .i64 a1] w fun e w' => e = .returned (.int .i64 r) ∧ Drawn0 w w' := by
 have HR0 := A0_ hr0
 have HC0 := A0_ hc0
 clear hr0 hc0
 have H : (slices_Index_int_int.l0 k l0 a1 (l0.length : Int) 0) = some r := h
 clear h
 have H' := A0_ H
 clear H
 go_enter Tryz.func48, Tryz.ntmps48
 go_wp2
 go_loopg [8] k (fun kq v1 w' => ∃ (x8_1 : Int), v1 = .int .i64 x8_1 ∧ Aside0 (slices_Index_int_int.l0 kq l0 a1 (l0.length : Int) x8_1 = some r) ∧ Aside0 (kq ≤ k) ∧ Drawn0 w w')
 case atStart => exact ⟨(0), b2ew_, H', ⟨Nat.le_refl _⟩, boaj_⟩
 clear H'
 obtain ⟨x8_1, rfl, HA, HK1, ⟨m1, rfl⟩⟩ := hrel
 cases gk with | zero => exact absurd HA.out (by simp [slices_Index_int_int.l0]) | succ k1 => ?_
 have H := HA.out
 clear HA
 simp only [slices_Index_int_int.l0] at H
 by_cases c1 : x8_1 < (l0.length : Int)
 case neg =>
  rw [if_neg c1] at H
  have c1b0 : decide (x8_1 < (l0.length : Int)) = false := decide_eq_false c1
  clear c1
  obtain rfl := si_ H
  go_wp2
  go_ret
  exact ⟨b04z_, boaj_⟩
 rw [if_pos c1] at H
 have c1b0 : decide (x8_1 < (l0.length : Int)) = true := dt_ c1
 clear c1
 by_cases c2 : 0 ≤ x8_1
 case neg =>
  rw [if_neg c2] at H
  exact absurd H bxka_
 rw [if_pos c2] at H
 have c2b0 : decide (0 ≤ x8_1) = true := dt_ c2
 clear c2
 by_cases c3 : x8_1 < (l0.length : Int)
 case neg =>
  rw [if_neg c3] at H
  exact absurd H bxka_
 rw [if_pos c3] at H
 have c3b0 : decide (x8_1 < (l0.length : Int)) = true := dt_ c3
 clear c3
 by_cases c4 : a1 = (rd l0 x8_1)
 ·rw [if_pos c4] at H
  obtain ⟨c4b0, c4b1⟩ := et_ c4
  clear c4
  obtain rfl := si_ H
  have p1 : 0 ≤ (x8_1 : Int) := od_ bpil_
  have q1 : x8_1 < (l0.length : Int) := od_ bpil_
  obtain ⟨ad1, e1, hx1_0⟩ := Kd.at_int HR0.out x8_1 p1 q1
  cases e1
  replace p1 := eq_true p1
  replace q1 := eq_true q1
  go_wp2
  go_ret
  exact ⟨b04z_, boaj_⟩
 rw [if_neg c4] at H
 obtain ⟨c4b0, c4b1⟩ := ef_ c4
 have H' := A0_ H
 clear H
 have p1 : 0 ≤ (x8_1 : Int) := od_ bpil_
 have q1 : x8_1 < (l0.length : Int) := od_ bpil_
 obtain ⟨ad1, e1, hx1_0⟩ := Kd.at_int HR0.out x8_1 p1 q1
 cases e1
 replace p1 := eq_true p1
 replace q1 := eq_true q1
 go_wp2
 go_roundg k1
 case measure => have := HK1.out; omega
 exact ⟨(wrap64 (x8_1 + 1)), b2ew_, H', ⟨bxjq_⟩, boaj_⟩

def slices_Contains_int_int.f (k : Nat) (l0 : List Int) (a1 : Int) : Option (Bool) := (slices_Index_int_int.f k l0 a1).bind fun t312 => (some (decide (t312 ≥ 0)))
theorem slices_Contains_int_int.mono : ∀ a0 a1 k, LeO (slices_Contains_int_int.f k a0 a1) (slices_Contains_int_int.f (k + 1) a0 a1) := by
 intro a0 a1 k
 unfold slices_Contains_int_int.f
 repeat' with_reducible first | exact slices_Index_int_int.mono .. | exact LeO.refl .. | exact LeO.none .. | refine LeO.ite ?_ ?_ | refine LeO.bind ?_ (fun _ => ?_)
theorem slices_Contains_int_int.calls (k : Nat) (A0 : Option Addr) (c0 : Nat) (l0 : List Int) (a1 : Int) (r : Bool) (w : World) (hr0 : Kd.C (Kd.int .i64) w A0 l0.length l0) (hc0 : l0.length ≤ c0) (h : slices_Contains_int_int.f k l0 a1 = some r) :
  Calls Tryz.prog 33 #[.slice A0 l0.length c0, .int .i64 a1] w fun e w' => e = .returned (.bool r) ∧ Drawn0 w w' := by
 have HR0 := A0_ hr0
 have HC0 := A0_ hc0
 clear hr0 hc0
 have H : ((slices_Index_int_int.f k l0 a1).bind fun t1 => (some (decide (t1 ≥ 0)))) = some r := h
 clear h
 obtain ⟨t1, A2, H⟩ := o1_ H
 replace H : (some (decide (t1 ≥ 0))) = some r := H
 obtain rfl := si_ H
 go_enter Tryz.func33, Tryz.ntmps33
 go_wp2_with (first | ((with_reducible refine gc_ (f := 48) rfl ?_); refine gl_ 7 Tryz.func48 #[.slice A0 l0.length c0, .int .i64 a1] ?_; (with_reducible refine (slices_Index_int_int.calls k _ _ l0 a1 t1 _ ?side1 ?side2 A2.out).mono ?_); (case side1 => exact (by repeat (first | exact HR0.out | (with_reducible refine ca_ ?_ _) | (with_reducible refine cn_ ?_ _) | (with_reducible refine cd_ ?_)))); (case side2 => exact HC0.out); rintro e w' ⟨rfl, ⟨nd, rfl⟩⟩; refine ⟨_, rfl, ?_⟩))
 go_ret
 exact ⟨b04z_, boaj_⟩

def impl_IsValidLog.f (k : Nat) (a0_0 : ByteArray) (a0_1 : ByteArray) (a0_2 : Int) : Option (Bool) := if (wrap64 ((a0_0.size : Int) + (a0_1.size : Int))) > 30000 then (some false) else (if a0_0.size + a0_1.size ≤ 9223372036854775807 then ((impl_readRecords.f k (a0_0 ++ a0_1)).bind fun bt314 => (if 0 ≤ (bt314.1.length : Int) then (if (bt314.1.length : Int) < (bt314.2.length : Int) then (if (rd bt314.2 (bt314.1.length : Int)) = (wrap64 ((a0_0.size : Int) + (a0_1.size : Int))) then (if a0_2 = (bt314.1.length : Int) then ((slices_Contains_int_int.f k bt314.2 (a0_0.size : Int)).bind fun t321 => (some t321)) else (some false)) else (some false)) else (none)) else (none))) else (none))
theorem impl_IsValidLog.mono : ∀ a0 a1 a2 k, LeO (impl_IsValidLog.f k a0 a1 a2) (impl_IsValidLog.f (k + 1) a0 a1 a2) := by
 intro a0 a1 a2 k
 unfold impl_IsValidLog.f
 repeat' with_reducible first | exact impl_readRecords.mono .. | exact slices_Contains_int_int.mono .. | exact LeO.refl .. | exact LeO.none .. | refine LeO.ite ?_ ?_ | refine LeO.bind ?_ (fun _ => ?_)
theorem impl_IsValidLog.calls (k : Nat) (a0_0 : ByteArray) (a0_1 : ByteArray) (a0_2 : Int) (r : Bool) (w : World) (hG : TabOK w) (h : impl_IsValidLog.f k a0_0 a0_1 a0_2 = some r) :
  Calls Tryz.prog 16 #[.agg #[.string a0_0, .string a0_1, .int .i64 a0_2]] w fun e w' => e = .returned (.bool r) ∧ Below w.heap.size w w' := by
 have HG0 := A0_ hG
 clear hG
 have hu36 := Tryz.underlying36
 have HB := A0_ (Below.refl w.heap.size w)
 have H : (if (wrap64 ((a0_0.size : Int) + (a0_1.size : Int))) > 30000 then (some false) else (if a0_0.size + a0_1.size ≤ 9223372036854775807 then ((impl_readRecords.f k (a0_0 ++ a0_1)).bind fun bt1 => (if 0 ≤ (bt1.1.length : Int) then (if (bt1.1.length : Int) < (bt1.2.length : Int) then (if (rd bt1.2 (bt1.1.length : Int)) = (wrap64 ((a0_0.size : Int) + (a0_1.size : Int))) then (if a0_2 = (bt1.1.length : Int) then ((slices_Contains_int_int.f k bt1.2 (a0_0.size : Int)).bind fun t1 => (some t1)) else (some false)) else (some false)) else (none)) else (none))) else (none))) = some r := h
 clear h
 by_cases c1 : (wrap64 ((a0_0.size : Int) + (a0_1.size : Int))) > 30000
 ·rw [if_pos c1] at H
  have c1b0 : decide (30000 < (wrap64 ((a0_0.size : Int) + (a0_1.size : Int)))) = true := dt_ c1
  clear c1
  obtain rfl := si_ H
  go_enter Tryz.func16, Tryz.ntmps16
  go_wp2_with (first | ((with_reducible refine gd_ (N := 1) rfl ?_); (try (refine gate_guard (by rfl) ?_; dsimp only)); refine bx_ 1 #[.string a0_0, .string a0_1, .int .i64 a0_2] 36 ?_; intro gb1 hg w1 BK1 hb; have GW1 := ge_ hg brt4_; have GE1 := GW1; replace HB := hb_ hb brt4_; clear hb hg; have hcz1 := c3_ BK1))
  repeat (go_quiet (first | ((with_reducible refine gd_ (N := 1) rfl ?_); (try (refine gate_guard (by rfl) ?_; dsimp only)); refine bx_ 1 #[.string a0_0, .string a0_1, .int .i64 a0_2] 36 ?_; intro gb1 hg w1 BK1 hb; have GW1 := ge_ hg brt4_; have GE1 := GW1; replace HB := hb_ hb brt4_; clear hb hg; have hcz1 := c3_ BK1)); try go_wp2_with (first | ((with_reducible refine gd_ (N := 1) rfl ?_); (try (refine gate_guard (by rfl) ?_; dsimp only)); refine bx_ 1 #[.string a0_0, .string a0_1, .int .i64 a0_2] 36 ?_; intro gb1 hg w1 BK1 hb; have GW1 := ge_ hg brt4_; have GE1 := GW1; replace HB := hb_ hb brt4_; clear hb hg; have hcz1 := c3_ BK1)))
  go_ret
  exact ⟨bnwh_, be6g_⟩
 rw [if_neg c1] at H
 have c1b0 : decide (30000 < (wrap64 ((a0_0.size : Int) + (a0_1.size : Int)))) = false := decide_eq_false c1
 clear c1
 by_cases c2 : a0_0.size + a0_1.size ≤ 9223372036854775807
 case neg =>
  rw [if_neg c2] at H
  exact absurd H bxka_
 rw [if_pos c2] at H
 obtain ⟨c2b0, c2b1, c2b2⟩ := nl3_ c2
 have hw_ : wrap64 ((a0_0.size : Int) + (a0_1.size : Int)) = ((a0_0.size : Int) + (a0_1.size : Int)) := by unfold wrap64; omega
 (try rw [hw_] at H)
 (try rw [hw_] at c1b0)
 obtain ⟨⟨t2, t3⟩, A2, H⟩ := o1_ H
 by_cases c3 : 0 ≤ (t2.length : Int)
 case neg =>
  rw [if_neg c3] at H
  exact absurd H bxka_
 rw [if_pos c3] at H
 have c3b0 : decide (0 ≤ (t2.length : Int)) = true := dt_ c3
 have c3b1 : decide (0 ≤ t2.length) = true := dt_ bh19_
 clear c3
 by_cases c4 : (t2.length : Int) < (t3.length : Int)
 case neg =>
  rw [if_neg c4] at H
  exact absurd H bxka_
 rw [if_pos c4] at H
 have c4b0 : decide ((t2.length : Int) < (t3.length : Int)) = true := dt_ c4
 have c4b1 : decide (t2.length < t3.length) = true := dt_ (Int.ofNat_lt.mp c4)
 clear c4
 by_cases c5 : (rd t3 (t2.length : Int)) = ((a0_0.size : Int) + (a0_1.size : Int))
 case neg =>
  rw [if_neg c5] at H
  obtain ⟨c5b0, c5b1⟩ := ef_ c5
  obtain rfl := si_ H
  go_enter Tryz.func16, Tryz.ntmps16
  go_wp2_with (first | ((with_reducible refine gd_ (N := 1) rfl ?_); (try (refine gate_guard (by rfl) ?_; dsimp only)); refine bx_ 1 #[.string a0_0, .string a0_1, .int .i64 a0_2] 36 ?_; intro gb1 hg w1 BK1 hb; have GW1 := ge_ hg brt4_; have GE1 := GW1; replace HB := hb_ hb brt4_; clear hb hg; have hcz1 := c3_ BK1) | (go_at_call 32; (with_reducible refine (impl_readRecords.calls k (a0_0 ++ a0_1) t2 t3 _ bko1_ A2.out).mono ?_); rintro e w2 ⟨v1, v2, rfl, ho0, ho1, hb⟩; have HO1 := A0_ (Kd.R_lower ho0 (bz_ be6g_)); have HO2 := A0_ (Kd.R_lower ho1 (bz_ be6g_)); replace BK1 := k1_ BK1 hb; replace HB := hb_ hb be6g_; (try clear hb); (try clear ho0); (try clear ho1); obtain ⟨Ao1, co1, eo1⟩ := Kd.R_slice HO1.out; subst eo1; obtain ⟨Ao2, co2, eo2⟩ := Kd.R_slice HO2.out; subst eo2; have p1 : 0 ≤ ((t2.length : Int) : Int) := od_ bpil_; have q1 : (t2.length : Int) < (t3.length : Int) := od_ bpil_; obtain ⟨ad1, e1, hx1_0⟩ := Kd.at_int (rr_ HO2.out).2.2 (t2.length : Int) p1 q1; cases e1; (try simp only [Go.IntWalk.toNatUp] at hx1_0); replace p1 := eq_true p1; replace q1 := eq_true q1; have hcz2 := c3_ BK1))
  repeat (go_quiet (first | ((with_reducible refine gd_ (N := 1) rfl ?_); (try (refine gate_guard (by rfl) ?_; dsimp only)); refine bx_ 1 #[.string a0_0, .string a0_1, .int .i64 a0_2] 36 ?_; intro gb1 hg w1 BK1 hb; have GW1 := ge_ hg brt4_; have GE1 := GW1; replace HB := hb_ hb brt4_; clear hb hg; have hcz1 := c3_ BK1) | (go_at_call 32; (with_reducible refine (impl_readRecords.calls k (a0_0 ++ a0_1) t2 t3 _ bko1_ A2.out).mono ?_); rintro e w2 ⟨v1, v2, rfl, ho0, ho1, hb⟩; have HO1 := A0_ (Kd.R_lower ho0 (bz_ be6g_)); have HO2 := A0_ (Kd.R_lower ho1 (bz_ be6g_)); replace BK1 := k1_ BK1 hb; replace HB := hb_ hb be6g_; (try clear hb); (try clear ho0); (try clear ho1); obtain ⟨Ao1, co1, eo1⟩ := Kd.R_slice HO1.out; subst eo1; obtain ⟨Ao2, co2, eo2⟩ := Kd.R_slice HO2.out; subst eo2; have p1 : 0 ≤ ((t2.length : Int) : Int) := od_ bpil_; have q1 : (t2.length : Int) < (t3.length : Int) := od_ bpil_; obtain ⟨ad1, e1, hx1_0⟩ := Kd.at_int (rr_ HO2.out).2.2 (t2.length : Int) p1 q1; cases e1; (try simp only [Go.IntWalk.toNatUp] at hx1_0); replace p1 := eq_true p1; replace q1 := eq_true q1; have hcz2 := c3_ BK1)); try go_wp2_with (first | ((with_reducible refine gd_ (N := 1) rfl ?_); (try (refine gate_guard (by rfl) ?_; dsimp only)); refine bx_ 1 #[.string a0_0, .string a0_1, .int .i64 a0_2] 36 ?_; intro gb1 hg w1 BK1 hb; have GW1 := ge_ hg brt4_; have GE1 := GW1; replace HB := hb_ hb brt4_; clear hb hg; have hcz1 := c3_ BK1) | (go_at_call 32; (with_reducible refine (impl_readRecords.calls k (a0_0 ++ a0_1) t2 t3 _ bko1_ A2.out).mono ?_); rintro e w2 ⟨v1, v2, rfl, ho0, ho1, hb⟩; have HO1 := A0_ (Kd.R_lower ho0 (bz_ be6g_)); have HO2 := A0_ (Kd.R_lower ho1 (bz_ be6g_)); replace BK1 := k1_ BK1 hb; replace HB := hb_ hb be6g_; (try clear hb); (try clear ho0); (try clear ho1); obtain ⟨Ao1, co1, eo1⟩ := Kd.R_slice HO1.out; subst eo1; obtain ⟨Ao2, co2, eo2⟩ := Kd.R_slice HO2.out; subst eo2; have p1 : 0 ≤ ((t2.length : Int) : Int) := od_ bpil_; have q1 : (t2.length : Int) < (t3.length : Int) := od_ bpil_; obtain ⟨ad1, e1, hx1_0⟩ := Kd.at_int (rr_ HO2.out).2.2 (t2.length : Int) p1 q1; cases e1; (try simp only [Go.IntWalk.toNatUp] at hx1_0); replace p1 := eq_true p1; replace q1 := eq_true q1; have hcz2 := c3_ BK1)))
  go_ret
  exact ⟨bnwh_, be6g_⟩
 rw [if_pos c5] at H
 obtain ⟨c5b0, c5b1⟩ := et_ c5
 clear c5
 by_cases c6 : a0_2 = (t2.length : Int)
 case neg =>
  rw [if_neg c6] at H
  obtain ⟨c6b0, c6b1⟩ := ef_ c6
  obtain rfl := si_ H
  go_enter Tryz.func16, Tryz.ntmps16
  go_wp2_with (first | ((with_reducible refine gd_ (N := 1) rfl ?_); (try (refine gate_guard (by rfl) ?_; dsimp only)); refine bx_ 1 #[.string a0_0, .string a0_1, .int .i64 a0_2] 36 ?_; intro gb1 hg w1 BK1 hb; have GW1 := ge_ hg brt4_; have GE1 := GW1; replace HB := hb_ hb brt4_; clear hb hg; have hcz1 := c3_ BK1) | (go_at_call 32; (with_reducible refine (impl_readRecords.calls k (a0_0 ++ a0_1) t2 t3 _ bko1_ A2.out).mono ?_); rintro e w2 ⟨v1, v2, rfl, ho0, ho1, hb⟩; have HO1 := A0_ (Kd.R_lower ho0 (bz_ be6g_)); have HO2 := A0_ (Kd.R_lower ho1 (bz_ be6g_)); replace BK1 := k1_ BK1 hb; replace HB := hb_ hb be6g_; (try clear hb); (try clear ho0); (try clear ho1); obtain ⟨Ao1, co1, eo1⟩ := Kd.R_slice HO1.out; subst eo1; obtain ⟨Ao2, co2, eo2⟩ := Kd.R_slice HO2.out; subst eo2; have p1 : 0 ≤ ((t2.length : Int) : Int) := od_ bpil_; have q1 : (t2.length : Int) < (t3.length : Int) := od_ bpil_; obtain ⟨ad1, e1, hx1_0⟩ := Kd.at_int (rr_ HO2.out).2.2 (t2.length : Int) p1 q1; cases e1; (try simp only [Go.IntWalk.toNatUp] at hx1_0); replace p1 := eq_true p1; replace q1 := eq_true q1; have hcz2 := c3_ BK1))
  repeat (go_quiet (first | ((with_reducible refine gd_ (N := 1) rfl ?_); (try (refine gate_guard (by rfl) ?_; dsimp only)); refine bx_ 1 #[.string a0_0, .string a0_1, .int .i64 a0_2] 36 ?_; intro gb1 hg w1 BK1 hb; have GW1 := ge_ hg brt4_; have GE1 := GW1; replace HB := hb_ hb brt4_; clear hb hg; have hcz1 := c3_ BK1) | (go_at_call 32; (with_reducible refine (impl_readRecords.calls k (a0_0 ++ a0_1) t2 t3 _ bko1_ A2.out).mono ?_); rintro e w2 ⟨v1, v2, rfl, ho0, ho1, hb⟩; have HO1 := A0_ (Kd.R_lower ho0 (bz_ be6g_)); have HO2 := A0_ (Kd.R_lower ho1 (bz_ be6g_)); replace BK1 := k1_ BK1 hb; replace HB := hb_ hb be6g_; (try clear hb); (try clear ho0); (try clear ho1); obtain ⟨Ao1, co1, eo1⟩ := Kd.R_slice HO1.out; subst eo1; obtain ⟨Ao2, co2, eo2⟩ := Kd.R_slice HO2.out; subst eo2; have p1 : 0 ≤ ((t2.length : Int) : Int) := od_ bpil_; have q1 : (t2.length : Int) < (t3.length : Int) := od_ bpil_; obtain ⟨ad1, e1, hx1_0⟩ := Kd.at_int (rr_ HO2.out).2.2 (t2.length : Int) p1 q1; cases e1; (try simp only [Go.IntWalk.toNatUp] at hx1_0); replace p1 := eq_true p1; replace q1 := eq_true q1; have hcz2 := c3_ BK1)); try go_wp2_with (first | ((with_reducible refine gd_ (N := 1) rfl ?_); (try (refine gate_guard (by rfl) ?_; dsimp only)); refine bx_ 1 #[.string a0_0, .string a0_1, .int .i64 a0_2] 36 ?_; intro gb1 hg w1 BK1 hb; have GW1 := ge_ hg brt4_; have GE1 := GW1; replace HB := hb_ hb brt4_; clear hb hg; have hcz1 := c3_ BK1) | (go_at_call 32; (with_reducible refine (impl_readRecords.calls k (a0_0 ++ a0_1) t2 t3 _ bko1_ A2.out).mono ?_); rintro e w2 ⟨v1, v2, rfl, ho0, ho1, hb⟩; have HO1 := A0_ (Kd.R_lower ho0 (bz_ be6g_)); have HO2 := A0_ (Kd.R_lower ho1 (bz_ be6g_)); replace BK1 := k1_ BK1 hb; replace HB := hb_ hb be6g_; (try clear hb); (try clear ho0); (try clear ho1); obtain ⟨Ao1, co1, eo1⟩ := Kd.R_slice HO1.out; subst eo1; obtain ⟨Ao2, co2, eo2⟩ := Kd.R_slice HO2.out; subst eo2; have p1 : 0 ≤ ((t2.length : Int) : Int) := od_ bpil_; have q1 : (t2.length : Int) < (t3.length : Int) := od_ bpil_; obtain ⟨ad1, e1, hx1_0⟩ := Kd.at_int (rr_ HO2.out).2.2 (t2.length : Int) p1 q1; cases e1; (try simp only [Go.IntWalk.toNatUp] at hx1_0); replace p1 := eq_true p1; replace q1 := eq_true q1; have hcz2 := c3_ BK1)))
  go_ret
  exact ⟨bnwh_, be6g_⟩
 rw [if_pos c6] at H
 obtain ⟨c6b0, c6b1⟩ := et_ c6
 clear c6
 obtain ⟨t1, A4, H⟩ := o1_ H
 replace H : (some t1) = some r := H
 obtain rfl := si_ H
 go_enter Tryz.func16, Tryz.ntmps16
 go_wp2_with (first | ((with_reducible refine gd_ (N := 1) rfl ?_); (try (refine gate_guard (by rfl) ?_; dsimp only)); refine bx_ 1 #[.string a0_0, .string a0_1, .int .i64 a0_2] 36 ?_; intro gb1 hg w1 BK1 hb; have GW1 := ge_ hg brt4_; have GE1 := GW1; replace HB := hb_ hb brt4_; clear hb hg; have hcz1 := c3_ BK1) | (go_at_call 32; (with_reducible refine (impl_readRecords.calls k (a0_0 ++ a0_1) t2 t3 _ bko1_ A2.out).mono ?_); rintro e w2 ⟨v1, v2, rfl, ho0, ho1, hb⟩; have HO1 := A0_ (Kd.R_lower ho0 (bz_ be6g_)); have HO2 := A0_ (Kd.R_lower ho1 (bz_ be6g_)); replace BK1 := k1_ BK1 hb; replace HB := hb_ hb be6g_; (try clear hb); (try clear ho0); (try clear ho1); obtain ⟨Ao1, co1, eo1⟩ := Kd.R_slice HO1.out; subst eo1; obtain ⟨Ao2, co2, eo2⟩ := Kd.R_slice HO2.out; subst eo2; have p1 : 0 ≤ ((t2.length : Int) : Int) := od_ bpil_; have q1 : (t2.length : Int) < (t3.length : Int) := od_ bpil_; obtain ⟨ad1, e1, hx1_0⟩ := Kd.at_int (rr_ HO2.out).2.2 (t2.length : Int) p1 q1; cases e1; (try simp only [Go.IntWalk.toNatUp] at hx1_0); replace p1 := eq_true p1; replace q1 := eq_true q1; have hcz2 := c3_ BK1) | (go_at_call 33; (with_reducible refine (slices_Contains_int_int.calls k _ _ t3 (a0_0.size : Int) t1 _ ?side1 ?side2 A4.out).mono ?_); (case side1 => exact ba04_); (case side2 => exact (rr_ HO2.out).2.1); rintro e w' ⟨rfl, ⟨nd, rfl⟩⟩; (try first | exact ⟨rfl, _, World.drewN_drewN _ _ _⟩ | exact ⟨rfl, _, Eq.trans (World.drewN_drewN _ _ _) (congrArg (World.drewN _) (Nat.add_assoc _ _ _))⟩)))
 repeat (go_quiet (first | ((with_reducible refine gd_ (N := 1) rfl ?_); (try (refine gate_guard (by rfl) ?_; dsimp only)); refine bx_ 1 #[.string a0_0, .string a0_1, .int .i64 a0_2] 36 ?_; intro gb1 hg w1 BK1 hb; have GW1 := ge_ hg brt4_; have GE1 := GW1; replace HB := hb_ hb brt4_; clear hb hg; have hcz1 := c3_ BK1) | (go_at_call 32; (with_reducible refine (impl_readRecords.calls k (a0_0 ++ a0_1) t2 t3 _ bko1_ A2.out).mono ?_); rintro e w2 ⟨v1, v2, rfl, ho0, ho1, hb⟩; have HO1 := A0_ (Kd.R_lower ho0 (bz_ be6g_)); have HO2 := A0_ (Kd.R_lower ho1 (bz_ be6g_)); replace BK1 := k1_ BK1 hb; replace HB := hb_ hb be6g_; (try clear hb); (try clear ho0); (try clear ho1); obtain ⟨Ao1, co1, eo1⟩ := Kd.R_slice HO1.out; subst eo1; obtain ⟨Ao2, co2, eo2⟩ := Kd.R_slice HO2.out; subst eo2; have p1 : 0 ≤ ((t2.length : Int) : Int) := od_ bpil_; have q1 : (t2.length : Int) < (t3.length : Int) := od_ bpil_; obtain ⟨ad1, e1, hx1_0⟩ := Kd.at_int (rr_ HO2.out).2.2 (t2.length : Int) p1 q1; cases e1; (try simp only [Go.IntWalk.toNatUp] at hx1_0); replace p1 := eq_true p1; replace q1 := eq_true q1; have hcz2 := c3_ BK1) | (go_at_call 33; (with_reducible refine (slices_Contains_int_int.calls k _ _ t3 (a0_0.size : Int) t1 _ ?side1 ?side2 A4.out).mono ?_); (case side1 => exact ba04_); (case side2 => exact (rr_ HO2.out).2.1); rintro e w' ⟨rfl, ⟨nd, rfl⟩⟩; (try first | exact ⟨rfl, _, World.drewN_drewN _ _ _⟩ | exact ⟨rfl, _, Eq.trans (World.drewN_drewN _ _ _) (congrArg (World.drewN _) (Nat.add_assoc _ _ _))⟩))); try go_wp2_with (first | ((with_reducible refine gd_ (N := 1) rfl ?_); (try (refine gate_guard (by rfl) ?_; dsimp only)); refine bx_ 1 #[.string a0_0, .string a0_1, .int .i64 a0_2] 36 ?_; intro gb1 hg w1 BK1 hb; have GW1 := ge_ hg brt4_; have GE1 := GW1; replace HB := hb_ hb brt4_; clear hb hg; have hcz1 := c3_ BK1) | (go_at_call 32; (with_reducible refine (impl_readRecords.calls k (a0_0 ++ a0_1) t2 t3 _ bko1_ A2.out).mono ?_); rintro e w2 ⟨v1, v2, rfl, ho0, ho1, hb⟩; have HO1 := A0_ (Kd.R_lower ho0 (bz_ be6g_)); have HO2 := A0_ (Kd.R_lower ho1 (bz_ be6g_)); replace BK1 := k1_ BK1 hb; replace HB := hb_ hb be6g_; (try clear hb); (try clear ho0); (try clear ho1); obtain ⟨Ao1, co1, eo1⟩ := Kd.R_slice HO1.out; subst eo1; obtain ⟨Ao2, co2, eo2⟩ := Kd.R_slice HO2.out; subst eo2; have p1 : 0 ≤ ((t2.length : Int) : Int) := od_ bpil_; have q1 : (t2.length : Int) < (t3.length : Int) := od_ bpil_; obtain ⟨ad1, e1, hx1_0⟩ := Kd.at_int (rr_ HO2.out).2.2 (t2.length : Int) p1 q1; cases e1; (try simp only [Go.IntWalk.toNatUp] at hx1_0); replace p1 := eq_true p1; replace q1 := eq_true q1; have hcz2 := c3_ BK1) | (go_at_call 33; (with_reducible refine (slices_Contains_int_int.calls k _ _ t3 (a0_0.size : Int) t1 _ ?side1 ?side2 A4.out).mono ?_); (case side1 => exact ba04_); (case side2 => exact (rr_ HO2.out).2.1); rintro e w' ⟨rfl, ⟨nd, rfl⟩⟩; (try first | exact ⟨rfl, _, World.drewN_drewN _ _ _⟩ | exact ⟨rfl, _, Eq.trans (World.drewN_drewN _ _ _) (congrArg (World.drewN _) (Nat.add_assoc _ _ _))⟩))))
 go_ret
 exact ⟨bnwh_, be6g_⟩

def impl_IsValidConsole.f (k : Nat) (a0_0 : Int) (a0_1 : Bool) (l0_2 : List Int) (l0_3 : List Int) (a0_4 : Int) (a0_5 : ByteArray) (a0_6 : ByteArray) (a0_7 : Int) : Option (Bool) := (impl_IsHouse.f k a0_0 a0_1 l0_2 l0_3 a0_4).bind fun t323 => (if t323 = true then ((impl_IsValidLog.f k a0_5 a0_6 a0_7).bind fun t324 => (some t324)) else (some false))
theorem impl_IsValidConsole.mono : ∀ a0 a1 a2 a3 a4 a5 a6 a7 k, LeO (impl_IsValidConsole.f k a0 a1 a2 a3 a4 a5 a6 a7) (impl_IsValidConsole.f (k + 1) a0 a1 a2 a3 a4 a5 a6 a7) := by
 intro a0 a1 a2 a3 a4 a5 a6 a7 k
 unfold impl_IsValidConsole.f
 repeat' with_reducible first | exact impl_IsHouse.mono .. | exact impl_IsValidLog.mono .. | exact LeO.refl .. | exact LeO.none .. | refine LeO.ite ?_ ?_ | refine LeO.bind ?_ (fun _ => ?_)
theorem impl_IsValidConsole.calls (k : Nat) (a0_0 : Int) (a0_1 : Bool) (A0_2 : Option Addr) (c0_2 : Nat) (l0_2 : List Int) (A0_3 : Option Addr) (c0_3 : Nat) (l0_3 : List Int) (a0_4 : Int) (a0_5 : ByteArray) (a0_6 : ByteArray) (a0_7 : Int) (r : Bool) (w : World) (hr0_2 : Kd.C (Kd.int .i64) w A0_2 l0_2.length l0_2) (hc0_2 : l0_2.length ≤ c0_2) (hr0_3 : Kd.C (Kd.int .i64) w A0_3 l0_3.length l0_3) (hc0_3 : l0_3.length ≤ c0_3) (hG : TabOK w) (h : impl_IsValidConsole.f k a0_0 a0_1 l0_2 l0_3 a0_4 a0_5 a0_6 a0_7 = some r) :
  Calls Tryz.prog 7 #[.agg #[.int .i64 a0_0, .bool a0_1, .slice A0_2 l0_2.length c0_2, .slice A0_3 l0_3.length c0_3, .int .i64 a0_4, .string a0_5, .string a0_6, .int .i64 a0_7]] w fun e w' => e = .returned (.bool r) ∧ Below w.heap.size w w' := by
 have HG0 := A0_ hG
 clear hG
 have hu38 := Tryz.underlying38
 have hu35 := Tryz.underlying35
 have hu36 := Tryz.underlying36
 have HR0_2 := A0_ hr0_2
 have HC0_2 := A0_ hc0_2
 clear hr0_2 hc0_2
 have HR0_3 := A0_ hr0_3
 have HC0_3 := A0_ hc0_3
 clear hr0_3 hc0_3
 have HB := A0_ (Below.refl w.heap.size w)
 have H : ((impl_IsHouse.f k a0_0 a0_1 l0_2 l0_3 a0_4).bind fun t1 => (if t1 = true then ((impl_IsValidLog.f k a0_5 a0_6 a0_7).bind fun t2 => (some t2)) else (some false))) = some r := h
 clear h
 obtain ⟨t1, A2, H⟩ := o1_ H
 by_cases c1 : t1 = true
 case neg =>
  obtain rfl := bf_.mpr c1
  rw [if_neg ft_] at H
  obtain rfl := si_ H
  go_enter Tryz.func7, Tryz.ntmps7
  go_wp2_with (first | ((with_reducible refine gd_ (N := 1) rfl ?_); refine bx_ 1 #[.int .i64 a0_0, .bool a0_1, .slice A0_2 l0_2.length c0_2, .slice A0_3 l0_3.length c0_3, .int .i64 a0_4, .string a0_5, .string a0_6, .int .i64 a0_7] 38 ?_; intro gb1 hg w1 BK1 hb; have GW1 := ge_ hg brt4_; have GE1 := GW1; replace HB := hb_ hb brt4_; clear hb hg; have hcz1 := c8_ BK1) | ((with_reducible refine gc_ (f := 15) rfl ?_); refine gl_ 5 Tryz.func15 #[.agg #[.int .i64 a0_0, .bool a0_1, .slice A0_2 l0_2.length c0_2, .slice A0_3 l0_3.length c0_3, .int .i64 a0_4]] ?_; (with_reducible refine (impl_IsHouse.calls k a0_0 a0_1 _ _ l0_2 _ _ l0_3 a0_4 false _ ?side1 ?side2 ?side3 ?side4 A2.out).mono ?_); (case side1 => exact b6n8_); (case side2 => exact HC0_2.out); (case side3 => exact bkan_); (case side4 => exact HC0_3.out); rintro e w2 ⟨rfl, hb⟩; refine ⟨_, rfl, ?_⟩; replace BK1 := k1_ BK1 hb; replace HB := hb_ hb be6g_; (try clear hb)))
  go_ret
  exact ⟨bnwh_, be6g_⟩
 subst c1
 rw [if_pos rfl] at H
 obtain ⟨t2, A4, H⟩ := o1_ H
 replace H : (some t2) = some r := H
 obtain rfl := si_ H
 go_enter Tryz.func7, Tryz.ntmps7
 go_wp2_with (first | ((with_reducible refine gd_ (N := 1) rfl ?_); refine bx_ 1 #[.int .i64 a0_0, .bool a0_1, .slice A0_2 l0_2.length c0_2, .slice A0_3 l0_3.length c0_3, .int .i64 a0_4, .string a0_5, .string a0_6, .int .i64 a0_7] 38 ?_; intro gb1 hg w1 BK1 hb; have GW1 := ge_ hg brt4_; have GE1 := GW1; replace HB := hb_ hb brt4_; clear hb hg; have hcz1 := c8_ BK1) | ((with_reducible refine gc_ (f := 15) rfl ?_); refine gl_ 5 Tryz.func15 #[.agg #[.int .i64 a0_0, .bool a0_1, .slice A0_2 l0_2.length c0_2, .slice A0_3 l0_3.length c0_3, .int .i64 a0_4]] ?_; (with_reducible refine (impl_IsHouse.calls k a0_0 a0_1 _ _ l0_2 _ _ l0_3 a0_4 true _ ?side1 ?side2 ?side3 ?side4 A2.out).mono ?_); (case side1 => exact b6n8_); (case side2 => exact HC0_2.out); (case side3 => exact bkan_); (case side4 => exact HC0_3.out); rintro e w2 ⟨rfl, hb⟩; refine ⟨_, rfl, ?_⟩; replace BK1 := k1_ BK1 hb; replace HB := hb_ hb be6g_; (try clear hb); have hcz2 := c8_ BK1) | (go_at_call 16; (with_reducible refine (impl_IsValidLog.calls k a0_5 a0_6 a0_7 t2 _ bko1_ A4.out).mono ?_); rintro e w3 ⟨rfl, hb⟩; replace BK1 := k1_ BK1 hb; replace HB := hb_ hb be6g_; (try clear hb)))
 go_ret
 exact ⟨bnwh_, be6g_⟩

def laws_eqIntS.l0 : Nat → List Int → List Int → Int → Option (Bool)
 | 0, _, _, _ => none
 | k + 1, x0, x1, x5 => if x5 < (x0.length : Int) then (if 0 ≤ x5 then (if x5 < (x1.length : Int) then (if (rd x0 x5) = (rd x1 x5) then (laws_eqIntS.l0 k x0 x1 (wrap64 (x5 + 1))) else (some false)) else (none)) else (none)) else (some true)
def laws_eqIntS.f (k : Nat) (l0 : List Int) (l1 : List Int) : Option (Bool) := if (l0.length : Int) = (l1.length : Int) then (laws_eqIntS.l0 k l0 l1 0) else (some false)
theorem laws_eqIntS.mono_l : ∀ k, (∀ y0 y1 y2, LeO (laws_eqIntS.l0 k y0 y1 y2) (laws_eqIntS.l0 (k + 1) y0 y1 y2))
 | 0 => fun _ _ _ r h => by simp [laws_eqIntS.l0] at h
 | k + 1 => by
  have ih0 := laws_eqIntS.mono_l k
  ·intro y0 y1 y2
   unfold laws_eqIntS.l0
   repeat' with_reducible first | exact ih0 .. | exact LeO.refl .. | exact LeO.none .. | refine LeO.ite ?_ ?_ | refine LeO.bind ?_ (fun _ => ?_)
theorem laws_eqIntS.mono : ∀ a0 a1 k, LeO (laws_eqIntS.f k a0 a1) (laws_eqIntS.f (k + 1) a0 a1) := by
 intro a0 a1 k
 have ih0 := laws_eqIntS.mono_l k
 unfold laws_eqIntS.f
 repeat' with_reducible first | exact ih0 .. | exact LeO.refl .. | exact LeO.none .. | refine LeO.ite ?_ ?_ | refine LeO.bind ?_ (fun _ => ?_)
theorem laws_eqIntS.calls (k : Nat) (A0 : Option Addr) (c0 : Nat) (l0 : List Int) (A1 : Option Addr) (c1 : Nat) (l1 : List Int) (r : Bool) (w : World) (hr0 : Kd.C (Kd.int .i64) w A0 l0.length l0) (hc0 : l0.length ≤ c0) (hr1 : Kd.C (Kd.int .i64) w A1 l1.length l1) (hc1 : l1.length ≤ c1) (h : laws_eqIntS.f k l0 l1 = some r) :
  Calls Tryz.prog 35 #[.slice A0 l0.length c0, .slice A1 l1.length c1] w fun e w' => e = .returned (.bool r) ∧ Drawn0 w w' := by
 have HR0 := A0_ hr0
 have HC0 := A0_ hc0
 clear hr0 hc0
 have HR1 := A0_ hr1
 have HC1 := A0_ hc1
 clear hr1 hc1
 have H : (if (l0.length : Int) = (l1.length : Int) then (laws_eqIntS.l0 k l0 l1 0) else (some false)) = some r := h
 clear h
 by_cases c2 : (l0.length : Int) = (l1.length : Int)
 case neg =>
  rw [if_neg c2] at H
  obtain ⟨c2b0, c2b1⟩ := ef_ c2
  have c2b2 : (l0.length == l1.length) = false := bds5_
  obtain rfl := si_ H
  go_enter Tryz.func35, Tryz.ntmps35
  go_wp2
  repeat (go_quiet (fail); try go_wp2)
  go_ret
  exact ⟨b04z_, boaj_⟩
 rw [if_pos c2] at H
 obtain ⟨c2b0, c2b1⟩ := et_ c2
 have c2b2 : (l0.length == l1.length) = true := bds5_
 clear c2
 have H' := A0_ H
 clear H
 go_enter Tryz.func35, Tryz.ntmps35
 go_wp2
 repeat (go_quiet (fail); try go_wp2)
 go_loopg [5] k (fun kq v1 w' => ∃ (x5_1 : Int), v1 = .int .i64 x5_1 ∧ Aside0 (laws_eqIntS.l0 kq l0 l1 x5_1 = some r) ∧ Aside0 (kq ≤ k) ∧ Drawn0 w w')
 case atStart => exact ⟨(0), b2ew_, H', ⟨Nat.le_refl _⟩, boaj_⟩
 clear H'
 try clear c1
 try clear c2
 try clear c2b0
 try clear c2b1
 try clear c2b2
 obtain ⟨x5_1, rfl, HA, HK1, ⟨m1, rfl⟩⟩ := hrel
 cases gk with | zero => exact absurd HA.out (by simp [laws_eqIntS.l0]) | succ k1 => ?_
 have H := HA.out
 clear HA
 simp only [laws_eqIntS.l0] at H
 by_cases c3 : x5_1 < (l0.length : Int)
 case neg =>
  rw [if_neg c3] at H
  have c3b0 : decide (x5_1 < (l0.length : Int)) = false := decide_eq_false c3
  clear c3
  obtain rfl := si_ H
  go_wp2
  repeat (go_quiet (fail); try go_wp2)
  go_ret
  exact ⟨b04z_, boaj_⟩
 rw [if_pos c3] at H
 have c3b0 : decide (x5_1 < (l0.length : Int)) = true := dt_ c3
 clear c3
 by_cases c4 : 0 ≤ x5_1
 case neg =>
  rw [if_neg c4] at H
  exact absurd H bxka_
 rw [if_pos c4] at H
 have c4b0 : decide (0 ≤ x5_1) = true := dt_ c4
 clear c4
 by_cases c5 : x5_1 < (l1.length : Int)
 case neg =>
  rw [if_neg c5] at H
  exact absurd H bxka_
 rw [if_pos c5] at H
 have c5b0 : decide (x5_1 < (l1.length : Int)) = true := dt_ c5
 clear c5
 by_cases c6 : (rd l0 x5_1) = (rd l1 x5_1)
 case neg =>
  rw [if_neg c6] at H
  obtain ⟨c6b0, c6b1⟩ := ef_ c6
  obtain rfl := si_ H
  have p1 : 0 ≤ (x5_1 : Int) := od_ bpil_
  have q1 : x5_1 < (l0.length : Int) := od_ bpil_
  obtain ⟨ad1, e1, hx1_0⟩ := Kd.at_int HR0.out x5_1 p1 q1
  cases e1
  replace p1 := eq_true p1
  replace q1 := eq_true q1
  have p2 : 0 ≤ (x5_1 : Int) := od_ bpil_
  have q2 : x5_1 < (l1.length : Int) := od_ bpil_
  obtain ⟨ad2, e2, hx2_0⟩ := Kd.at_int HR1.out x5_1 p2 q2
  cases e2
  replace p2 := eq_true p2
  replace q2 := eq_true q2
  go_wp2
  repeat (go_quiet (fail); try go_wp2)
  go_ret
  exact ⟨b04z_, boaj_⟩
 rw [if_pos c6] at H
 obtain ⟨c6b0, c6b1⟩ := et_ c6
 clear c6
 have H' := A0_ H
 clear H
 have p1 : 0 ≤ (x5_1 : Int) := od_ bpil_
 have q1 : x5_1 < (l0.length : Int) := od_ bpil_
 obtain ⟨ad1, e1, hx1_0⟩ := Kd.at_int HR0.out x5_1 p1 q1
 cases e1
 replace p1 := eq_true p1
 replace q1 := eq_true q1
 have p2 : 0 ≤ (x5_1 : Int) := od_ bpil_
 have q2 : x5_1 < (l1.length : Int) := od_ bpil_
 obtain ⟨ad2, e2, hx2_0⟩ := Kd.at_int HR1.out x5_1 p2 q2
 cases e2
 replace p2 := eq_true p2
 replace q2 := eq_true q2
 go_wp2
 repeat (go_quiet (fail); try go_wp2)
 go_roundg k1
 case measure => have := HK1.out; omega
 exact ⟨(wrap64 (x5_1 + 1)), b2ew_, H', ⟨bxjq_⟩, boaj_⟩

def laws_eqRow.f (k : Nat) (a0_0 : Int) (a0_1 : Bool) (l0_2 : List Int) (a1_0 : Int) (a1_1 : Bool) (l1_2 : List Int) : Option (Bool) := if a0_0 = a1_0 then (if (a0_1 != a1_1) = true then (some false) else ((laws_eqIntS.f k l0_2 l1_2).bind fun t329 => (if t329 = true then (some true) else (some false)))) else (some false)
theorem laws_eqRow.mono : ∀ a0 a1 a2 a3 a4 a5 k, LeO (laws_eqRow.f k a0 a1 a2 a3 a4 a5) (laws_eqRow.f (k + 1) a0 a1 a2 a3 a4 a5) := by
 intro a0 a1 a2 a3 a4 a5 k
 unfold laws_eqRow.f
 repeat' with_reducible first | exact laws_eqIntS.mono .. | exact LeO.refl .. | exact LeO.none .. | refine LeO.ite ?_ ?_ | refine LeO.bind ?_ (fun _ => ?_)
theorem laws_eqRow.calls (k : Nat) (a0_0 : Int) (a0_1 : Bool) (A0_2 : Option Addr) (c0_2 : Nat) (l0_2 : List Int) (a1_0 : Int) (a1_1 : Bool) (A1_2 : Option Addr) (c1_2 : Nat) (l1_2 : List Int) (r : Bool) (w : World) (hr0_2 : Kd.C (Kd.int .i64) w A0_2 l0_2.length l0_2) (hc0_2 : l0_2.length ≤ c0_2) (hr1_2 : Kd.C (Kd.int .i64) w A1_2 l1_2.length l1_2) (hc1_2 : l1_2.length ≤ c1_2) (h : laws_eqRow.f k a0_0 a0_1 l0_2 a1_0 a1_1 l1_2 = some r) :
  Calls Tryz.prog 34 #[.agg #[.int .i64 a0_0, .bool a0_1, .slice A0_2 l0_2.length c0_2], .agg #[.int .i64 a1_0, .bool a1_1, .slice A1_2 l1_2.length c1_2]] w fun e w' => e = .returned (.bool r) ∧ Below w.heap.size w w' := by
 have hu33 := Tryz.underlying33
 have HR0_2 := A0_ hr0_2
 have HC0_2 := A0_ hc0_2
 clear hr0_2 hc0_2
 have HR1_2 := A0_ hr1_2
 have HC1_2 := A0_ hc1_2
 clear hr1_2 hc1_2
 have HB := A0_ (Below.refl w.heap.size w)
 have H : (if a0_0 = a1_0 then (if (a0_1 != a1_1) = true then (some false) else ((laws_eqIntS.f k l0_2 l1_2).bind fun t1 => (if t1 = true then (some true) else (some false)))) else (some false)) = some r := h
 clear h
 by_cases c2 : a0_0 = a1_0
 case neg =>
  rw [if_neg c2] at H
  obtain ⟨c2b0, c2b1⟩ := ef_ c2
  obtain rfl := si_ H
  go_enter Tryz.func34, Tryz.ntmps34
  go_wp2_with (first | ((with_reducible refine gd_ (N := 2) rfl ?_); refine bx_ 2 #[.int .i64 a0_0, .bool a0_1, .slice A0_2 l0_2.length c0_2] 33 ?_; intro gb1 hg w1 BK1 hb; have GW1 := ge_ hg brt4_; have GE1 := GW1; replace HB := hb_ hb brt4_; clear hb hg) | ((with_reducible refine gd_ (N := 3) rfl ?_); refine bx_ 3 #[.int .i64 a1_0, .bool a1_1, .slice A1_2 l1_2.length c1_2] 33 ?_; intro gb2 hg w2 BK2 hb; have GW2 := ge_ hg be6g_; have GE2 := GW2; replace HB := hb_ hb be6g_; have NB1_2 := nl_ hg BK1; have NB2_1 := ng_ hg BK1; replace BK1 := k1_ BK1 hb; clear hb hg; have hnb1 := NB1_2.out; have hnc1 := NB2_1.out; have hcz1 := c3_ BK1; have hcz2 := c3_ BK2))
  go_ret
  exact ⟨bnwh_, bfnq_⟩
 rw [if_pos c2] at H
 obtain ⟨c2b0, c2b1⟩ := et_ c2
 clear c2
 by_cases c3 : (a0_1 != a1_1) = true
 ·rw [if_pos c3] at H
  have c3b0 : (a0_1 != a1_1) = true := c3
  (try (have c3b1 : decide (a0_1 = a1_1) = false := by simpa using c3))
  (try (have c3b2 : (a0_1 == a1_1) = false := by simpa using c3))
  (try (have c3b3 : ¬ (a0_1 = a1_1) := by simpa using c3))
  clear c3
  obtain rfl := si_ H
  go_enter Tryz.func34, Tryz.ntmps34
  go_wp2_with (first | ((with_reducible refine gd_ (N := 2) rfl ?_); refine bx_ 2 #[.int .i64 a0_0, .bool a0_1, .slice A0_2 l0_2.length c0_2] 33 ?_; intro gb1 hg w1 BK1 hb; have GW1 := ge_ hg brt4_; have GE1 := GW1; replace HB := hb_ hb brt4_; clear hb hg) | ((with_reducible refine gd_ (N := 3) rfl ?_); refine bx_ 3 #[.int .i64 a1_0, .bool a1_1, .slice A1_2 l1_2.length c1_2] 33 ?_; intro gb2 hg w2 BK2 hb; have GW2 := ge_ hg be6g_; have GE2 := GW2; replace HB := hb_ hb be6g_; have NB1_2 := nl_ hg BK1; have NB2_1 := ng_ hg BK1; replace BK1 := k1_ BK1 hb; clear hb hg; have hnb1 := NB1_2.out; have hnc1 := NB2_1.out; have hcz1 := c3_ BK1; have hcz2 := c3_ BK2))
  go_ret
  exact ⟨bnwh_, bfnq_⟩
 rw [if_neg c3] at H
 have c3b0 : (a0_1 != a1_1) = false := by simpa using c3
 (try (have c3b1 : decide (a0_1 = a1_1) = true := by simpa using c3))
 (try (have c3b2 : (a0_1 == a1_1) = true := by simpa using c3))
 clear c3
 obtain ⟨t1, A3, H⟩ := o1_ H
 by_cases c4 : t1 = true
 ·subst c4
  rw [if_pos rfl] at H
  obtain rfl := si_ H
  go_enter Tryz.func34, Tryz.ntmps34
  go_wp2_with (first | ((with_reducible refine gd_ (N := 2) rfl ?_); refine bx_ 2 #[.int .i64 a0_0, .bool a0_1, .slice A0_2 l0_2.length c0_2] 33 ?_; intro gb1 hg w1 BK1 hb; have GW1 := ge_ hg brt4_; have GE1 := GW1; replace HB := hb_ hb brt4_; clear hb hg) | ((with_reducible refine gd_ (N := 3) rfl ?_); refine bx_ 3 #[.int .i64 a1_0, .bool a1_1, .slice A1_2 l1_2.length c1_2] 33 ?_; intro gb2 hg w2 BK2 hb; have GW2 := ge_ hg be6g_; have GE2 := GW2; replace HB := hb_ hb be6g_; have NB1_2 := nl_ hg BK1; have NB2_1 := ng_ hg BK1; replace BK1 := k1_ BK1 hb; clear hb hg; have hnb1 := NB1_2.out; have hnc1 := NB2_1.out; have hcz1 := c3_ BK1; have hcz2 := c3_ BK2) | ((with_reducible refine gc_ (f := 35) rfl ?_); refine gl_ 19 Tryz.func35 #[.slice A0_2 l0_2.length c0_2, .slice A1_2 l1_2.length c1_2] ?_; (with_reducible refine (laws_eqIntS.calls k _ _ l0_2 _ _ l1_2 true _ ?side1 ?side2 ?side3 ?side4 A3.out).mono ?_); (case side1 => exact b6n8_); (case side2 => exact HC0_2.out); (case side3 => exact bjp5_); (case side4 => exact HC1_2.out); rintro e w' ⟨rfl, ⟨nd, rfl⟩⟩; refine ⟨_, rfl, ?_⟩))
  go_ret
  exact ⟨bnwh_, bfnq_⟩
 obtain rfl := bf_.mpr c4
 rw [if_neg ft_] at H
 obtain rfl := si_ H
 go_enter Tryz.func34, Tryz.ntmps34
 go_wp2_with (first | ((with_reducible refine gd_ (N := 2) rfl ?_); refine bx_ 2 #[.int .i64 a0_0, .bool a0_1, .slice A0_2 l0_2.length c0_2] 33 ?_; intro gb1 hg w1 BK1 hb; have GW1 := ge_ hg brt4_; have GE1 := GW1; replace HB := hb_ hb brt4_; clear hb hg) | ((with_reducible refine gd_ (N := 3) rfl ?_); refine bx_ 3 #[.int .i64 a1_0, .bool a1_1, .slice A1_2 l1_2.length c1_2] 33 ?_; intro gb2 hg w2 BK2 hb; have GW2 := ge_ hg be6g_; have GE2 := GW2; replace HB := hb_ hb be6g_; have NB1_2 := nl_ hg BK1; have NB2_1 := ng_ hg BK1; replace BK1 := k1_ BK1 hb; clear hb hg; have hnb1 := NB1_2.out; have hnc1 := NB2_1.out; have hcz1 := c3_ BK1; have hcz2 := c3_ BK2) | ((with_reducible refine gc_ (f := 35) rfl ?_); refine gl_ 19 Tryz.func35 #[.slice A0_2 l0_2.length c0_2, .slice A1_2 l1_2.length c1_2] ?_; (with_reducible refine (laws_eqIntS.calls k _ _ l0_2 _ _ l1_2 false _ ?side1 ?side2 ?side3 ?side4 A3.out).mono ?_); (case side1 => exact b6n8_); (case side2 => exact HC0_2.out); (case side3 => exact bjp5_); (case side4 => exact HC1_2.out); rintro e w' ⟨rfl, ⟨nd, rfl⟩⟩; refine ⟨_, rfl, ?_⟩))
 go_ret
 exact ⟨bnwh_, bfnq_⟩

def laws_eqHouse.f (k : Nat) (a0_0 : Int) (a0_1 : Bool) (l0_2 : List Int) (l0_3 : List Int) (a0_4 : Int) (a1_0 : Int) (a1_1 : Bool) (l1_2 : List Int) (l1_3 : List Int) (a1_4 : Int) : Option (Bool) := (laws_eqRow.f k a0_0 a0_1 l0_2 a1_0 a1_1 l1_2).bind fun t332 => (if t332 = true then ((laws_eqIntS.f k l0_3 l1_3).bind fun t333 => (if t333 = true then (if a0_4 = a1_4 then (some true) else (some false)) else (some false))) else (some false))
theorem laws_eqHouse.mono : ∀ a0 a1 a2 a3 a4 a5 a6 a7 a8 a9 k, LeO (laws_eqHouse.f k a0 a1 a2 a3 a4 a5 a6 a7 a8 a9) (laws_eqHouse.f (k + 1) a0 a1 a2 a3 a4 a5 a6 a7 a8 a9) := by
 intro a0 a1 a2 a3 a4 a5 a6 a7 a8 a9 k
 unfold laws_eqHouse.f
 repeat' with_reducible first | exact laws_eqIntS.mono .. | exact laws_eqRow.mono .. | exact LeO.refl .. | exact LeO.none .. | refine LeO.ite ?_ ?_ | refine LeO.bind ?_ (fun _ => ?_)
theorem laws_eqHouse.calls (k : Nat) (a0_0 : Int) (a0_1 : Bool) (A0_2 : Option Addr) (c0_2 : Nat) (l0_2 : List Int) (A0_3 : Option Addr) (c0_3 : Nat) (l0_3 : List Int) (a0_4 : Int) (a1_0 : Int) (a1_1 : Bool) (A1_2 : Option Addr) (c1_2 : Nat) (l1_2 : List Int) (A1_3 : Option Addr) (c1_3 : Nat) (l1_3 : List Int) (a1_4 : Int) (r : Bool) (w : World) (hr0_2 : Kd.C (Kd.int .i64) w A0_2 l0_2.length l0_2) (hc0_2 : l0_2.length ≤ c0_2) (hr0_3 : Kd.C (Kd.int .i64) w A0_3 l0_3.length l0_3) (hc0_3 : l0_3.length ≤ c0_3) (hr1_2 : Kd.C (Kd.int .i64) w A1_2 l1_2.length l1_2) (hc1_2 : l1_2.length ≤ c1_2) (hr1_3 : Kd.C (Kd.int .i64) w A1_3 l1_3.length l1_3) (hc1_3 : l1_3.length ≤ c1_3) (h : laws_eqHouse.f k a0_0 a0_1 l0_2 l0_3 a0_4 a1_0 a1_1 l1_2 l1_3 a1_4 = some r) :
  Calls Tryz.prog 17 #[.agg #[.int .i64 a0_0, .bool a0_1, .slice A0_2 l0_2.length c0_2, .slice A0_3 l0_3.length c0_3, .int .i64 a0_4], .agg #[.int .i64 a1_0, .bool a1_1, .slice A1_2 l1_2.length c1_2, .slice A1_3 l1_3.length c1_3, .int .i64 a1_4]] w fun e w' => e = .returned (.bool r) ∧ Below w.heap.size w w' := by
 have hu35 := Tryz.underlying35
 have hu33 := Tryz.underlying33
 have HR0_2 := A0_ hr0_2
 have HC0_2 := A0_ hc0_2
 clear hr0_2 hc0_2
 have HR0_3 := A0_ hr0_3
 have HC0_3 := A0_ hc0_3
 clear hr0_3 hc0_3
 have HR1_2 := A0_ hr1_2
 have HC1_2 := A0_ hc1_2
 clear hr1_2 hc1_2
 have HR1_3 := A0_ hr1_3
 have HC1_3 := A0_ hc1_3
 clear hr1_3 hc1_3
 have HB := A0_ (Below.refl w.heap.size w)
 have H : ((laws_eqRow.f k a0_0 a0_1 l0_2 a1_0 a1_1 l1_2).bind fun t1 => (if t1 = true then ((laws_eqIntS.f k l0_3 l1_3).bind fun t2 => (if t2 = true then (if a0_4 = a1_4 then (some true) else (some false)) else (some false))) else (some false))) = some r := h
 clear h
 obtain ⟨t1, A3, H⟩ := o1_ H
 by_cases c2 : t1 = true
 case neg =>
  obtain rfl := bf_.mpr c2
  rw [if_neg ft_] at H
  obtain rfl := si_ H
  go_enter Tryz.func17, Tryz.ntmps17
  go_wp2_with (first | ((with_reducible refine gd_ (N := 2) rfl ?_); refine bx_ 2 #[.int .i64 a0_0, .bool a0_1, .slice A0_2 l0_2.length c0_2, .slice A0_3 l0_3.length c0_3, .int .i64 a0_4] 35 ?_; intro gb1 hg w1 BK1 hb; have GW1 := ge_ hg brt4_; have GE1 := GW1; replace HB := hb_ hb brt4_; clear hb hg) | ((with_reducible refine gd_ (N := 3) rfl ?_); refine bx_ 3 #[.int .i64 a1_0, .bool a1_1, .slice A1_2 l1_2.length c1_2, .slice A1_3 l1_3.length c1_3, .int .i64 a1_4] 35 ?_; intro gb2 hg w2 BK2 hb; have GW2 := ge_ hg be6g_; have GE2 := GW2; replace HB := hb_ hb be6g_; have NB1_2 := nl_ hg BK1; have NB2_1 := ng_ hg BK1; replace BK1 := k1_ BK1 hb; clear hb hg; have hnb1 := NB1_2.out; have hnc1 := NB2_1.out; have hcz1 := c5_ BK1; have hcz2 := c5_ BK2) | ((with_reducible refine gc_ (f := 34) rfl ?_); refine gl_ 9 Tryz.func34 #[.agg #[.int .i64 a0_0, .bool a0_1, .slice A0_2 l0_2.length c0_2], .agg #[.int .i64 a1_0, .bool a1_1, .slice A1_2 l1_2.length c1_2]] ?_; (with_reducible refine (laws_eqRow.calls k a0_0 a0_1 _ _ l0_2 a1_0 a1_1 _ _ l1_2 false _ ?side1 ?side2 ?side3 ?side4 A3.out).mono ?_); (case side1 => exact b6n8_); (case side2 => exact HC0_2.out); (case side3 => exact bjp5_); (case side4 => exact HC1_2.out); rintro e w3 ⟨rfl, hb⟩; refine ⟨_, rfl, ?_⟩; replace BK1 := k1_ BK1 hb; replace BK2 := k1_ BK2 hb; replace HB := hb_ hb bfnq_; (try clear hb)))
  go_ret
  exact ⟨bnwh_, bfnq_⟩
 subst c2
 rw [if_pos rfl] at H
 obtain ⟨t2, A5, H⟩ := o1_ H
 by_cases c3 : t2 = true
 case neg =>
  obtain rfl := bf_.mpr c3
  rw [if_neg ft_] at H
  obtain rfl := si_ H
  go_enter Tryz.func17, Tryz.ntmps17
  go_wp2_with (first | ((with_reducible refine gd_ (N := 2) rfl ?_); refine bx_ 2 #[.int .i64 a0_0, .bool a0_1, .slice A0_2 l0_2.length c0_2, .slice A0_3 l0_3.length c0_3, .int .i64 a0_4] 35 ?_; intro gb1 hg w1 BK1 hb; have GW1 := ge_ hg brt4_; have GE1 := GW1; replace HB := hb_ hb brt4_; clear hb hg) | ((with_reducible refine gd_ (N := 3) rfl ?_); refine bx_ 3 #[.int .i64 a1_0, .bool a1_1, .slice A1_2 l1_2.length c1_2, .slice A1_3 l1_3.length c1_3, .int .i64 a1_4] 35 ?_; intro gb2 hg w2 BK2 hb; have GW2 := ge_ hg be6g_; have GE2 := GW2; replace HB := hb_ hb be6g_; have NB1_2 := nl_ hg BK1; have NB2_1 := ng_ hg BK1; replace BK1 := k1_ BK1 hb; clear hb hg; have hnb1 := NB1_2.out; have hnc1 := NB2_1.out; have hcz1 := c5_ BK1; have hcz2 := c5_ BK2) | ((with_reducible refine gc_ (f := 34) rfl ?_); refine gl_ 9 Tryz.func34 #[.agg #[.int .i64 a0_0, .bool a0_1, .slice A0_2 l0_2.length c0_2], .agg #[.int .i64 a1_0, .bool a1_1, .slice A1_2 l1_2.length c1_2]] ?_; (with_reducible refine (laws_eqRow.calls k a0_0 a0_1 _ _ l0_2 a1_0 a1_1 _ _ l1_2 true _ ?side1 ?side2 ?side3 ?side4 A3.out).mono ?_); (case side1 => exact b6n8_); (case side2 => exact HC0_2.out); (case side3 => exact bjp5_); (case side4 => exact HC1_2.out); rintro e w3 ⟨rfl, hb⟩; refine ⟨_, rfl, ?_⟩; replace BK1 := k1_ BK1 hb; replace BK2 := k1_ BK2 hb; replace HB := hb_ hb bfnq_; (try clear hb); have hcz3 := c5_ BK1; have hcz4 := c5_ BK2) | ((with_reducible refine gc_ (f := 35) rfl ?_); refine gl_ 15 Tryz.func35 #[.slice A0_3 l0_3.length c0_3, .slice A1_3 l1_3.length c1_3] ?_; (with_reducible refine (laws_eqIntS.calls k _ _ l0_3 _ _ l1_3 false _ ?side1 ?side2 ?side3 ?side4 A5.out).mono ?_); (case side1 => exact bkan_); (case side2 => exact HC0_3.out); (case side3 => exact b4bh_); (case side4 => exact HC1_3.out); rintro e w' ⟨rfl, ⟨nd, rfl⟩⟩; refine ⟨_, rfl, ?_⟩))
  go_ret
  exact ⟨bnwh_, bfnq_⟩
 subst c3
 rw [if_pos rfl] at H
 by_cases c4 : a0_4 = a1_4
 case neg =>
  rw [if_neg c4] at H
  obtain ⟨c4b0, c4b1⟩ := ef_ c4
  obtain rfl := si_ H
  go_enter Tryz.func17, Tryz.ntmps17
  go_wp2_with (first | ((with_reducible refine gd_ (N := 2) rfl ?_); refine bx_ 2 #[.int .i64 a0_0, .bool a0_1, .slice A0_2 l0_2.length c0_2, .slice A0_3 l0_3.length c0_3, .int .i64 a0_4] 35 ?_; intro gb1 hg w1 BK1 hb; have GW1 := ge_ hg brt4_; have GE1 := GW1; replace HB := hb_ hb brt4_; clear hb hg) | ((with_reducible refine gd_ (N := 3) rfl ?_); refine bx_ 3 #[.int .i64 a1_0, .bool a1_1, .slice A1_2 l1_2.length c1_2, .slice A1_3 l1_3.length c1_3, .int .i64 a1_4] 35 ?_; intro gb2 hg w2 BK2 hb; have GW2 := ge_ hg be6g_; have GE2 := GW2; replace HB := hb_ hb be6g_; have NB1_2 := nl_ hg BK1; have NB2_1 := ng_ hg BK1; replace BK1 := k1_ BK1 hb; clear hb hg; have hnb1 := NB1_2.out; have hnc1 := NB2_1.out; have hcz1 := c5_ BK1; have hcz2 := c5_ BK2) | ((with_reducible refine gc_ (f := 34) rfl ?_); refine gl_ 9 Tryz.func34 #[.agg #[.int .i64 a0_0, .bool a0_1, .slice A0_2 l0_2.length c0_2], .agg #[.int .i64 a1_0, .bool a1_1, .slice A1_2 l1_2.length c1_2]] ?_; (with_reducible refine (laws_eqRow.calls k a0_0 a0_1 _ _ l0_2 a1_0 a1_1 _ _ l1_2 true _ ?side1 ?side2 ?side3 ?side4 A3.out).mono ?_); (case side1 => exact b6n8_); (case side2 => exact HC0_2.out); (case side3 => exact bjp5_); (case side4 => exact HC1_2.out); rintro e w3 ⟨rfl, hb⟩; refine ⟨_, rfl, ?_⟩; replace BK1 := k1_ BK1 hb; replace BK2 := k1_ BK2 hb; replace HB := hb_ hb bfnq_; (try clear hb); have hcz3 := c5_ BK1; have hcz4 := c5_ BK2) | ((with_reducible refine gc_ (f := 35) rfl ?_); refine gl_ 15 Tryz.func35 #[.slice A0_3 l0_3.length c0_3, .slice A1_3 l1_3.length c1_3] ?_; (with_reducible refine (laws_eqIntS.calls k _ _ l0_3 _ _ l1_3 true _ ?side1 ?side2 ?side3 ?side4 A5.out).mono ?_); (case side1 => exact bkan_); (case side2 => exact HC0_3.out); (case side3 => exact b4bh_); (case side4 => exact HC1_3.out); rintro e w' ⟨rfl, ⟨nd, rfl⟩⟩; refine ⟨_, rfl, ?_⟩))
  go_ret
  exact ⟨bnwh_, bfnq_⟩
 rw [if_pos c4] at H
 obtain ⟨c4b0, c4b1⟩ := et_ c4
 clear c4
 obtain rfl := si_ H
 go_enter Tryz.func17, Tryz.ntmps17
 go_wp2_with (first | ((with_reducible refine gd_ (N := 2) rfl ?_); refine bx_ 2 #[.int .i64 a0_0, .bool a0_1, .slice A0_2 l0_2.length c0_2, .slice A0_3 l0_3.length c0_3, .int .i64 a0_4] 35 ?_; intro gb1 hg w1 BK1 hb; have GW1 := ge_ hg brt4_; have GE1 := GW1; replace HB := hb_ hb brt4_; clear hb hg) | ((with_reducible refine gd_ (N := 3) rfl ?_); refine bx_ 3 #[.int .i64 a1_0, .bool a1_1, .slice A1_2 l1_2.length c1_2, .slice A1_3 l1_3.length c1_3, .int .i64 a1_4] 35 ?_; intro gb2 hg w2 BK2 hb; have GW2 := ge_ hg be6g_; have GE2 := GW2; replace HB := hb_ hb be6g_; have NB1_2 := nl_ hg BK1; have NB2_1 := ng_ hg BK1; replace BK1 := k1_ BK1 hb; clear hb hg; have hnb1 := NB1_2.out; have hnc1 := NB2_1.out; have hcz1 := c5_ BK1; have hcz2 := c5_ BK2) | ((with_reducible refine gc_ (f := 34) rfl ?_); refine gl_ 9 Tryz.func34 #[.agg #[.int .i64 a0_0, .bool a0_1, .slice A0_2 l0_2.length c0_2], .agg #[.int .i64 a1_0, .bool a1_1, .slice A1_2 l1_2.length c1_2]] ?_; (with_reducible refine (laws_eqRow.calls k a0_0 a0_1 _ _ l0_2 a1_0 a1_1 _ _ l1_2 true _ ?side1 ?side2 ?side3 ?side4 A3.out).mono ?_); (case side1 => exact b6n8_); (case side2 => exact HC0_2.out); (case side3 => exact bjp5_); (case side4 => exact HC1_2.out); rintro e w3 ⟨rfl, hb⟩; refine ⟨_, rfl, ?_⟩; replace BK1 := k1_ BK1 hb; replace BK2 := k1_ BK2 hb; replace HB := hb_ hb bfnq_; (try clear hb); have hcz3 := c5_ BK1; have hcz4 := c5_ BK2) | ((with_reducible refine gc_ (f := 35) rfl ?_); refine gl_ 15 Tryz.func35 #[.slice A0_3 l0_3.length c0_3, .slice A1_3 l1_3.length c1_3] ?_; (with_reducible refine (laws_eqIntS.calls k _ _ l0_3 _ _ l1_3 true _ ?side1 ?side2 ?side3 ?side4 A5.out).mono ?_); (case side1 => exact bkan_); (case side2 => exact HC0_3.out); (case side3 => exact b4bh_); (case side4 => exact HC1_3.out); rintro e w' ⟨rfl, ⟨nd, rfl⟩⟩; refine ⟨_, rfl, ?_⟩))
 go_ret
 exact ⟨bnwh_, bfnq_⟩

def laws_eqLog.f (a0_0 : ByteArray) (a0_1 : ByteArray) (a0_2 : Int) (a1_0 : ByteArray) (a1_1 : ByteArray) (a1_2 : Int) : Option (Bool) := if a0_0.toList = a1_0.toList then (if a0_1.toList = a1_1.toList then (if a0_2 = a1_2 then (some true) else (some false)) else (some false)) else (some false)
theorem laws_eqLog.calls (a0_0 : ByteArray) (a0_1 : ByteArray) (a0_2 : Int) (a1_0 : ByteArray) (a1_1 : ByteArray) (a1_2 : Int) (r : Bool) (w : World) (h : laws_eqLog.f a0_0 a0_1 a0_2 a1_0 a1_1 a1_2 = some r) :
  Calls Tryz.prog 18 #[.agg #[.string a0_0, .string a0_1, .int .i64 a0_2], .agg #[.string a1_0, .string a1_1, .int .i64 a1_2]] w fun e w' => e = .returned (.bool r) ∧ Below w.heap.size w w' := by
 have hu36 := Tryz.underlying36
 have HB := A0_ (Below.refl w.heap.size w)
 have H : (if a0_0.toList = a1_0.toList then (if a0_1.toList = a1_1.toList then (if a0_2 = a1_2 then (some true) else (some false)) else (some false)) else (some false)) = some r := h
 clear h
 by_cases c1 : a0_0.toList = a1_0.toList
 case neg =>
  rw [if_neg c1] at H
  obtain ⟨c1b0, c1b1⟩ := ef_ c1
  obtain rfl := si_ H
  go_enter Tryz.func18, Tryz.ntmps18
  go_wp2_with (first | ((with_reducible refine gd_ (N := 2) rfl ?_); refine bx_ 2 #[.string a0_0, .string a0_1, .int .i64 a0_2] 36 ?_; intro gb1 hg w1 BK1 hb; have GW1 := ge_ hg brt4_; have GE1 := GW1; replace HB := hb_ hb brt4_; clear hb hg) | ((with_reducible refine gd_ (N := 3) rfl ?_); refine bx_ 3 #[.string a1_0, .string a1_1, .int .i64 a1_2] 36 ?_; intro gb2 hg w2 BK2 hb; have GW2 := ge_ hg be6g_; have GE2 := GW2; replace HB := hb_ hb be6g_; have NB1_2 := nl_ hg BK1; have NB2_1 := ng_ hg BK1; replace BK1 := k1_ BK1 hb; clear hb hg; have hnb1 := NB1_2.out; have hnc1 := NB2_1.out; have hcz1 := c3_ BK1; have hcz2 := c3_ BK2))
  go_ret
  exact ⟨bnwh_, bfnq_⟩
 rw [if_pos c1] at H
 obtain ⟨c1b0, c1b1⟩ := et_ c1
 clear c1
 by_cases c2 : a0_1.toList = a1_1.toList
 case neg =>
  rw [if_neg c2] at H
  obtain ⟨c2b0, c2b1⟩ := ef_ c2
  obtain rfl := si_ H
  go_enter Tryz.func18, Tryz.ntmps18
  go_wp2_with (first | ((with_reducible refine gd_ (N := 2) rfl ?_); refine bx_ 2 #[.string a0_0, .string a0_1, .int .i64 a0_2] 36 ?_; intro gb1 hg w1 BK1 hb; have GW1 := ge_ hg brt4_; have GE1 := GW1; replace HB := hb_ hb brt4_; clear hb hg) | ((with_reducible refine gd_ (N := 3) rfl ?_); refine bx_ 3 #[.string a1_0, .string a1_1, .int .i64 a1_2] 36 ?_; intro gb2 hg w2 BK2 hb; have GW2 := ge_ hg be6g_; have GE2 := GW2; replace HB := hb_ hb be6g_; have NB1_2 := nl_ hg BK1; have NB2_1 := ng_ hg BK1; replace BK1 := k1_ BK1 hb; clear hb hg; have hnb1 := NB1_2.out; have hnc1 := NB2_1.out; have hcz1 := c3_ BK1; have hcz2 := c3_ BK2))
  go_ret
  exact ⟨bnwh_, bfnq_⟩
 rw [if_pos c2] at H
 obtain ⟨c2b0, c2b1⟩ := et_ c2
 clear c2
 by_cases c3 : a0_2 = a1_2
 case neg =>
  rw [if_neg c3] at H
  obtain ⟨c3b0, c3b1⟩ := ef_ c3
  obtain rfl := si_ H
  go_enter Tryz.func18, Tryz.ntmps18
  go_wp2_with (first | ((with_reducible refine gd_ (N := 2) rfl ?_); refine bx_ 2 #[.string a0_0, .string a0_1, .int .i64 a0_2] 36 ?_; intro gb1 hg w1 BK1 hb; have GW1 := ge_ hg brt4_; have GE1 := GW1; replace HB := hb_ hb brt4_; clear hb hg) | ((with_reducible refine gd_ (N := 3) rfl ?_); refine bx_ 3 #[.string a1_0, .string a1_1, .int .i64 a1_2] 36 ?_; intro gb2 hg w2 BK2 hb; have GW2 := ge_ hg be6g_; have GE2 := GW2; replace HB := hb_ hb be6g_; have NB1_2 := nl_ hg BK1; have NB2_1 := ng_ hg BK1; replace BK1 := k1_ BK1 hb; clear hb hg; have hnb1 := NB1_2.out; have hnc1 := NB2_1.out; have hcz1 := c3_ BK1; have hcz2 := c3_ BK2))
  go_ret
  exact ⟨bnwh_, bfnq_⟩
 rw [if_pos c3] at H
 obtain ⟨c3b0, c3b1⟩ := et_ c3
 clear c3
 obtain rfl := si_ H
 go_enter Tryz.func18, Tryz.ntmps18
 go_wp2_with (first | ((with_reducible refine gd_ (N := 2) rfl ?_); refine bx_ 2 #[.string a0_0, .string a0_1, .int .i64 a0_2] 36 ?_; intro gb1 hg w1 BK1 hb; have GW1 := ge_ hg brt4_; have GE1 := GW1; replace HB := hb_ hb brt4_; clear hb hg) | ((with_reducible refine gd_ (N := 3) rfl ?_); refine bx_ 3 #[.string a1_0, .string a1_1, .int .i64 a1_2] 36 ?_; intro gb2 hg w2 BK2 hb; have GW2 := ge_ hg be6g_; have GE2 := GW2; replace HB := hb_ hb be6g_; have NB1_2 := nl_ hg BK1; have NB2_1 := ng_ hg BK1; replace BK1 := k1_ BK1 hb; clear hb hg; have hnb1 := NB1_2.out; have hnc1 := NB2_1.out; have hcz1 := c3_ BK1; have hcz2 := c3_ BK2))
 go_ret
 exact ⟨bnwh_, bfnq_⟩

def laws_eqConsole.f (k : Nat) (a0_0 : Int) (a0_1 : Bool) (l0_2 : List Int) (l0_3 : List Int) (a0_4 : Int) (a0_5 : ByteArray) (a0_6 : ByteArray) (a0_7 : Int) (a1_0 : Int) (a1_1 : Bool) (l1_2 : List Int) (l1_3 : List Int) (a1_4 : Int) (a1_5 : ByteArray) (a1_6 : ByteArray) (a1_7 : Int) : Option (Bool) := (laws_eqHouse.f k a0_0 a0_1 l0_2 l0_3 a0_4 a1_0 a1_1 l1_2 l1_3 a1_4).bind fun t338 => (if t338 = true then ((laws_eqLog.f a0_5 a0_6 a0_7 a1_5 a1_6 a1_7).bind fun t339 => (if t339 = true then (some true) else (some false))) else (some false))
theorem laws_eqConsole.mono : ∀ a0 a1 a2 a3 a4 a5 a6 a7 a8 a9 a10 a11 a12 a13 a14 a15 k, LeO (laws_eqConsole.f k a0 a1 a2 a3 a4 a5 a6 a7 a8 a9 a10 a11 a12 a13 a14 a15) (laws_eqConsole.f (k + 1) a0 a1 a2 a3 a4 a5 a6 a7 a8 a9 a10 a11 a12 a13 a14 a15) := by
 intro a0 a1 a2 a3 a4 a5 a6 a7 a8 a9 a10 a11 a12 a13 a14 a15 k
 unfold laws_eqConsole.f
 repeat' with_reducible first | exact laws_eqHouse.mono .. | exact LeO.refl .. | exact LeO.none .. | refine LeO.ite ?_ ?_ | refine LeO.bind ?_ (fun _ => ?_)
theorem laws_eqConsole.calls (k : Nat) (a0_0 : Int) (a0_1 : Bool) (A0_2 : Option Addr) (c0_2 : Nat) (l0_2 : List Int) (A0_3 : Option Addr) (c0_3 : Nat) (l0_3 : List Int) (a0_4 : Int) (a0_5 : ByteArray) (a0_6 : ByteArray) (a0_7 : Int) (a1_0 : Int) (a1_1 : Bool) (A1_2 : Option Addr) (c1_2 : Nat) (l1_2 : List Int) (A1_3 : Option Addr) (c1_3 : Nat) (l1_3 : List Int) (a1_4 : Int) (a1_5 : ByteArray) (a1_6 : ByteArray) (a1_7 : Int) (r : Bool) (w : World) (hr0_2 : Kd.C (Kd.int .i64) w A0_2 l0_2.length l0_2) (hc0_2 : l0_2.length ≤ c0_2) (hr0_3 : Kd.C (Kd.int .i64) w A0_3 l0_3.length l0_3) (hc0_3 : l0_3.length ≤ c0_3) (hr1_2 : Kd.C (Kd.int .i64) w A1_2 l1_2.length l1_2) (hc1_2 : l1_2.length ≤ c1_2) (hr1_3 : Kd.C (Kd.int .i64) w A1_3 l1_3.length l1_3) (hc1_3 : l1_3.length ≤ c1_3) (h : laws_eqConsole.f k a0_0 a0_1 l0_2 l0_3 a0_4 a0_5 a0_6 a0_7 a1_0 a1_1 l1_2 l1_3 a1_4 a1_5 a1_6 a1_7 = some r) :
  Calls Tryz.prog 8 #[.agg #[.int .i64 a0_0, .bool a0_1, .slice A0_2 l0_2.length c0_2, .slice A0_3 l0_3.length c0_3, .int .i64 a0_4, .string a0_5, .string a0_6, .int .i64 a0_7], .agg #[.int .i64 a1_0, .bool a1_1, .slice A1_2 l1_2.length c1_2, .slice A1_3 l1_3.length c1_3, .int .i64 a1_4, .string a1_5, .string a1_6, .int .i64 a1_7]] w fun e w' => e = .returned (.bool r) ∧ Below w.heap.size w w' := by
 have hu38 := Tryz.underlying38
 have hu35 := Tryz.underlying35
 have hu36 := Tryz.underlying36
 have HR0_2 := A0_ hr0_2
 have HC0_2 := A0_ hc0_2
 clear hr0_2 hc0_2
 have HR0_3 := A0_ hr0_3
 have HC0_3 := A0_ hc0_3
 clear hr0_3 hc0_3
 have HR1_2 := A0_ hr1_2
 have HC1_2 := A0_ hc1_2
 clear hr1_2 hc1_2
 have HR1_3 := A0_ hr1_3
 have HC1_3 := A0_ hc1_3
 clear hr1_3 hc1_3
 have HB := A0_ (Below.refl w.heap.size w)
 have H : ((laws_eqHouse.f k a0_0 a0_1 l0_2 l0_3 a0_4 a1_0 a1_1 l1_2 l1_3 a1_4).bind fun t1 => (if t1 = true then ((laws_eqLog.f a0_5 a0_6 a0_7 a1_5 a1_6 a1_7).bind fun t2 => (if t2 = true then (some true) else (some false))) else (some false))) = some r := h
 clear h
 obtain ⟨t1, A3, H⟩ := o1_ H
 by_cases c2 : t1 = true
 case neg =>
  obtain rfl := bf_.mpr c2
  rw [if_neg ft_] at H
  obtain rfl := si_ H
  go_enter Tryz.func8, Tryz.ntmps8
  go_wp2_with (first | ((with_reducible refine gd_ (N := 2) rfl ?_); refine bx_ 2 #[.int .i64 a0_0, .bool a0_1, .slice A0_2 l0_2.length c0_2, .slice A0_3 l0_3.length c0_3, .int .i64 a0_4, .string a0_5, .string a0_6, .int .i64 a0_7] 38 ?_; intro gb1 hg w1 BK1 hb; have GW1 := ge_ hg brt4_; have GE1 := GW1; replace HB := hb_ hb brt4_; clear hb hg) | ((with_reducible refine gd_ (N := 3) rfl ?_); refine bx_ 3 #[.int .i64 a1_0, .bool a1_1, .slice A1_2 l1_2.length c1_2, .slice A1_3 l1_3.length c1_3, .int .i64 a1_4, .string a1_5, .string a1_6, .int .i64 a1_7] 38 ?_; intro gb2 hg w2 BK2 hb; have GW2 := ge_ hg be6g_; have GE2 := GW2; replace HB := hb_ hb be6g_; have NB1_2 := nl_ hg BK1; have NB2_1 := ng_ hg BK1; replace BK1 := k1_ BK1 hb; clear hb hg; have hnb1 := NB1_2.out; have hnc1 := NB2_1.out; have hcz1 := c8_ BK1; have hcz2 := c8_ BK2) | ((with_reducible refine gc_ (f := 17) rfl ?_); refine gl_ 9 Tryz.func17 #[.agg #[.int .i64 a0_0, .bool a0_1, .slice A0_2 l0_2.length c0_2, .slice A0_3 l0_3.length c0_3, .int .i64 a0_4], .agg #[.int .i64 a1_0, .bool a1_1, .slice A1_2 l1_2.length c1_2, .slice A1_3 l1_3.length c1_3, .int .i64 a1_4]] ?_; (with_reducible refine (laws_eqHouse.calls k a0_0 a0_1 _ _ l0_2 _ _ l0_3 a0_4 a1_0 a1_1 _ _ l1_2 _ _ l1_3 a1_4 false _ ?side1 ?side2 ?side3 ?side4 ?side5 ?side6 ?side7 ?side8 A3.out).mono ?_); (case side1 => exact b6n8_); (case side2 => exact HC0_2.out); (case side3 => exact bkan_); (case side4 => exact HC0_3.out); (case side5 => exact bjp5_); (case side6 => exact HC1_2.out); (case side7 => exact b4bh_); (case side8 => exact HC1_3.out); rintro e w3 ⟨rfl, hb⟩; refine ⟨_, rfl, ?_⟩; replace BK1 := k1_ BK1 hb; replace BK2 := k1_ BK2 hb; replace HB := hb_ hb bfnq_; (try clear hb)))
  go_ret
  exact ⟨bnwh_, bfnq_⟩
 subst c2
 rw [if_pos rfl] at H
 obtain ⟨t2, A5, H⟩ := o1_ H
 by_cases c3 : t2 = true
 ·subst c3
  rw [if_pos rfl] at H
  obtain rfl := si_ H
  go_enter Tryz.func8, Tryz.ntmps8
  go_wp2_with (first | ((with_reducible refine gd_ (N := 2) rfl ?_); refine bx_ 2 #[.int .i64 a0_0, .bool a0_1, .slice A0_2 l0_2.length c0_2, .slice A0_3 l0_3.length c0_3, .int .i64 a0_4, .string a0_5, .string a0_6, .int .i64 a0_7] 38 ?_; intro gb1 hg w1 BK1 hb; have GW1 := ge_ hg brt4_; have GE1 := GW1; replace HB := hb_ hb brt4_; clear hb hg) | ((with_reducible refine gd_ (N := 3) rfl ?_); refine bx_ 3 #[.int .i64 a1_0, .bool a1_1, .slice A1_2 l1_2.length c1_2, .slice A1_3 l1_3.length c1_3, .int .i64 a1_4, .string a1_5, .string a1_6, .int .i64 a1_7] 38 ?_; intro gb2 hg w2 BK2 hb; have GW2 := ge_ hg be6g_; have GE2 := GW2; replace HB := hb_ hb be6g_; have NB1_2 := nl_ hg BK1; have NB2_1 := ng_ hg BK1; replace BK1 := k1_ BK1 hb; clear hb hg; have hnb1 := NB1_2.out; have hnc1 := NB2_1.out; have hcz1 := c8_ BK1; have hcz2 := c8_ BK2) | ((with_reducible refine gc_ (f := 17) rfl ?_); refine gl_ 9 Tryz.func17 #[.agg #[.int .i64 a0_0, .bool a0_1, .slice A0_2 l0_2.length c0_2, .slice A0_3 l0_3.length c0_3, .int .i64 a0_4], .agg #[.int .i64 a1_0, .bool a1_1, .slice A1_2 l1_2.length c1_2, .slice A1_3 l1_3.length c1_3, .int .i64 a1_4]] ?_; (with_reducible refine (laws_eqHouse.calls k a0_0 a0_1 _ _ l0_2 _ _ l0_3 a0_4 a1_0 a1_1 _ _ l1_2 _ _ l1_3 a1_4 true _ ?side1 ?side2 ?side3 ?side4 ?side5 ?side6 ?side7 ?side8 A3.out).mono ?_); (case side1 => exact b6n8_); (case side2 => exact HC0_2.out); (case side3 => exact bkan_); (case side4 => exact HC0_3.out); (case side5 => exact bjp5_); (case side6 => exact HC1_2.out); (case side7 => exact b4bh_); (case side8 => exact HC1_3.out); rintro e w3 ⟨rfl, hb⟩; refine ⟨_, rfl, ?_⟩; replace BK1 := k1_ BK1 hb; replace BK2 := k1_ BK2 hb; replace HB := hb_ hb bfnq_; (try clear hb); have hcz3 := c8_ BK1; have hcz4 := c8_ BK2) | ((with_reducible refine gc_ (f := 18) rfl ?_); refine gl_ 15 Tryz.func18 #[.agg #[.string a0_5, .string a0_6, .int .i64 a0_7], .agg #[.string a1_5, .string a1_6, .int .i64 a1_7]] ?_; (with_reducible refine (laws_eqLog.calls a0_5 a0_6 a0_7 a1_5 a1_6 a1_7 true _ A5.out).mono ?_); rintro e w4 ⟨rfl, hb⟩; refine ⟨_, rfl, ?_⟩; replace BK1 := k1_ BK1 hb; replace BK2 := k1_ BK2 hb; replace HB := hb_ hb bfnq_; (try clear hb)))
  go_ret
  exact ⟨bnwh_, bfnq_⟩
 obtain rfl := bf_.mpr c3
 rw [if_neg ft_] at H
 obtain rfl := si_ H
 go_enter Tryz.func8, Tryz.ntmps8
 go_wp2_with (first | ((with_reducible refine gd_ (N := 2) rfl ?_); refine bx_ 2 #[.int .i64 a0_0, .bool a0_1, .slice A0_2 l0_2.length c0_2, .slice A0_3 l0_3.length c0_3, .int .i64 a0_4, .string a0_5, .string a0_6, .int .i64 a0_7] 38 ?_; intro gb1 hg w1 BK1 hb; have GW1 := ge_ hg brt4_; have GE1 := GW1; replace HB := hb_ hb brt4_; clear hb hg) | ((with_reducible refine gd_ (N := 3) rfl ?_); refine bx_ 3 #[.int .i64 a1_0, .bool a1_1, .slice A1_2 l1_2.length c1_2, .slice A1_3 l1_3.length c1_3, .int .i64 a1_4, .string a1_5, .string a1_6, .int .i64 a1_7] 38 ?_; intro gb2 hg w2 BK2 hb; have GW2 := ge_ hg be6g_; have GE2 := GW2; replace HB := hb_ hb be6g_; have NB1_2 := nl_ hg BK1; have NB2_1 := ng_ hg BK1; replace BK1 := k1_ BK1 hb; clear hb hg; have hnb1 := NB1_2.out; have hnc1 := NB2_1.out; have hcz1 := c8_ BK1; have hcz2 := c8_ BK2) | ((with_reducible refine gc_ (f := 17) rfl ?_); refine gl_ 9 Tryz.func17 #[.agg #[.int .i64 a0_0, .bool a0_1, .slice A0_2 l0_2.length c0_2, .slice A0_3 l0_3.length c0_3, .int .i64 a0_4], .agg #[.int .i64 a1_0, .bool a1_1, .slice A1_2 l1_2.length c1_2, .slice A1_3 l1_3.length c1_3, .int .i64 a1_4]] ?_; (with_reducible refine (laws_eqHouse.calls k a0_0 a0_1 _ _ l0_2 _ _ l0_3 a0_4 a1_0 a1_1 _ _ l1_2 _ _ l1_3 a1_4 true _ ?side1 ?side2 ?side3 ?side4 ?side5 ?side6 ?side7 ?side8 A3.out).mono ?_); (case side1 => exact b6n8_); (case side2 => exact HC0_2.out); (case side3 => exact bkan_); (case side4 => exact HC0_3.out); (case side5 => exact bjp5_); (case side6 => exact HC1_2.out); (case side7 => exact b4bh_); (case side8 => exact HC1_3.out); rintro e w3 ⟨rfl, hb⟩; refine ⟨_, rfl, ?_⟩; replace BK1 := k1_ BK1 hb; replace BK2 := k1_ BK2 hb; replace HB := hb_ hb bfnq_; (try clear hb); have hcz3 := c8_ BK1; have hcz4 := c8_ BK2) | ((with_reducible refine gc_ (f := 18) rfl ?_); refine gl_ 15 Tryz.func18 #[.agg #[.string a0_5, .string a0_6, .int .i64 a0_7], .agg #[.string a1_5, .string a1_6, .int .i64 a1_7]] ?_; (with_reducible refine (laws_eqLog.calls a0_5 a0_6 a0_7 a1_5 a1_6 a1_7 false _ A5.out).mono ?_); rintro e w4 ⟨rfl, hb⟩; refine ⟨_, rfl, ?_⟩; replace BK1 := k1_ BK1 hb; replace BK2 := k1_ BK2 hb; replace HB := hb_ hb bfnq_; (try clear hb)))
 go_ret
 exact ⟨bnwh_, bfnq_⟩

end Go.Proofs.YtgmodeeebkngcaaGreatDoor.QFnExactIsValidConsole
-- packed
-- squeezed
