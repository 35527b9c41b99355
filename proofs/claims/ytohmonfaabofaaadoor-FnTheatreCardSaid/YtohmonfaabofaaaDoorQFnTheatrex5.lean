-- Written by px.py, a program of this session, over the kit's printer: some functions have a definition and a proof of this session's own.
import Derived.Test.YtohmonfaabofaaaDoorQFnTheatrex0
import Derived.Test.YtohmonfaabofaaaDoorQFnTheatrex1
import Derived.Test.YtohmonfaabofaaaDoorQFnTheatrex2
import Derived.Test.YtohmonfaabofaaaDoorQFnTheatrex3
import Derived.Test.YtohmonfaabofaaaDoorQFnTheatrex4
namespace Go.Proofs.YtohmonfaabofaaaDoor.QFnTheatre
open Go.RowKit Go.Proofs.YtohmonfaabofaaaDoorW.PrintWords Go.Proofs.YtohmonfaabofaaaDoorW.PrintLast Go.Proofs.YtohmonfaabofaaaDoorW.PrintMore
attribute [local go_sem] max2_int min2_int max_two min_two max_three min_three max_four min_four   -- for this text's walks alone
set_option linter.unusedVariables false
set_option linter.unusedSimpArgs false
set_option maxHeartbeats 8000000
set_option maxRecDepth 100000

mutual
def spec_CountStands.l0 : Nat → Int → List Int → Int → Option (List Int × Bool)
 | 0, _, _, _ => none
 | k + 1, x0, x4, x5 => if x5 < x0 then (if 0 ≤ (wrap64 ((x4.length : Int) + x5)) then (if (wrap64 ((x4.length : Int) + x5) : Int).toNat ≤ 35184372088832 then (spec_CountStands.l1 k x0 x4 x5 (List.replicate (wrap64 ((x4.length : Int) + x5) : Int).toNat 0) 0) else (none)) else (none)) else (some (x4, true))
def spec_CountStands.l1 : Nat → Int → List Int → Int → List Int → Int → Option (List Int × Bool)
 | 0, _, _, _, _, _ => none
 | k + 1, x0, x4, x5, x6, x7 => if x7 < (x4.length : Int) then (spec_CountStands.l2 k x0 x4 x5 x6 x7 0) else (spec_CountStands.l0 k x0 x6 (wrap64 (x5 + 1)))
def spec_CountStands.l2 : Nat → Int → List Int → Int → List Int → Int → Int → Option (List Int × Bool)
 | 0, _, _, _, _, _, _ => none
 | k + 1, x0, x4, x5, x6, x7, x8 => if x8 ≤ x5 then (if 0 ≤ (wrap64 (x7 + x8)) then (if (wrap64 (x7 + x8)) < (x6.length : Int) then (if 0 ≤ x7 then (if x7 < (x4.length : Int) then (spec_CountStands.l2 k x0 x4 x5 (x6.set ((wrap64 (x7 + x8)) : Int).toNat (wrap64 ((rd x6 (wrap64 (x7 + x8))) + (rd x4 x7)))) x7 (wrap64 (x8 + 1))) else (none)) else (none)) else (none)) else (none)) else (spec_CountStands.l1 k x0 x4 x5 x6 (wrap64 (x7 + 1)))
end
def spec_CountStands.f (k : Nat) (a0 : Int) : Option (List Int × Bool) := (spec_l1In.f a0 1 10).bind fun t624 => (if t624 = true then (spec_CountStands.l0 k a0 (([1] : List Int)) 1) else (some ((([] : List Int)), false)))
theorem spec_CountStands.mono_l : ∀ k, (∀ y0 y1 y2, LeO (spec_CountStands.l0 k y0 y1 y2) (spec_CountStands.l0 (k + 1) y0 y1 y2)) ∧ (∀ y0 y1 y2 y3 y4, LeO (spec_CountStands.l1 k y0 y1 y2 y3 y4) (spec_CountStands.l1 (k + 1) y0 y1 y2 y3 y4)) ∧ (∀ y0 y1 y2 y3 y4 y5, LeO (spec_CountStands.l2 k y0 y1 y2 y3 y4 y5) (spec_CountStands.l2 (k + 1) y0 y1 y2 y3 y4 y5))
 | 0 => ⟨fun _ _ _ r h => by simp [spec_CountStands.l0] at h, fun _ _ _ _ _ r h => by simp [spec_CountStands.l1] at h, fun _ _ _ _ _ _ r h => by simp [spec_CountStands.l2] at h⟩
 | k + 1 => by
  obtain ⟨ih0, ih1, ih2⟩ := spec_CountStands.mono_l k
  refine ⟨?_, ?_, ?_⟩
  ·intro y0 y1 y2
   unfold spec_CountStands.l0
   repeat' with_reducible first | exact ih0 .. | exact ih1 .. | exact ih2 .. | exact LeO.refl .. | exact LeO.none .. | refine LeO.ite ?_ ?_ | refine LeO.bind ?_ (fun _ => ?_)
  ·intro y0 y1 y2 y3 y4
   unfold spec_CountStands.l1
   repeat' with_reducible first | exact ih0 .. | exact ih1 .. | exact ih2 .. | exact LeO.refl .. | exact LeO.none .. | refine LeO.ite ?_ ?_ | refine LeO.bind ?_ (fun _ => ?_)
  ·intro y0 y1 y2 y3 y4 y5
   unfold spec_CountStands.l2
   repeat' with_reducible first | exact ih0 .. | exact ih1 .. | exact ih2 .. | exact LeO.refl .. | exact LeO.none .. | refine LeO.ite ?_ ?_ | refine LeO.bind ?_ (fun _ => ?_)
theorem spec_CountStands.mono : ∀ a0 k, LeO (spec_CountStands.f k a0) (spec_CountStands.f (k + 1) a0) := by
 intro a0 k
 obtain ⟨ih0, ih1, ih2⟩ := spec_CountStands.mono_l k
 unfold spec_CountStands.f
 repeat' with_reducible first | exact ih0 .. | exact ih1 .. | exact ih2 .. | exact LeO.refl .. | exact LeO.none .. | refine LeO.ite ?_ ?_ | refine LeO.bind ?_ (fun _ => ?_)
def spec_CountStands.T14 : Bool × List (List Nat × List Nat) := (true, [([], []), ([], []), ([], []), ([1, 2], [1, 2]), ([], []), ([], []), ([], []), ([5, 6], [5, 6]), ([4, 7], [4, 7]), ([8], [8]), ([], []), ([], []), ([10, 11], [10, 11]), ([12], [12]), ([9, 13], [9, 13]), ([0, 3, 0, 1, 2, 3, 4, 5, 6, 7, 8, 9, 10, 11, 12, 13, 14], [0, 3]), ([15, 14, 0, 1, 2, 3, 4, 5, 6, 7, 8, 9, 10, 11, 12, 13, 14], [14, 15])])
def spec_CountStands.B14 : List Nat := [0, 0, 0, 6, 0, 0, 0, 96, 240, 496, 0, 0, 3072, 7168, 16368, 32767, 65535]
theorem spec_CountStands.tab14 : rtab .any (opsOf Tryd.f33 14) = spec_CountStands.T14 := by kernel_rfl
theorem spec_CountStands.bits14 : waitsOk spec_CountStands.T14.2 spec_CountStands.B14 = true := by kernel_rfl
theorem spec_CountStands.calls (k : Nat) (a0 : Int) (r1 : List Int) (r2 : Bool) (w : World) (h : spec_CountStands.f k a0 = some (r1, r2)) :
  Calls Tryd.prog 33 #[.int .i64 a0] w fun e w' => ∃ v0_ : Value, e = .returned (.tuple #[v0_, .bool r2]) ∧ Kd.R (Kd.int .i64) 3 w' w.heap.size (fun _ => True) v0_ r1 ∧ Below w.heap.size w w' := by
 have HB := A0_ (Below.refl w.heap.size w)
 have H : ((spec_l1In.f a0 1 10).bind fun t1 => (if t1 = true then (spec_CountStands.l0 k a0 (([1] : List Int)) 1) else (some ((([] : List Int)), false)))) = some (r1, r2) := h
 clear h
 obtain ⟨t1, A2, H⟩ := o1_ H
 by_cases c1 : t1 = true
 case neg =>
  obtain rfl := bf_.mpr c1
  rw [if_neg ft_] at H
  obtain ⟨y1, hy1⟩ : ∃ y_ : List Int, y_ = (([] : List Int)) := ⟨_, rfl⟩
  replace H : (some (y1, false)) = some (r1, r2) := bgiq_
  have Ny1 := A0_ hy1
  clear hy1
  simp only [sj_, pj_] at H
  obtain ⟨rfl, rfl⟩ := H
  go_enter Tryd.func33, Tryd.ntmps33
  go_wp2_with (first | ((with_reducible refine gc_ (f := 65) rfl ?_); refine gl_ 10 Tryd.func65 #[.int .i64 a0, .int .i64 1, .int .i64 10] ?_; (with_reducible refine (spec_l1In.calls a0 1 10 false _ A2.out).mono ?_); rintro e w' ⟨rfl, ⟨nd, rfl⟩⟩; refine ⟨_, rfl, ?_⟩) | ((with_reducible refine gd_ (N := 12) rfl ?_); refine Kd.R_lit (Kd.int .i64) _ 3 ?hg (N := 12) ?hd (xs := ([] : List Int)) (inner := []) (ok := fun _ => True) (okp := fun _ => True) ?hr ?hp (fun _ hk => hk) trivial (Below.refl _ _) (Nat.le_refl _) bxka_ ?_; (case hd => rfl); (case hg => rfl); (case hr => go_simp; first | done | rfl); (case hp => exact (Reps.none _ _)); intro v1 w1 ho25 hb hg_ hnew_; clear hg_ hnew_; (first | rw [← Ny1.out] at ho25 | (simp only [Int.reduceToNat] at ho25; rw [← Ny1.out] at ho25)); have HO1 := A0_ (Kd.R_lower ho25 (bz_ brt4_)); replace HB := hb_ hb brt4_; clear hb ho25))
  go_ret2
  exact ⟨_, bnwh_, bsm5_, brt4_⟩
 subst c1
 rw [if_pos rfl] at H
 obtain ⟨y1, hy1⟩ : ∃ y_ : List Int, y_ = (([1] : List Int)) := ⟨_, rfl⟩
 replace H : (spec_CountStands.l0 k a0 y1 1) = some (r1, r2) := bgiq_
 have Ny1 := A0_ hy1
 clear hy1
 have H' := A0_ H
 clear H
 go_enter Tryd.func33, Tryd.ntmps33
 go_wp2_with (first | ((with_reducible refine gc_ (f := 65) rfl ?_); refine gl_ 10 Tryd.func65 #[.int .i64 a0, .int .i64 1, .int .i64 10] ?_; (with_reducible refine (spec_l1In.calls a0 1 10 true _ A2.out).mono ?_); rintro e w' ⟨rfl, ⟨nd, rfl⟩⟩; refine ⟨_, rfl, ?_⟩) | ((with_reducible refine gd_ (N := 13) rfl ?_); refine Kd.R_lit (Kd.int .i64) _ 3 ?hg (N := 13) ?hd (xs := ([1] : List Int)) (inner := [.int .i64 1]) (ok := fun _ => True) (okp := fun _ => True) ?hr ?hp (fun _ hk => hk) trivial (Below.refl _ _) (Nat.le_refl _) bxka_ ?_; (case hd => rfl); (case hg => rfl); (case hr => go_simp; first | done | rfl); (case hp => exact (Reps.one (show Kd.M (Kd.int .i64) _ _ _ 1 [.int .i64 1] from rfl) (Reps.none _ _))); intro v1 w1 ho5 hb hg_ hnew_; clear hg_ hnew_; (first | rw [← Ny1.out] at ho5 | (simp only [Int.reduceToNat] at ho5; rw [← Ny1.out] at ho5)); have HO1 := A0_ (Kd.R_lower ho5 (bz_ brt4_)); replace HB := hb_ hb brt4_; clear hb ho5))
 go_loopg [4, 5] k (fun kq v2 v3 w' => ∃ (x4_1 : List Int) (x5_1 : Int), v3 = .int .i64 x5_1 ∧ Aside0 (spec_CountStands.l0 kq a0 x4_1 x5_1 = some (r1, r2)) ∧ Aside0 (kq ≤ k) ∧ Aside0 (Kd.R (Kd.int .i64) 3 w' w.heap.size (fun _ => True) v2 x4_1) ∧ Aside0 (Below w.heap.size w w'))
 case atStart => exact ⟨(y1), (1), b2ew_, H', ⟨Nat.le_refl _⟩, ⟨bsm5_⟩, ⟨brt4_⟩⟩
 clear H'
 try clear c1
 obtain ⟨x4_1, x5_1, rfl, HA, HK1, HO_1, HB⟩ := hrel
 cases gk with | zero => exact absurd HA.out (by simp [spec_CountStands.l0]) | succ k1 => ?_
 have H := HA.out
 clear HA
 simp only [spec_CountStands.l0] at H
 by_cases c2 : x5_1 < a0
 case neg =>
  rw [if_neg c2] at H
  have c2b0 : decide (x5_1 < a0) = false := decide_eq_false c2
  clear c2
  simp only [sj_, pj_] at H
  obtain ⟨rfl, rfl⟩ := H
  go_wp2
  go_ret2
  exact ⟨_, bnwh_, bwik_, brt4_⟩
 rw [if_pos c2] at H
 have c2b0 : decide (x5_1 < a0) = true := dt_ c2
 clear c2
 obtain ⟨ji1, hji1⟩ : ∃ j_ : Int, (wrap64 ((x4_1.length : Int) + x5_1)) = j_ := ⟨_, rfl⟩
 replace H : (if 0 ≤ (ji1) then (if (ji1 : Int).toNat ≤ 35184372088832 then (spec_CountStands.l1 k1 a0 x4_1 x5_1 (List.replicate (ji1 : Int).toNat 0) 0) else (none)) else (none)) = some (r1, r2) := bmns_
 have hji7w : (IntKind.i64.wrap ((x4_1.length : Int) + x5_1)) = ji1 := (i64_w _).trans hji1
 by_cases c3 : 0 ≤ (ji1)
 case neg =>
  rw [if_neg c3] at H
  exact absurd H bxka_
 rw [if_pos c3] at H
 have c3b0 := eq_true c3
 have c3b1 : decide (0 ≤ (ji1)) = true := dt_ c3
 clear c3
 by_cases c4 : (ji1 : Int).toNat ≤ 35184372088832
 case neg =>
  rw [if_neg c4] at H
  exact absurd H bxka_
 rw [if_pos c4] at H
 have c4b0 := eq_true c4
 have c4b1 : decide ((ji1 : Int).toNat ≤ 35184372088832) = true := dt_ c4
 clear c4
 obtain ⟨y2, hy2⟩ : ∃ y_ : List Int, y_ = (List.replicate (ji1 : Int).toNat 0) := ⟨_, rfl⟩
 replace H : (spec_CountStands.l1 k1 a0 x4_1 x5_1 y2 0) = some (r1, r2) := bscs_
 have Ny2 := A0_ hy2
 clear hy2
 have H' := A0_ H
 clear H
 obtain ⟨Ao1, co1, eo1⟩ := Kd.R_slice HO_1.out
 subst eo1
 go_wp2_with (first | ((with_reducible refine gd_ (N := 23) rfl ?_); refine Kd.R_make (Kd.int .i64) _ 3 rfl (N := 23) rfl 22 _ _ rfl ji1 rfl rfl Tryd.underlying22 (.int .i64 0) 8 info3 rfl bi3y_ bh19_ 0 (ok := fun _ => True) (okp := fun _ => True) rfl (fun _ hk => hk) trivial (od_ bpil_) (Nat.le_trans (Nat.mul_le_mul_right _ (od_ bpil_ : ji1.toNat ≤ 35184372088832)) bh19_) (Below.refl _ _) (Nat.le_refl _) ?_; intro v4 w2 ho12 hb hg_ hnew_; clear hg_ hnew_; (first | rw [← Ny2.out] at ho12 | (simp only [Int.reduceToNat] at ho12; rw [← Ny2.out] at ho12)); have HO2 := A0_ (Kd.R_lower (Kd.R_new' ho12 (Kd.R_lt bwik_)) (bz_ brt4_)); replace HO_1 := A0_ (Kd.R_elder' bwik_ (Kd.R_base ho12) hb); replace HB := hb_ hb brt4_; clear hb ho12))
 go_loopg [7] k1 (fun kq v5 w' => ∃ (x6_2 : List Int) (x7_2 : Int), v5 = .int .i64 x7_2 ∧ Aside0 (spec_CountStands.l1 kq a0 x4_1 x5_1 x6_2 x7_2 = some (r1, r2)) ∧ Aside0 (kq ≤ k1) ∧ Aside0 (Kd.R (Kd.int .i64) 3 w' w.heap.size (fun k_ => no_ v4 k_) (.slice Ao1 x4_1.length co1) x4_1) ∧ Aside0 (Kd.R (Kd.int .i64) 3 w' w.heap.size (fun k_ => no_ (.slice Ao1 x4_1.length co1) k_) v4 x6_2) ∧ Aside0 (Below w.heap.size w w'))
 case atStart => exact ⟨(y2), (0), b2ew_, H', ⟨Nat.le_refl _⟩, ⟨bepl_⟩, ⟨b61e_⟩, ⟨brt4_⟩⟩
 clear H'
 try clear c1
 try clear c2
 try clear c2b0
 try clear c3
 try clear c3b0
 try clear c3b1
 try clear c4
 try clear c4b0
 try clear c4b1
 obtain ⟨x6_2, x7_2, rfl, HA, HK2, HO_1, HO_2, HB⟩ := hrel
 cases gk with | zero => exact absurd HA.out (by simp [spec_CountStands.l1]) | succ k2 => ?_
 have H := HA.out
 clear HA
 simp only [spec_CountStands.l1] at H
 by_cases c5 : x7_2 < (x4_1.length : Int)
 case neg =>
  rw [if_neg c5] at H
  have c5b0 : decide (x7_2 < (x4_1.length : Int)) = false := decide_eq_false c5
  clear c5
  have H' := A0_ H
  clear H
  go_wp2
  go_roundg k2
  case measure => have := HK1.out; have := HK2.out; omega
  exact ⟨(x6_2), (wrap64 (x5_1 + 1)), b2ew_, H', ⟨b0r5_⟩, ⟨bixu_⟩, ⟨brt4_⟩⟩
 rw [if_pos c5] at H
 have c5b0 : decide (x7_2 < (x4_1.length : Int)) = true := dt_ c5
 clear c5
 have H' := A0_ H
 clear H
 go_wp2
 go_loopg [8] k2 (fun kq v6 w' => ∃ (x6_3 : List Int) (x8_3 : Int), v6 = .int .i64 x8_3 ∧ Aside0 (spec_CountStands.l2 kq a0 x4_1 x5_1 x6_3 x7_2 x8_3 = some (r1, r2)) ∧ Aside0 (kq ≤ k2) ∧ Aside0 (Kd.R (Kd.int .i64) 3 w' w.heap.size (fun k_ => no_ v4 k_) (.slice Ao1 x4_1.length co1) x4_1) ∧ Aside0 (Kd.R (Kd.int .i64) 3 w' w.heap.size (fun k_ => no_ (.slice Ao1 x4_1.length co1) k_) v4 x6_3) ∧ Aside0 (Below w.heap.size w w'))
 case atStart => exact ⟨(x6_2), (0), b2ew_, H', ⟨Nat.le_refl _⟩, ⟨bwik_⟩, ⟨b7sq_⟩, ⟨brt4_⟩⟩
 clear H'
 try clear c1
 try clear c2
 try clear c2b0
 try clear c3
 try clear c3b0
 try clear c3b1
 try clear c4
 try clear c4b0
 try clear c4b1
 try clear c5
 try clear c5b0
 obtain ⟨x6_3, x8_3, rfl, HA, HK3, HO_1, HO_2, HB⟩ := hrel
 cases gk with | zero => exact absurd HA.out (by simp [spec_CountStands.l2]) | succ k3 => ?_
 have H := HA.out
 clear HA
 simp only [spec_CountStands.l2] at H
 by_cases c6 : x8_3 ≤ x5_1
 case neg =>
  rw [if_neg c6] at H
  have c6b0 : decide (x8_3 ≤ x5_1) = false := decide_eq_false c6
  clear c6
  have H' := A0_ H
  clear H
  go_wp2
  go_roundg k3
  case measure => have := HK1.out; have := HK2.out; have := HK3.out; omega
  exact ⟨(x6_3), (wrap64 (x7_2 + 1)), b2ew_, H', ⟨b9ad_⟩, ⟨bwik_⟩, ⟨b7sq_⟩, ⟨brt4_⟩⟩
 rw [if_pos c6] at H
 have c6b0 : decide (x8_3 ≤ x5_1) = true := dt_ c6
 clear c6
 obtain ⟨ji2, hji2⟩ : ∃ j_ : Int, (wrap64 (x7_2 + x8_3)) = j_ := ⟨_, rfl⟩
 replace H : (if 0 ≤ (ji2) then (if (ji2) < (x6_3.length : Int) then (if 0 ≤ x7_2 then (if x7_2 < (x4_1.length : Int) then (spec_CountStands.l2 k3 a0 x4_1 x5_1 (x6_3.set ((ji2) : Int).toNat (wrap64 ((rd x6_3 (ji2)) + (rd x4_1 x7_2)))) x7_2 (wrap64 (x8_3 + 1))) else (none)) else (none)) else (none)) else (none)) = some (r1, r2) := b9dm_
 have hji15w : (IntKind.i64.wrap (x7_2 + x8_3)) = ji2 := (i64_w _).trans hji2
 by_cases c7 : 0 ≤ (ji2)
 case neg =>
  rw [if_neg c7] at H
  exact absurd H bxka_
 rw [if_pos c7] at H
 have c7b0 : decide (0 ≤ (ji2)) = true := dt_ c7
 clear c7
 by_cases c8 : (ji2) < (x6_3.length : Int)
 case neg =>
  rw [if_neg c8] at H
  exact absurd H bxka_
 rw [if_pos c8] at H
 have c8b0 : decide ((ji2) < (x6_3.length : Int)) = true := dt_ c8
 clear c8
 by_cases c9 : 0 ≤ x7_2
 case neg =>
  rw [if_neg c9] at H
  exact absurd H bxka_
 rw [if_pos c9] at H
 have c9b0 : decide (0 ≤ x7_2) = true := dt_ c9
 clear c9
 by_cases c10 : x7_2 < (x4_1.length : Int)
 case neg =>
  rw [if_neg c10] at H
  exact absurd H bxka_
 rw [if_pos c10] at H
 have c10b0 : decide (x7_2 < (x4_1.length : Int)) = true := dt_ c10
 clear c10
 obtain ⟨y3, hy3⟩ : ∃ y_ : List Int, y_ = (x6_3.set ((ji2) : Int).toNat (wrap64 ((rd x6_3 (ji2)) + (rd x4_1 x7_2)))) := ⟨_, rfl⟩
 replace H : (spec_CountStands.l2 k3 a0 x4_1 x5_1 y3 x7_2 (wrap64 (x8_3 + 1))) = some (r1, r2) := b2x6_
 have Ny3 := A0_ hy3
 clear hy3
 have H' := A0_ H
 clear H
 try go_wp2
 replace HO_1 := A0_ (rd_ HO_1.out)
 replace HO_2 := A0_ (rd_ HO_2.out)
 replace HB := A0_ (bd_ HB.out)
 obtain ⟨Ao2, co2, eo2⟩ := Kd.R_slice HO_2.out
 (first | subst eo2 | (injection eo2 with f1_ f2_ f3_; have f4_ := f1_.symm; have f5_ := f3_.symm; clear f1_ f2_ f3_; subst f4_; subst f5_))
 have p1 : 0 ≤ ((ji2) : Int) := od_ bpil_
 have q1 : (ji2) < (x6_3.length : Int) := od_ bpil_
 obtain ⟨ad1, e1, hx1_0⟩ := Kd.at_int (rr_ HO_2.out).2.2 (ji2) p1 q1
 cases e1
 replace p1 := eq_true p1
 replace q1 := eq_true q1
 have p2 : 0 ≤ (x7_2 : Int) := od_ bpil_
 have q2 : x7_2 < (x4_1.length : Int) := od_ bpil_
 obtain ⟨ad2, e2, hx2_0⟩ := Kd.at_int (rr_ HO_1.out).2.2 x7_2 p2 q2
 cases e2
 replace p2 := eq_true p2
 replace q2 := eq_true q2
 have p3 : 0 ≤ ((ji2) : Int) := od_ bpil_
 have q3 : ((ji2) : Int) < ((x6_3.length : Int) : Int) := od_ bpil_
 obtain ⟨go20, co3, eo3, gb1, gl20, cl20, HG20⟩ := Kd.R_form HO_2.out bh19_
 (first | cases eo3 | (injection eo3 with ea_ en_ ec_; (first | subst ea_ | (injection ea_ with ea_; subst ea_)); subst ec_; clear en_))
 have GB20 := A0_ gb1
 have GG20 := A0_ HG20
 clear gb1 gl20 HG20
 (first | simp only [add_plain] at hx1_0 | skip)
 obtain ⟨hx3_0, hf1_0⟩ := Kd.R_celln 0 HO_2.out ((ji2) : Int) p3 q3
 replace p3 := eq_true p3
 replace q3 := eq_true q3
 have HP1 := Kd.R_putn HO_2.out ((ji2) : Int) (wrap64 ((rd x6_3 (ji2)) + (rd x4_1 x7_2)))
 rw [← Ny3.out] at HP1
 have HQ23 := A0_ HP1
 clear HP1
 refine start_ (n := 17) (S := fun w' => w'.cell? ⟨go20, ((ji2)).toNat, none⟩ = some (.int .i64 (rd x6_3 (ji2))) ∧ w'.cell? (ad2.add (x7_2).toNat) = some (.int .i64 (rd x4_1 x7_2))) (ds := [16]) #[false, false, false, false, false, false, false, false, false, false, false, false, false, false, false, false, false] bfqv_ rfl rfl ⟨hx1_0, hx2_0⟩ (fun hHeld => ?_); refine with_tabW spec_CountStands.tab14 spec_CountStands.bits14 (fun HT_ HW_ => ?_)
 generalize wr.drew = w3 at HO_1 HO_2 HB GG20 HQ23 hf1_0 hx3_0 hx1_0 hx2_0 hHeld ⊢
 refine pu_ 0 35 ?_
 refine pu_ 1 36 ?_
 refine pu_ 2 37 ?_
 refine pu_ 3 38 ?_
 refine pu_ 4 39 ?_
 refine pu_ 5 40 ?_
 refine pu_ 6 41 ?_
 refine pu_ 7 42 ?_
 refine pu_ 8 43 ?_
 refine pu_ 10 45 ?_
 refine pu_ 11 46 ?_
 refine pu_ 12 47 ?_
 refine tk_ 9 44 hHeld ?_
 refine tk_ 13 48 hHeld ?_
 refine pu_ 14 49 ?_
 refine pu_ 15 50 ?_
 refine last_ (i := 16) (N := none) #[true, true, true, true, true, true, true, true, true, true, true, true, true, true, true, true, true] rfl rfl (one_of HT_.out bfqv_) bi3y_ (fun K hK => ?_)
 refine skip_ (w1 := ?_) b139_ rfl ?_ ?_
 rotate_left
 ·go_simp
  rfl
 refine hK.out _ _ ?_
 clear hK K
 refine dn_ ?_
 try go_wp2
 go_roundg k3
 case measure => have := HK1.out; have := HK2.out; have := HK3.out; omega
 exact ⟨(y3), (wrap64 (x8_3 + 1)), b2ew_, H', ⟨b9ad_⟩, ⟨by (with_reducible repeat (first | apply ra_ | apply rn_ | apply rd_)); exact Kd.R_mono (Kd.R_far (p := ⟨go20, ((ji2) : Int).toNat, none⟩) (Kd.R_mono HO_1.out (fun k_ hk => (⟨hk, fun e_ => hk (by rw [e_]; rfl)⟩ : _ ∧ k_ ≠ go20))) (fun _ hk => hk.2) (.int .i64 (wrap64 ((rd x6_3 (ji2)) + (rd x4_1 x7_2))))) (fun _ hk => hk.1)⟩, ⟨by (with_reducible repeat (first | apply ra_ | apply rn_ | apply rd_)); exact HQ23.out⟩, ⟨by repeat (with_reducible first | exact HB.out | apply ba_ | apply bn_ | apply bd_ | refine bs_ ?_ GB20.out)⟩⟩

def laws_rHas.l0 : Nat → List Int → Int → Int → Option (Bool)
 | 0, _, _, _ => none
 | k + 1, x0, x1, x5 => if x5 < (x0.length : Int) then (if 0 ≤ x5 then (if (rd x0 x5) = x1 then (some true) else (laws_rHas.l0 k x0 x1 (wrap64 (x5 + 1)))) else (none)) else (some false)
def laws_rHas.f (k : Nat) (l0 : List Int) (a1 : Int) : Option (Bool) := laws_rHas.l0 k l0 a1 0
theorem laws_rHas.mono_l : ∀ k, (∀ y0 y1 y2, LeO (laws_rHas.l0 k y0 y1 y2) (laws_rHas.l0 (k + 1) y0 y1 y2))
 | 0 => fun _ _ _ r h => by simp [laws_rHas.l0] at h
 | k + 1 => by
  have ih0 := laws_rHas.mono_l k
  ·intro y0 y1 y2
   unfold laws_rHas.l0
   repeat' with_reducible first | exact ih0 .. | exact LeO.refl .. | exact LeO.none .. | refine LeO.ite ?_ ?_ | refine LeO.bind ?_ (fun _ => ?_)
theorem laws_rHas.mono : ∀ a0 a1 k, LeO (laws_rHas.f k a0 a1) (laws_rHas.f (k + 1) a0 a1) := by
 intro a0 a1 k
 have ih0 := laws_rHas.mono_l k
 unfold laws_rHas.f
 repeat' with_reducible first | exact ih0 .. | exact LeO.refl .. | exact LeO.none .. | refine LeO.ite ?_ ?_ | refine LeO.bind ?_ (fun _ => ?_)
theorem laws_rHas.calls (k : Nat) (A0 : Option Addr) (c0 : Nat) (l0 : List Int) (a1 : Int) (r : Bool) (w : World) (hr0 : Kd.C (Kd.int .i64) w A0 l0.length l0) (hc0 : l0.length ≤ c0) (h : laws_rHas.f k l0 a1 = some r) :
  Calls Tryd.prog 34 #[.slice A0 l0.length c0, .int .i64 a1] w fun e w' => e = .returned (.bool r) ∧ Drawn0 w w' := by
 have HR0 := A0_ hr0
 have HC0 := A0_ hc0
 clear hr0 hc0
 have H : (laws_rHas.l0 k l0 a1 0) = some r := h
 clear h
 have H' := A0_ H
 clear H
 go_enter Tryd.func34, Tryd.ntmps34
 go_wp2
 go_loopg [5] k (fun kq v1 w' => ∃ (x5_1 : Int), v1 = .int .i64 x5_1 ∧ Aside0 (laws_rHas.l0 kq l0 a1 x5_1 = some r) ∧ Aside0 (kq ≤ k) ∧ Drawn0 w w')
 case atStart => exact ⟨(0), b2ew_, H', ⟨Nat.le_refl _⟩, boaj_⟩
 clear H'
 obtain ⟨x5_1, rfl, HA, HK1, ⟨m1, rfl⟩⟩ := hrel
 cases gk with | zero => exact absurd HA.out (by simp [laws_rHas.l0]) | succ k1 => ?_
 have H := HA.out
 clear HA
 simp only [laws_rHas.l0] at H
 by_cases c1 : x5_1 < (l0.length : Int)
 case neg =>
  rw [if_neg c1] at H
  have c1b0 : decide (x5_1 < (l0.length : Int)) = false := decide_eq_false c1
  clear c1
  obtain rfl := si_ H
  go_wp2
  go_ret
  exact ⟨b04z_, boaj_⟩
 rw [if_pos c1] at H
 have c1b0 : decide (x5_1 < (l0.length : Int)) = true := dt_ c1
 clear c1
 by_cases c2 : 0 ≤ x5_1
 case neg =>
  rw [if_neg c2] at H
  exact absurd H bxka_
 rw [if_pos c2] at H
 have c2b0 : decide (0 ≤ x5_1) = true := dt_ c2
 clear c2
 by_cases c3 : (rd l0 x5_1) = a1
 ·rw [if_pos c3] at H
  obtain ⟨c3b0, c3b1⟩ := et_ c3
  clear c3
  obtain rfl := si_ H
  have p1 : 0 ≤ (x5_1 : Int) := od_ bpil_
  have q1 : x5_1 < (l0.length : Int) := od_ bpil_
  obtain ⟨ad1, e1, hx1_0⟩ := Kd.at_int HR0.out x5_1 p1 q1
  cases e1
  replace p1 := eq_true p1
  replace q1 := eq_true q1
  go_wp2
  go_ret
  exact ⟨b04z_, boaj_⟩
 rw [if_neg c3] at H
 obtain ⟨c3b0, c3b1⟩ := ef_ c3
 have H' := A0_ H
 clear H
 have p1 : 0 ≤ (x5_1 : Int) := od_ bpil_
 have q1 : x5_1 < (l0.length : Int) := od_ bpil_
 obtain ⟨ad1, e1, hx1_0⟩ := Kd.at_int HR0.out x5_1 p1 q1
 cases e1
 replace p1 := eq_true p1
 replace q1 := eq_true q1
 go_wp2
 go_roundg k1
 case measure => have := HK1.out; omega
 exact ⟨(wrap64 (x5_1 + 1)), b2ew_, H', ⟨bxjq_⟩, boaj_⟩

mutual
def laws_FnTheatre.j0 : Nat → List Int → List Int → Bool → Bool → Int → Bool → List Int → Option (Bool)
 | 0, _, _, _, _, _, _, _ => none
 | k + 1, x0, x4, x8, x105, x649000, x649001, x649002 => if x105 = true then (none) else ((impl_IsArrival.f k x649000 x649001 x649002 x4).bind fun bt661 => ((spec_IsArrival.f k x649000 x649001 x649002 x4).bind fun bt663 => (if (bt661.1 != bt663.1) = true then (none) else (if (bt661.2 != bt663.2) = true then (none) else (if bt661.2 = true then (laws_FnTheatre.j1 k x0 x4 x8 (x8 != bt661.1) x649000 x649001 x649002) else (laws_FnTheatre.j1 k x0 x4 x8 (x8 != false) x649000 x649001 x649002))))))
def laws_FnTheatre.j1 : Nat → List Int → List Int → Bool → Bool → Int → Bool → List Int → Option (Bool)
 | 0, _, _, _, _, _, _, _ => none
 | k + 1, x0, x4, x8, x133, x649000, x649001, x649002 => if x133 = true then (none) else ((impl_SidesOf.f k x649000 x649001 x649002 x4).bind fun bt665 => ((spec_SidesOf.f k x649000 x649001 x649002 x4).bind fun bt669 => (if (bt665.2 != bt669.2) = true then (none) else (if (bt665.2 != x8) = true then (none) else ((laws_rInts.f k bt665.1 bt669.1).bind fun t673 => (laws_FnTheatre.j2 k x0 x4 x8 bt665.1 (!t673) x649000 x649001 x649002))))))
def laws_FnTheatre.j2 : Nat → List Int → List Int → Bool → List Int → Bool → Int → Bool → List Int → Option (Bool)
 | 0, _, _, _, _, _, _, _, _ => none
 | k + 1, x0, x4, x8, x16, x159, x649000, x649001, x649002 => if x159 = true then (none) else ((spec_DrawBestArrival.f k x0).bind fun bt674 => ((impl_BestArrival.f k bt674.1 bt674.2.1 bt674.2.2.1 bt674.2.2.2).bind fun bt681 => ((spec_BestArrival.f k bt674.1 bt674.2.1 bt674.2.2.1 bt674.2.2.2).bind fun bt685 => (if (bt681.2 != bt685.2) = true then (none) else ((laws_rInts.f k bt681.1 bt685.1).bind fun t689 => (laws_FnTheatre.j3 k x0 x4 x8 x16 bt674.2.2.2 bt681.1 bt681.2 (!t689) x649000 x649001 x649002 bt674.1 bt674.2.1 bt674.2.2.1))))))
def laws_FnTheatre.j3 : Nat → List Int → List Int → Bool → List Int → Bool → List Int → Bool → Bool → Int → Bool → List Int → Int → Bool → List Int → Option (Bool)
 | 0, _, _, _, _, _, _, _, _, _, _, _, _, _, _ => none
 | k + 1, x0, x4, x8, x16, x21, x22, x23, x185, x649000, x649001, x649002, x681000, x681001, x681002 => if x185 = true then (none) else ((impl_LeastStands.f k x681000 x681001 x681002 x21).bind fun bt690 => ((spec_LeastStands.f k x681000 x681001 x681002 x21).bind fun bt692 => (if bt690.1 = bt692.1 then (if (bt690.2 != bt692.2) = true then (none) else (laws_FnTheatre.j4 k x0 x4 x8 x16 x21 x22 x23 bt690.1 (bt690.2 != x23) x649000 x649001 x649002 x681000 x681001 x681002)) else (none))))
def laws_FnTheatre.j4 : Nat → List Int → List Int → Bool → List Int → Bool → List Int → Bool → Int → Bool → Int → Bool → List Int → Int → Bool → List Int → Option (Bool)
 | 0, _, _, _, _, _, _, _, _, _, _, _, _, _, _, _ => none
 | k + 1, x0, x4, x8, x16, x21, x22, x23, x26, x210, x649000, x649001, x649002, x681000, x681001, x681002 => if x210 = true then (none) else ((spec_DrawLeaveStands.f k x0).bind fun bt694 => ((impl_LeaveStands.f k bt694.1 bt694.2.1 bt694.2.2.1 bt694.2.2.2).bind fun bt703 => ((spec_LeaveStands.f k bt694.1 bt694.2.1 bt694.2.2.1 bt694.2.2.2).bind fun bt708 => (if bt703.2.1 = bt708.2.1 then (if (bt703.2.2 != bt708.2.2) = true then (none) else ((laws_rInts.f k bt703.1 bt708.1).bind fun t713 => (laws_FnTheatre.j5 k x0 x4 x8 x16 x21 x22 x23 x26 bt694.2.2.2 bt703.2.1 bt703.2.2 (!t713) x649000 x649001 x649002 x681000 x681001 x681002 bt694.1 bt694.2.1 bt694.2.2.1))) else (none)))))
def laws_FnTheatre.j5 : Nat → List Int → List Int → Bool → List Int → Bool → List Int → Bool → Int → List Int → Int → Bool → Bool → Int → Bool → List Int → Int → Bool → List Int → Int → Bool → List Int → Option (Bool)
 | 0, _, _, _, _, _, _, _, _, _, _, _, _, _, _, _, _, _, _, _, _, _ => none
 | k + 1, x0, x4, x8, x16, x21, x22, x23, x26, x31, x33, x34, x243, x649000, x649001, x649002, x681000, x681001, x681002, x703000, x703001, x703002 => if x243 = true then (none) else ((spec_DrawCountStands.f x0).bind fun t714 => ((impl_CountStands.f k t714).bind fun bt715 => ((spec_CountStands.f k t714).bind fun bt719 => (if (bt715.2 != bt719.2) = true then (none) else ((laws_rInts.f k bt715.1 bt719.1).bind fun t723 => (laws_FnTheatre.j6 k x4 x8 x16 x21 x22 x23 x26 x31 x33 x34 t714 bt715.1 bt715.2 (!t723) x649000 x649001 x649002 x681000 x681001 x681002 x703000 x703001 x703002))))))
def laws_FnTheatre.j6 : Nat → List Int → Bool → List Int → Bool → List Int → Bool → Int → List Int → Int → Bool → Int → List Int → Bool → Bool → Int → Bool → List Int → Int → Bool → List Int → Int → Bool → List Int → Option (Bool)
 | 0, _, _, _, _, _, _, _, _, _, _, _, _, _, _, _, _, _, _, _, _, _, _, _ => none
 | k + 1, x4, x8, x16, x21, x22, x23, x26, x31, x33, x34, x38, x39, x40, x264, x649000, x649001, x649002, x681000, x681001, x681002, x703000, x703001, x703002 => if x264 = true then (none) else (if x40 = true then (laws_FnTheatre.l0 k x4 x8 x16 x21 x22 x23 x26 x31 x33 x34 x38 x39 1 2 x649000 x649001 x649002 x681000 x681001 x681002 x703000 x703001 x703002) else (laws_FnTheatre.j8 k x4 x8 x16 x21 x22 x23 x26 x31 x33 x34 x649000 x649001 x649002 x681000 x681001 x681002 x703000 x703001 x703002))
def laws_FnTheatre.j8 : Nat → List Int → Bool → List Int → Bool → List Int → Bool → Int → List Int → Int → Bool → Int → Bool → List Int → Int → Bool → List Int → Int → Bool → List Int → Option (Bool)
 | 0, _, _, _, _, _, _, _, _, _, _, _, _, _, _, _, _, _, _, _ => none
 | k + 1, x4, x8, x16, x21, x22, x23, x26, x31, x33, x34, x649000, x649001, x649002, x681000, x681001, x681002, x703000, x703001, x703002 => if x23 = true then ((impl_StandsOf.f k x681000 x681001 x681002 x22 x21).bind fun bt725 => (if bt725.2.2 = true then (if bt725.2.1 = x26 then (laws_FnTheatre.j9 k x4 x8 x16 x31 x33 x34 x649000 x649001 x649002 x703000 x703001 x703002) else (none)) else (none))) else (laws_FnTheatre.j9 k x4 x8 x16 x31 x33 x34 x649000 x649001 x649002 x703000 x703001 x703002)
def laws_FnTheatre.j9 : Nat → List Int → Bool → List Int → List Int → Int → Bool → Int → Bool → List Int → Int → Bool → List Int → Option (Bool)
 | 0, _, _, _, _, _, _, _, _, _, _, _, _ => none
 | k + 1, x4, x8, x16, x31, x33, x34, x649000, x649001, x649002, x703000, x703001, x703002 => if x34 = true then (laws_FnTheatre.l1 k x4 x8 x16 x31 x33 (([] : List Int)) 0 x649000 x649001 x649002 x703000 x703001 x703002 x703000 false (([] : List Int))) else (laws_FnTheatre.j12 k x4 x8 x16 x649000 x649001 x649002)
def laws_FnTheatre.j12 : Nat → List Int → Bool → List Int → Int → Bool → List Int → Option (Bool)
 | 0, _, _, _, _, _, _ => none
 | k + 1, x4, x8, x16, x649000, x649001, x649002 => if x8 = true then ((impl_StandsOf.f k x649000 x649001 x649002 x4 true).bind fun bt752 => ((impl_StandsOf.f k x649000 x649001 x649002 x4 false).bind fun bt757 => (if bt752.2.2 = true then (if bt757.2.2 = true then (laws_FnTheatre.j13 k x16 bt752.1 bt757.1 ((bt752.1.length : Int) != (bt757.1.length : Int))) else (none)) else (none)))) else (some true)
def laws_FnTheatre.j13 : Nat → List Int → List Int → List Int → Bool → Option (Bool)
 | 0, _, _, _, _ => none
 | k + 1, x16, x55, x58, x392 => if x392 = true then (none) else (laws_FnTheatre.l3 k x16 x55 x58 0)
def laws_FnTheatre.l3 : Nat → List Int → List Int → List Int → Int → Option (Bool)
 | 0, _, _, _, _ => none
 | k + 1, x16, x55, x58, x61 => if x61 < (x55.length : Int) then (if 0 ≤ x61 then (if x61 < (x58.length : Int) then (if (rd x55 x61) > (rd x58 x61) then (none) else (if x61 < (x16.length : Int) then (if (rd x16 x61) = 0 then (if (rd x55 x61) = (rd x58 x61) then (laws_FnTheatre.l3 k x16 x55 x58 (wrap64 (x61 + 1))) else (none)) else (laws_FnTheatre.l3 k x16 x55 x58 (wrap64 (x61 + 1)))) else (none))) else (none)) else (none)) else (some true)
def laws_FnTheatre.l1 : Nat → List Int → Bool → List Int → List Int → Int → List Int → Int → Int → Bool → List Int → Int → Bool → List Int → Int → Bool → List Int → Option (Bool)
 | 0, _, _, _, _, _, _, _, _, _, _, _, _, _, _, _, _ => none
 | k + 1, x4, x8, x16, x31, x33, x49, x50, x649000, x649001, x649002, x703000, x703001, x703002, x737000, x737001, x737002 => if x50 < (x703002.length : Int) then (if 0 ≤ x50 then ((laws_rHas.f k x31 (rd x703002 x50)).bind fun t738 => (if t738 = true then (laws_FnTheatre.l1 k x4 x8 x16 x31 x33 x49 (wrap64 (x50 + 1)) x649000 x649001 x649002 x703000 x703001 x703002 x737000 x737001 x737002) else (if x737002.length < 17592186044416 then (laws_FnTheatre.l1 k x4 x8 x16 x31 x33 x49 (wrap64 (x50 + 1)) x649000 x649001 x649002 x703000 x703001 x703002 x737000 x737001 (x737002 ++ [rd x703002 x50])) else (none)))) else (none)) else (laws_FnTheatre.l2 k x4 x8 x16 x31 x33 x49 (wrap64 ((x31.length : Int) - 1)) x649000 x649001 x649002 x737000 x737001 x737002)
def laws_FnTheatre.l2 : Nat → List Int → Bool → List Int → List Int → Int → List Int → Int → Int → Bool → List Int → Int → Bool → List Int → Option (Bool)
 | 0, _, _, _, _, _, _, _, _, _, _, _, _, _ => none
 | k + 1, x4, x8, x16, x31, x33, x49, x51, x649000, x649001, x649002, x737000, x737001, x737002 => if x51 ≥ 0 then (if 0 ≤ x51 then (if x51 < (x31.length : Int) then (if x49.length < 17592186044416 then (laws_FnTheatre.l2 k x4 x8 x16 x31 x33 (x49 ++ [rd x31 x51]) (wrap64 (x51 - 1)) x649000 x649001 x649002 x737000 x737001 x737002) else (none)) else (none)) else (none)) else ((impl_StandsOf.f k x737000 x737001 x737002 x49 false).bind fun bt747 => (if bt747.2.2 = true then (if bt747.2.1 = x33 then (laws_FnTheatre.j12 k x4 x8 x16 x649000 x649001 x649002) else (none)) else (none)))
def laws_FnTheatre.l0 : Nat → List Int → Bool → List Int → Bool → List Int → Bool → Int → List Int → Int → Bool → Int → List Int → Int → Int → Int → Bool → List Int → Int → Bool → List Int → Int → Bool → List Int → Option (Bool)
 | 0, _, _, _, _, _, _, _, _, _, _, _, _, _, _, _, _, _, _, _, _, _, _, _ => none
 | k + 1, x4, x8, x16, x21, x22, x23, x26, x31, x33, x34, x38, x39, x43, x44, x649000, x649001, x649002, x681000, x681001, x681002, x703000, x703001, x703002 => if x44 ≤ x38 then (laws_FnTheatre.l0 k x4 x8 x16 x21 x22 x23 x26 x31 x33 x34 x38 x39 (wrap64 (x43 * x44)) (wrap64 (x44 + 1)) x649000 x649001 x649002 x681000 x681001 x681002 x703000 x703001 x703002) else ((laws_rSum.f k x39).bind fun t724 => (if t724 = x43 then (if (x39.length : Int) = (wrap64 ((wrap64 (Int.tdiv (wrap64 (x38 * (wrap64 (x38 - 1)))) 2)) + 1)) then (laws_FnTheatre.j8 k x4 x8 x16 x21 x22 x23 x26 x31 x33 x34 x649000 x649001 x649002 x681000 x681001 x681002 x703000 x703001 x703002) else (none)) else (none)))
end
def laws_FnTheatre.f (k : Nat) (l0 : List Int) : Option (Bool) := (laws_rBig.f l0).bind fun t638 => (if t638 = true then (some true) else ((spec_DrawStandsOf.f k l0).bind fun bt639 => ((impl_StandsOf.f k bt639.1 bt639.2.1 bt639.2.2.1 bt639.2.2.2.1 bt639.2.2.2.2).bind fun bt649 => ((spec_StandsOf.f k bt639.1 bt639.2.1 bt639.2.2.1 bt639.2.2.2.1 bt639.2.2.2.2).bind fun bt654 => (if bt649.2.1 = bt654.2.1 then (if (bt649.2.2 != bt654.2.2) = true then (none) else ((laws_rInts.f k bt649.1 bt654.1).bind fun t659 => (if t659 = true then ((laws_rSum.f k bt649.1).bind fun t660 => (laws_FnTheatre.j0 k l0 bt639.2.2.2.1 bt649.2.2 (t660 != bt649.2.1) bt639.1 bt639.2.1 bt639.2.2.1)) else (none)))) else (none))))))
def laws_FnTheatre.T53 : Bool × List (List Nat × List Nat) := (true, [([], []), ([0], [0]), ([], []), ([2], [2]), ([], []), ([3, 4], [3, 4]), ([5], [5]), ([6], [6]), ([1, 7], [1, 7]), ([0, 1, 2, 3, 4, 5, 6, 7, 8], []), ([9, 8, 8, 0, 1, 2, 3, 4, 5, 6, 7, 8], [8, 9])])
def laws_FnTheatre.B53 : List Nat := [0, 1, 0, 4, 0, 28, 60, 124, 255, 511, 1023]
theorem laws_FnTheatre.tab53 : rtab .any (opsOf Tryd.f5 53) = laws_FnTheatre.T53 := by kernel_rfl
theorem laws_FnTheatre.bits53 : waitsOk laws_FnTheatre.T53.2 laws_FnTheatre.B53 = true := by kernel_rfl
def laws_FnTheatre.T70 : Bool × List (List Nat × List Nat) := (true, [([], []), ([], []), ([0, 1], [0, 1]), ([2], [2]), ([], []), ([], []), ([4, 5], [4, 5]), ([6], [6]), ([3, 7], [3, 7]), ([8], [8]), ([9], [9]), ([9], [9]), ([10, 11, 9], [9, 10, 11]), ([12, 9], [9, 12]), ([13, 9], [9, 13]), ([14, 9, 9], [9, 14]), ([15], [15]), ([15], [15]), ([16, 17, 15], [15, 16, 17]), ([18, 15], [15, 18]), ([15], [15]), ([15], [15]), ([20, 21, 15], [15, 20, 21]), ([22, 15], [15, 22]), ([19, 23, 15], [15, 19, 23]), ([15, 24, 9], [9, 15, 24]), ([9, 25], [9, 25])])
def laws_FnTheatre.B70 : List Nat := [0, 0, 3, 7, 0, 0, 48, 112, 255, 511, 1023, 1023, 4095, 8191, 16383, 32767, 65535, 65535, 262143, 524287, 65535, 65535, 3211263, 7405567, 16777215, 33554431, 67108863]
theorem laws_FnTheatre.tab70 : rtab .any (opsOf Tryd.f5 70) = laws_FnTheatre.T70 := by kernel_rfl
theorem laws_FnTheatre.bits70 : waitsOk laws_FnTheatre.T70.2 laws_FnTheatre.B70 = true := by kernel_rfl
theorem laws_FnTheatre.calls (k : Nat) (A0 : Option Addr) (c0 : Nat) (l0 : List Int) (r : Bool) (w : World) (hr0 : Kd.C (Kd.int .u8) w A0 l0.length l0) (hc0 : l0.length ≤ c0) (hG : TabOK w) (h : laws_FnTheatre.f k l0 = some r) :
  Calls Tryd.prog 5 #[.slice A0 l0.length c0] w fun e w' => e = .returned (.bool r) ∧ Below w.heap.size w w' := by
 have HG0 := A0_ hG
 clear hG
 have hu28 := Tryd.underlying28
 have HR0 := A0_ hr0
 have HC0 := A0_ hc0
 clear hr0 hc0
 have HB := A0_ (Below.refl w.heap.size w)
 have H : ((laws_rBig.f l0).bind fun t1 => (if t1 = true then (some true) else ((spec_DrawStandsOf.f k l0).bind fun bt1 => ((impl_StandsOf.f k bt1.1 bt1.2.1 bt1.2.2.1 bt1.2.2.2.1 bt1.2.2.2.2).bind fun bt2 => ((spec_StandsOf.f k bt1.1 bt1.2.1 bt1.2.2.1 bt1.2.2.2.1 bt1.2.2.2.2).bind fun bt3 => (if bt2.2.1 = bt3.2.1 then (if (bt2.2.2 != bt3.2.2) = true then (none) else ((laws_rInts.f k bt2.1 bt3.1).bind fun t2 => (if t2 = true then ((laws_rSum.f k bt2.1).bind fun t3 => (laws_FnTheatre.j0 k l0 bt1.2.2.2.1 bt2.2.2 (t3 != bt2.2.1) bt1.1 bt1.2.1 bt1.2.2.1)) else (none)))) else (none))))))) = some r := h
 clear h
 obtain ⟨t1, A2, H⟩ := o1_ H
 by_cases c1 : t1 = true
 ·subst c1
  rw [if_pos rfl] at H
  obtain rfl := si_ H
  go_enter Tryd.func5, Tryd.ntmps5
  go_wp2_with (first | ((with_reducible refine gc_ (f := 17) rfl ?_); refine gl_ 63 Tryd.func17 #[.slice A0 l0.length c0] ?_; (with_reducible refine (laws_rBig.calls _ _ l0 true _ ?side1 ?side2 A2.out).mono ?_); (case side1 => exact b9lq_); (case side2 => exact HC0.out); rintro e w' ⟨rfl, ⟨nd, rfl⟩⟩; refine ⟨_, rfl, ?_⟩))
  go_ret
  exact ⟨bnwh_, brt4_⟩
 ·obtain rfl := bf_.mpr c1
  rw [if_neg ft_] at H
  obtain ⟨⟨t4, t5, t6, t7, t8⟩, A4, H⟩ := o1_ H
  obtain ⟨⟨t9, t10, t11⟩, A6, H⟩ := o1_ H
  obtain ⟨⟨t12, t13, t14⟩, A8, H⟩ := o1_ H
  have HC7 := A0_ H
  clear H
  go_enter Tryd.func5, Tryd.ntmps5
  go_upto_region 6 with (first | ((with_reducible refine gc_ (f := 17) rfl ?_); refine gl_ 63 Tryd.func17 #[.slice A0 l0.length c0] ?_; (with_reducible refine (laws_rBig.calls _ _ l0 false _ ?side1 ?side2 A2.out).mono ?_); (case side1 => exact b9lq_); (case side2 => exact HC0.out); rintro e w' ⟨rfl, ⟨nd, rfl⟩⟩; refine ⟨_, rfl, ?_⟩) | ((with_reducible refine gc_ (f := 18) rfl ?_); refine gl_ 66 Tryd.func18 #[.slice A0 l0.length c0] ?_; (with_reducible refine (spec_DrawStandsOf.calls k _ _ l0 t4 t5 t6 t7 t8 _ ?side1 ?side2 A4.out).mono ?_); (case side1 => exact b9lq_); (case side2 => exact HC0.out); rintro e w1 ⟨v1, v2, rfl, ho0, ho1, hb⟩; refine ⟨_, rfl, ?_⟩; have HO1 := A0_ (Kd.R_lower ho0 (bz_ brt4_)); have HO2 := A0_ (Kd.R_lower ho1 (bz_ brt4_)); replace HB := hb_ hb brt4_; (try clear hb); (try clear ho0); (try clear ho1)) | ((with_reducible refine gd_ (N := 3) rfl ?_); (try (refine gate_guard b139_ ?_; dsimp only)); refine bx_ 3 #[.int .i64 0, .bool false, .slice none 0 0] 28 ?_; intro gb1 hg w2 BK1 hb; replace HO1 := A0_ (Kd.R_below bsm5_ hb); replace HO2 := A0_ (Kd.R_below b9so_ hb); have GW1 := ge_ hg brt4_; have GE1 := GW1; replace HB := hb_ hb brt4_; clear hb hg; have hcz1 := z3_ BK1; obtain ⟨Ao1, co1, eo1⟩ := Kd.R_slice HO1.out; subst eo1; obtain ⟨Ao2, co2, eo2⟩ := Kd.R_slice HO2.out; subst eo2) | ((with_reducible refine gc_ (f := 19) rfl ?_); refine gl_ 74 Tryd.func19 #[.agg #[.int .i64 t4, .bool t5, .slice Ao1 t6.length co1], .slice Ao2 t7.length co2, .bool t8] ?_; (with_reducible refine (impl_StandsOf.calls k t4 t5 _ _ t6 _ _ t7 t8 t9 t10 t11 _ ?side1 ?side2 ?side3 ?side4 A6.out).mono ?_); (case side1 => refine (rr_ (e := 3) (base := w.heap.size) (ok := fun k_ => no_ (.slice Ao2 t7.length co2) k_) (n := t6.length) (c := co1) ?_).2.2; exact biba_); (case side2 => exact (rr_ HO1.out).2.1); (case side3 => refine (rr_ (e := 3) (base := w.heap.size) (ok := fun k_ => no_ (.slice Ao1 t6.length co1) k_) (n := t7.length) (c := co2) ?_).2.2; exact bu61_); (case side4 => exact (rr_ HO2.out).2.1); rintro e w3 ⟨v3, rfl, ho0, hb⟩; refine ⟨_, rfl, ?_⟩; have HO3 := A0_ (Kd.R_lower (Kd.R_new' (Kd.R_new' ho0 (Kd.R_lt biba_)) (Kd.R_lt bu61_)) (bz_ be6g_)); replace HO1 := A0_ (Kd.R_elder' biba_ (Kd.R_base ho0) hb); replace HO2 := A0_ (Kd.R_elder' bu61_ (Kd.R_base ho0) hb); replace BK1 := k2_ (.cells #[.int .i64 t4, .bool t5, .slice Ao1 t6.length co1] 28 (0, 0)) BK1 hb; replace HB := hb_ hb be6g_; (try clear hb); (try clear ho0); have hcz2 := z3_ BK1) | ((with_reducible refine gc_ (f := 20) rfl ?_); refine gl_ 82 Tryd.func20 #[.agg #[.int .i64 t4, .bool t5, .slice Ao1 t6.length co1], .slice Ao2 t7.length co2, .bool t8] ?_; (with_reducible refine (spec_StandsOf.calls k t4 t5 (fun k_ => some k_ = (.slice Ao1 t6.length co1 : Value).ownBlock) _ _ t6 _ _ t7 t8 t12 t13 t14 _ ?side1 ?side2 ?side3 A8.out).mono ?_); (case side1 => exact Kd.R_V (Kd.R_tight rfl (Kd.R_types (HO1.out) BK1.out bi3y_))); (case side2 => exact ba04_); (case side3 => exact (rr_ HO2.out).2.1); rintro e w4 ⟨v4, rfl, ho0, hb⟩; refine ⟨_, rfl, ?_⟩; have HO4 := A0_ (Kd.R_lower (Kd.R_new' (Kd.R_new' (Kd.R_new' (Kd.R_mono (ok' := fun k_ => True) ho0 (fun _ hk_ => trivial)) (Kd.R_lt bsm5_)) (Kd.R_lt b9so_)) (Kd.R_lt buiy_)) (bz_ be6g_)); replace HO1 := A0_ (Kd.R_elder' bsm5_ (Kd.R_base ho0) hb); replace HO2 := A0_ (Kd.R_elder' b9so_ (Kd.R_base ho0) hb); replace HO3 := A0_ (Kd.R_elder' buiy_ (Kd.R_base ho0) hb); replace BK1 := k1_ BK1 hb; replace HB := hb_ hb be6g_; (try clear hb); (try clear ho0)))
  (try simp only [Act.put, sa_, sz_, ss_])
  go_cut [105] from 62 to 105 (fun v5 wc => ∃ (kq : Nat) (x105_6 : Bool), v5 = .bool x105_6 ∧ Aside0 (laws_FnTheatre.j0 kq l0 t7 t11 x105_6 t4 t5 t6 = some r) ∧ Aside0 (kq ≤ k) ∧ Aside0 (Kd.R (Kd.int .i64) 3 wc w.heap.size (fun k_ => no_ (.slice Ao1 t6.length co1) k_) (.slice Ao2 t7.length co2) t7) ∧ Aside0 (Kd.R (Kd.int .i64) 3 wc w.heap.size (fun k_ => no_ (.slice Ao2 t7.length co2) k_) (.slice Ao1 t6.length co1) t6) ∧ Aside0 (wc.heap[gb1]? = some (.cells #[.int .i64 t4, .bool t5, (.slice Ao1 t6.length co1)] 28 (0, 0))) ∧ Aside0 (Below w.heap.size w wc))
  case first =>
   have H := HC7.out
   clear HC7
   by_cases c2 : t10 = t13
   case neg =>
    rw [if_neg c2] at H
    exact absurd H bxka_
   rw [if_pos c2] at H
   obtain ⟨c2b0, c2b1⟩ := et_ c2
   clear c2
   (first | rw [c2b0] | (simp only [i64_w, i32_w]; rw [c2b0]) | skip)
   by_cases c3 : (t11 != t14) = true
   ·rw [if_pos c3] at H
    exact absurd H bxka_
   rw [if_neg c3] at H
   have c3b0 : (t11 != t14) = false := by simpa using c3
   (try (have c3b1 : decide (t11 = t14) = true := by simpa using c3))
   (try (have c3b2 : (t11 == t14) = true := by simpa using c3))
   clear c3
   obtain ⟨t2, A10, H⟩ := o1_ H
   by_cases c4 : t2 = true
   case neg =>
    obtain rfl := bf_.mpr c4
    have H1 : (none) = some r := by rw [if_neg ft_] at H; exact H
    exact absurd H1 bxka_
   subst c4
   rw [if_pos rfl] at H
   obtain ⟨t3, A1, H⟩ := o1_ H
   have H' := A0_ H
   clear H
   obtain ⟨Ao3, co3, eo3⟩ := Kd.R_slice HO3.out
   subst eo3
   obtain ⟨Ao4, co4, eo4⟩ := Kd.R_slice HO4.out
   subst eo4
   go_wp2_with (first | (go_at_call 21; (with_reducible refine (laws_rInts.calls k _ _ t9 _ _ t12 true _ ?side1 ?side2 ?side3 ?side4 A10.out).mono ?_); (case side1 => exact be4z_); (case side2 => exact (rr_ HO3.out).2.1); (case side3 => exact (by repeat (first | exact (rr_ HO4.out).2.2 | (with_reducible refine ca_ ?_ _) | (with_reducible refine cn_ ?_ _) | (with_reducible refine cd_ ?_)))); (case side4 => exact (rr_ HO4.out).2.1); rintro e w' ⟨rfl, ⟨nd, rfl⟩⟩) | (go_at_call 22; (with_reducible refine (laws_rSum.calls k _ _ t9 t3 _ ?side1 ?side2 A1.out).mono ?_); (case side1 => exact be4z_); (case side2 => exact (rr_ HO3.out).2.1); rintro e w' ⟨rfl, ⟨nd, rfl⟩⟩))
   go_meet
   exact ⟨_, ((t3 != t10)), b2ew_, H', ⟨bbn0_⟩, ⟨by (with_reducible repeat (first | apply ra_ | apply rn_ | apply rd_)); exact Kd.R_mono HO2.out (fun _ hk => hk.1.1)⟩, ⟨by (with_reducible repeat (first | apply ra_ | apply rn_ | apply rd_)); exact Kd.R_mono HO1.out (fun _ hk => hk.1.1)⟩, ⟨u1_ BK1⟩, ⟨be6g_⟩⟩
  clear HC7
  try clear c1
  (try clear hcz1); (try clear hcz2); (try clear hfz1); (try clear hfz2)
  obtain ⟨kq, x105_6, rfl, HA, HJ1, HO_1, HO_2, BK1, HB⟩ := hcut
  cases kq with | zero => exact absurd HA.out (by simp [laws_FnTheatre.j0]) | succ kj1 => ?_
  as_aux_lemma =>
  have H := HA.out
  clear HA
  simp only [laws_FnTheatre.j0] at H
  by_cases c2 : x105_6 = true
  ·subst c2
   have H1 : (none) = some r := by rw [if_pos rfl] at H; exact H
   exact absurd H1 bxka_
  obtain rfl := bf_.mpr c2
  rw [if_neg ft_] at H
  obtain ⟨⟨t15, t16⟩, A10, H⟩ := o1_ H
  obtain ⟨⟨t17, t18⟩, A12, H⟩ := o1_ H
  have HC28 := A0_ H
  clear H
  have hcz3 := z3_ BK1
  go_upto_region 10 with (first | ((with_reducible refine gc_ (f := 23) rfl ?_); refine gl_ 109 Tryd.func23 #[.agg #[.int .i64 t4, .bool t5, .slice Ao1 t6.length co1], .slice Ao2 t7.length co2] ?_; (with_reducible refine (impl_IsArrival.calls kj1 t4 t5 _ _ t6 _ _ t7 t15 t16 _ ?side1 ?side2 ?side3 ?side4 A10.out).mono ?_); (case side1 => exact bqlu_); (case side2 => exact (rr_ HO_2.out).2.1); (case side3 => exact btcf_); (case side4 => exact (rr_ HO_1.out).2.1); rintro e w5 ⟨rfl, hb⟩; refine ⟨_, rfl, ?_⟩; replace HO_1 := A0_ (Kd.R_below bwik_ hb); replace HO_2 := A0_ (Kd.R_below b7sq_ hb); replace BK1 := k1_ BK1 hb; replace HB := hb_ hb be6g_; (try clear hb); have hcz4 := z3_ BK1) | ((with_reducible refine gc_ (f := 24) rfl ?_); refine gl_ 115 Tryd.func24 #[.agg #[.int .i64 t4, .bool t5, .slice Ao1 t6.length co1], .slice Ao2 t7.length co2] ?_; (with_reducible refine (spec_IsArrival.calls kj1 t4 t5 _ _ t6 _ _ t7 t17 t18 _ ?side1 ?side2 ?side3 ?side4 A12.out).mono ?_); (case side1 => exact bqlu_); (case side2 => exact (rr_ HO_2.out).2.1); (case side3 => exact btcf_); (case side4 => exact (rr_ HO_1.out).2.1); rintro e w6 ⟨rfl, hb⟩; refine ⟨_, rfl, ?_⟩; replace HO_1 := A0_ (Kd.R_below bwik_ hb); replace HO_2 := A0_ (Kd.R_below b7sq_ hb); replace BK1 := k1_ BK1 hb; replace HB := hb_ hb be6g_; (try clear hb)))
  (try simp only [Act.put, sa_, sz_, ss_])
  go_cut [133] from 106 to 133 (fun v6 wc => ∃ (kq : Nat) (x133_27 : Bool), v6 = .bool x133_27 ∧ Aside0 (laws_FnTheatre.j1 kq l0 t7 t11 x133_27 t4 t5 t6 = some r) ∧ Aside0 (kq ≤ kj1) ∧ Aside0 (Kd.R (Kd.int .i64) 3 wc w.heap.size (fun k_ => no_ (.slice Ao1 t6.length co1) k_) (.slice Ao2 t7.length co2) t7) ∧ Aside0 (Kd.R (Kd.int .i64) 3 wc w.heap.size (fun k_ => no_ (.slice Ao2 t7.length co2) k_) (.slice Ao1 t6.length co1) t6) ∧ Aside0 (wc.heap[gb1]? = some (.cells #[.int .i64 t4, .bool t5, (.slice Ao1 t6.length co1)] 28 (0, 0))) ∧ Aside0 (Below w.heap.size w wc))
  case first =>
   have H := HC28.out
   clear HC28
   by_cases c3 : (t15 != t17) = true
   ·rw [if_pos c3] at H
    exact absurd H bxka_
   rw [if_neg c3] at H
   have c3b0 : (t15 != t17) = false := by simpa using c3
   (try (have c3b1 : decide (t15 = t17) = true := by simpa using c3))
   (try (have c3b2 : (t15 == t17) = true := by simpa using c3))
   clear c3
   (first | rw [c3b0] | (simp only [i64_w, i32_w]; rw [c3b0]) | skip)
   by_cases c4 : (t16 != t18) = true
   ·rw [if_pos c4] at H
    exact absurd H bxka_
   rw [if_neg c4] at H
   have c4b0 : (t16 != t18) = false := by simpa using c4
   (try (have c4b1 : decide (t16 = t18) = true := by simpa using c4))
   (try (have c4b2 : (t16 == t18) = true := by simpa using c4))
   clear c4
   by_cases c5 : t16 = true
   ·subst c5
    rw [if_pos rfl] at H
    have H' := A0_ H
    clear H
    go_wp2
    go_meet
    exact ⟨_, ((t11 != t15)), b2ew_, H', ⟨bust_⟩, ⟨bwik_⟩, ⟨b7sq_⟩, ⟨u1_ BK1⟩, ⟨be6g_⟩⟩
   obtain rfl := bf_.mpr c5
   rw [if_neg ft_] at H
   have H' := A0_ H
   clear H
   go_wp2
   go_meet
   exact ⟨_, ((t11 != false)), b2ew_, H', ⟨bust_⟩, ⟨bwik_⟩, ⟨b7sq_⟩, ⟨u1_ BK1⟩, ⟨be6g_⟩⟩
  clear HC28
  try clear c1
  try clear c2
  (try clear hcz1); (try clear hcz2); (try clear hcz3); (try clear hcz4); (try clear hfz1); (try clear hfz2); (try clear hfz3); (try clear hfz4)
  obtain ⟨kq, x133_27, rfl, HA, HJ2, HO_1, HO_2, BK1, HB⟩ := hcut
  cases kq with | zero => exact absurd HA.out (by simp [laws_FnTheatre.j1]) | succ kj2 => ?_
  as_aux_lemma =>
  have H := HA.out
  clear HA
  simp only [laws_FnTheatre.j1] at H
  by_cases c3 : x133_27 = true
  ·subst c3
   have H1 : (none) = some r := by rw [if_pos rfl] at H; exact H
   exact absurd H1 bxka_
  obtain rfl := bf_.mpr c3
  rw [if_neg ft_] at H
  obtain ⟨⟨t19, t20⟩, A14, H⟩ := o1_ H
  obtain ⟨⟨t21, t22⟩, A16, H⟩ := o1_ H
  have HC39 := A0_ H
  clear H
  have hcz5 := z3_ BK1
  go_upto_region 14 with (first | ((with_reducible refine gc_ (f := 25) rfl ?_); refine gl_ 137 Tryd.func25 #[.agg #[.int .i64 t4, .bool t5, .slice Ao1 t6.length co1], .slice Ao2 t7.length co2] ?_; (with_reducible refine (impl_SidesOf.calls kj2 t4 t5 _ _ t6 _ _ t7 t19 t20 _ ?side1 ?side2 ?side3 ?side4 A14.out).mono ?_); (case side1 => exact bqlu_); (case side2 => exact (rr_ HO_2.out).2.1); (case side3 => exact btcf_); (case side4 => exact (rr_ HO_1.out).2.1); rintro e w7 ⟨v7, rfl, ho0, hb⟩; refine ⟨_, rfl, ?_⟩; have HO5 := A0_ (Kd.R_lower (Kd.R_new' (Kd.R_new' ho0 (Kd.R_lt bwik_)) (Kd.R_lt b7sq_)) (bz_ be6g_)); replace HO_1 := A0_ (Kd.R_elder' bwik_ (Kd.R_base ho0) hb); replace HO_2 := A0_ (Kd.R_elder' b7sq_ (Kd.R_base ho0) hb); replace BK1 := k1_ BK1 hb; replace HB := hb_ hb be6g_; (try clear hb); (try clear ho0); have hcz6 := z3_ BK1) | ((with_reducible refine gc_ (f := 26) rfl ?_); refine gl_ 143 Tryd.func26 #[.agg #[.int .i64 t4, .bool t5, .slice Ao1 t6.length co1], .slice Ao2 t7.length co2] ?_; (with_reducible refine (spec_SidesOf.calls kj2 t4 t5 (fun k_ => some k_ = (.slice Ao1 t6.length co1 : Value).ownBlock) _ _ t6 _ _ t7 t21 t22 _ ?side1 ?side2 ?side3 A16.out).mono ?_); (case side1 => exact Kd.R_V (Kd.R_tight rfl (Kd.R_types (HO_2.out) BK1.out bi3y_))); (case side2 => exact btcf_); (case side3 => exact (rr_ HO_1.out).2.1); rintro e w8 ⟨v8, rfl, ho0, hb⟩; refine ⟨_, rfl, ?_⟩; have HO6 := A0_ (Kd.R_lower (Kd.R_new' (Kd.R_new' (Kd.R_new' (Kd.R_mono (ok' := fun k_ => True) ho0 (fun _ hk_ => trivial)) (Kd.R_lt bwik_)) (Kd.R_lt b7sq_)) (Kd.R_lt bzg4_)) (bz_ be6g_)); replace HO_1 := A0_ (Kd.R_elder' bwik_ (Kd.R_base ho0) hb); replace HO_2 := A0_ (Kd.R_elder' b7sq_ (Kd.R_base ho0) hb); replace HO5 := A0_ (Kd.R_elder' bzg4_ (Kd.R_base ho0) hb); replace BK1 := k1_ BK1 hb; replace HB := hb_ hb be6g_; (try clear hb); (try clear ho0)))
  (try simp only [Act.put, sa_, sz_, ss_])
  go_cut [159] from 134 to 159 (fun v9 wc => ∃ (kq : Nat) (x159_38 : Bool), v9 = .bool x159_38 ∧ Aside0 (laws_FnTheatre.j2 kq l0 t7 t11 t19 x159_38 t4 t5 t6 = some r) ∧ Aside0 (kq ≤ kj2) ∧ Aside0 (Kd.R (Kd.int .i64) 3 wc w.heap.size (fun k_ => no_ v7 k_ ∧ no_ (.slice Ao1 t6.length co1) k_) (.slice Ao2 t7.length co2) t7) ∧ Aside0 (Kd.R (Kd.int .i64) 3 wc w.heap.size (fun k_ => no_ (.slice Ao2 t7.length co2) k_ ∧ no_ (.slice Ao1 t6.length co1) k_) v7 t19) ∧ Aside0 (Kd.R (Kd.int .i64) 3 wc w.heap.size (fun k_ => no_ (.slice Ao2 t7.length co2) k_ ∧ no_ v7 k_) (.slice Ao1 t6.length co1) t6) ∧ Aside0 (wc.heap[gb1]? = some (.cells #[.int .i64 t4, .bool t5, (.slice Ao1 t6.length co1)] 28 (0, 0))) ∧ Aside0 (Below w.heap.size w wc))
  case first =>
   have H := HC39.out
   clear HC39
   by_cases c4 : (t20 != t22) = true
   ·rw [if_pos c4] at H
    exact absurd H bxka_
   rw [if_neg c4] at H
   have c4b0 : (t20 != t22) = false := by simpa using c4
   (try (have c4b1 : decide (t20 = t22) = true := by simpa using c4))
   (try (have c4b2 : (t20 == t22) = true := by simpa using c4))
   clear c4
   (first | rw [c4b0] | (simp only [i64_w, i32_w]; rw [c4b0]) | skip)
   by_cases c5 : (t20 != t11) = true
   ·rw [if_pos c5] at H
    exact absurd H bxka_
   rw [if_neg c5] at H
   have c5b0 : (t20 != t11) = false := by simpa using c5
   (try (have c5b1 : decide (t20 = t11) = true := by simpa using c5))
   (try (have c5b2 : (t20 == t11) = true := by simpa using c5))
   clear c5
   obtain ⟨t23, A18, H⟩ := o1_ H
   have H' := A0_ H
   clear H
   obtain ⟨Ao3, co3, eo3⟩ := Kd.R_slice HO5.out
   subst eo3
   obtain ⟨Ao4, co4, eo4⟩ := Kd.R_slice HO6.out
   subst eo4
   go_wp2_with (first | (go_at_call 21; (with_reducible refine (laws_rInts.calls kj2 _ _ t19 _ _ t21 t23 _ ?side1 ?side2 ?side3 ?side4 A18.out).mono ?_); (case side1 => exact (by repeat (first | exact (rr_ HO5.out).2.2 | (with_reducible refine ca_ ?_ _) | (with_reducible refine cn_ ?_ _) | (with_reducible refine cd_ ?_)))); (case side2 => exact (rr_ HO5.out).2.1); (case side3 => exact (by repeat (first | exact (rr_ HO6.out).2.2 | (with_reducible refine ca_ ?_ _) | (with_reducible refine cn_ ?_ _) | (with_reducible refine cd_ ?_)))); (case side4 => exact (rr_ HO6.out).2.1); rintro e w' ⟨rfl, ⟨nd, rfl⟩⟩))
   go_meet
   exact ⟨_, (!t23), b2ew_, H', ⟨bjw4_⟩, ⟨b9dr_⟩, ⟨by (with_reducible repeat (first | apply ra_ | apply rn_ | apply rd_)); exact Kd.R_mono HO5.out cf_⟩, ⟨bfb7_⟩, ⟨u1_ BK1⟩, ⟨be6g_⟩⟩
  clear HC39
  try clear c1
  try clear c2
  try clear c3
  (try clear hcz1); (try clear hcz2); (try clear hcz3); (try clear hcz4); (try clear hcz5); (try clear hcz6); (try clear hfz1); (try clear hfz2); (try clear hfz3); (try clear hfz4); (try clear hfz5); (try clear hfz6)
  obtain ⟨kq, x159_38, rfl, HA, HJ3, HO_1, HO_3, HO_2, BK1, HB⟩ := hcut
  cases kq with | zero => exact absurd HA.out (by simp [laws_FnTheatre.j2]) | succ kj3 => ?_
  as_aux_lemma =>
  have H := HA.out
  clear HA
  simp only [laws_FnTheatre.j2] at H
  by_cases c4 : x159_38 = true
  ·subst c4
   have H1 : (none) = some r := by rw [if_pos rfl] at H; exact H
   exact absurd H1 bxka_
  obtain rfl := bf_.mpr c4
  rw [if_neg ft_] at H
  obtain ⟨⟨t23, t24, t25, t26⟩, A5, H⟩ := o1_ H
  obtain ⟨⟨t27, t28⟩, A19, H⟩ := o1_ H
  obtain ⟨⟨t29, t30⟩, A21, H⟩ := o1_ H
  have HC53 := A0_ H
  clear H
  go_upto_region 19 with (first | ((with_reducible refine gc_ (f := 27) rfl ?_); refine gl_ 162 Tryd.func27 #[.slice A0 l0.length c0] ?_; (with_reducible refine (spec_DrawBestArrival.calls kj3 _ _ l0 t23 t24 t25 t26 _ ?side1 ?side2 A5.out).mono ?_); (case side1 => exact bg0z_); (case side2 => exact HC0.out); rintro e w9 ⟨v10, rfl, ho0, hb⟩; refine ⟨_, rfl, ?_⟩; have HO7 := A0_ (Kd.R_lower (Kd.R_new' (Kd.R_new' (Kd.R_new' ho0 (Kd.R_lt bwik_)) (Kd.R_lt bzfm_)) (Kd.R_lt b7sq_)) (bz_ be6g_)); replace HO_1 := A0_ (Kd.R_elder' bwik_ (Kd.R_base ho0) hb); replace HO_3 := A0_ (Kd.R_elder' bzfm_ (Kd.R_base ho0) hb); replace HO_2 := A0_ (Kd.R_elder' b7sq_ (Kd.R_base ho0) hb); replace BK1 := k1_ BK1 hb; replace HB := hb_ hb be6g_; (try clear hb); (try clear ho0)) | ((with_reducible refine gd_ (N := 20) rfl ?_); (try (refine gate_guard b139_ ?_; dsimp only)); refine bx_ 20 #[.int .i64 0, .bool false, .slice none 0 0] 28 ?_; intro gb2 hg w10 BK2 hb; replace HO_1 := A0_ (Kd.R_below bwik_ hb); replace HO_3 := A0_ (Kd.R_below bzfm_ hb); replace HO_2 := A0_ (Kd.R_below b7sq_ hb); replace HO7 := A0_ (Kd.R_below bqte_ hb); have GW2 := ge_ hg be6g_; have GE2 := GW2; replace HB := hb_ hb be6g_; have NB1_2 := nl_ hg BK1; have NB2_1 := ng_ hg BK1; replace BK1 := k1_ BK1 hb; clear hb hg; have hnb1 := NB2_1.out; have hnc1 := NB1_2.out; have hcz7 := z3_ BK2; obtain ⟨Ao3, co3, eo3⟩ := Kd.R_slice HO7.out; subst eo3) | ((with_reducible refine gc_ (f := 12) rfl ?_); refine gl_ 168 Tryd.func12 #[.agg #[.int .i64 t23, .bool t24, .slice Ao3 t25.length co3], .bool t26] ?_; (with_reducible refine (impl_BestArrival.calls kj3 t23 t24 _ _ t25 t26 t27 t28 _ ?side1 ?side2 bj0j_ A19.out).mono ?_); (case side1 => refine (rr_ (e := 3) (base := w.heap.size) (ok := fun k_ => (((True ∧ no_ (.slice Ao2 t7.length co2) k_) ∧ no_ v7 k_) ∧ no_ (.slice Ao1 t6.length co1) k_)) (n := t25.length) (c := co3) ?_).2.2; exact bzuf_); (case side2 => exact (rr_ HO7.out).2.1); rintro e w11 ⟨v11, rfl, ho0, hb⟩; refine ⟨_, rfl, ?_⟩; have HO8 := A0_ (Kd.R_lower (Kd.R_new' (Kd.R_new' (Kd.R_new' (Kd.R_new' ho0 (Kd.R_lt bkfw_)) (Kd.R_lt bjmm_)) (Kd.R_lt b0q8_)) (Kd.R_lt bzuf_)) (bz_ bfnq_)); replace HO_1 := A0_ (Kd.R_elder' bkfw_ (Kd.R_base ho0) hb); replace HO_3 := A0_ (Kd.R_elder' bjmm_ (Kd.R_base ho0) hb); replace HO_2 := A0_ (Kd.R_elder' b0q8_ (Kd.R_base ho0) hb); replace HO7 := A0_ (Kd.R_elder' bzuf_ (Kd.R_base ho0) hb); replace BK1 := k1_ BK1 hb; replace BK2 := k2_ (.cells #[.int .i64 t23, .bool t24, .slice Ao3 t25.length co3] 28 (0, 0)) BK2 hb; replace HB := hb_ hb bfnq_; (try clear hb); (try clear ho0); have hcz8 := z3_ BK2) | ((with_reducible refine gc_ (f := 11) rfl ?_); refine gl_ 174 Tryd.func11 #[.agg #[.int .i64 t23, .bool t24, .slice Ao3 t25.length co3], .bool t26] ?_; (with_reducible refine (spec_BestArrival.calls kj3 t23 t24 (fun k_ => some k_ = (.slice Ao3 t25.length co3 : Value).ownBlock) _ _ t25 t26 t29 t30 _ ?side1 A21.out).mono ?_); (case side1 => exact Kd.R_V (Kd.R_tight rfl (Kd.R_types (Kd.R_types (HO7.out) BK1.out bi3y_) BK2.out bi3y_))); rintro e w12 ⟨v12, rfl, ho0, hb⟩; refine ⟨_, rfl, ?_⟩; have HO9 := A0_ (Kd.R_lower (Kd.R_new' (Kd.R_new' (Kd.R_new' (Kd.R_new' (Kd.R_new' (Kd.R_mono (ok' := fun k_ => True) ho0 (fun _ hk_ => trivial)) (Kd.R_lt bwik_)) (Kd.R_lt bzfm_)) (Kd.R_lt b7sq_)) (Kd.R_lt bqte_)) (Kd.R_lt (by (with_reducible repeat (first | apply ra_ | apply rn_ | apply rd_)); exact HO8.out))) (bz_ bfnq_)); replace HO_1 := A0_ (Kd.R_elder' bwik_ (Kd.R_base ho0) hb); replace HO_3 := A0_ (Kd.R_elder' bzfm_ (Kd.R_base ho0) hb); replace HO_2 := A0_ (Kd.R_elder' b7sq_ (Kd.R_base ho0) hb); replace HO7 := A0_ (Kd.R_elder' bqte_ (Kd.R_base ho0) hb); replace HO8 := A0_ (Kd.R_elder' (by (with_reducible repeat (first | apply ra_ | apply rn_ | apply rd_)); exact HO8.out) (Kd.R_base ho0) hb); replace BK1 := k1_ BK1 hb; replace BK2 := k1_ BK2 hb; replace HB := hb_ hb bfnq_; (try clear hb); (try clear ho0)))
  (try simp only [Act.put, sa_, sz_, ss_])
  go_cut [185] from 160 to 185 (fun v13 wc => ∃ (kq : Nat) (x185_52 : Bool), v13 = .bool x185_52 ∧ Aside0 (laws_FnTheatre.j3 kq l0 t7 t11 t19 t26 t27 t28 x185_52 t4 t5 t6 t23 t24 t25 = some r) ∧ Aside0 (kq ≤ kj3) ∧ Aside0 (Kd.R (Kd.int .i64) 3 wc w.heap.size (fun k_ => no_ v7 k_ ∧ no_ v11 k_ ∧ no_ (.slice Ao1 t6.length co1) k_ ∧ no_ (.slice Ao3 t25.length co3) k_) (.slice Ao2 t7.length co2) t7) ∧ Aside0 (Kd.R (Kd.int .i64) 3 wc w.heap.size (fun k_ => no_ (.slice Ao2 t7.length co2) k_ ∧ no_ v11 k_ ∧ no_ (.slice Ao1 t6.length co1) k_ ∧ no_ (.slice Ao3 t25.length co3) k_) v7 t19) ∧ Aside0 (Kd.R (Kd.int .i64) 3 wc w.heap.size (fun k_ => no_ (.slice Ao2 t7.length co2) k_ ∧ no_ v7 k_ ∧ no_ (.slice Ao1 t6.length co1) k_ ∧ no_ (.slice Ao3 t25.length co3) k_) v11 t27) ∧ Aside0 (Kd.R (Kd.int .i64) 3 wc w.heap.size (fun k_ => no_ (.slice Ao2 t7.length co2) k_ ∧ no_ v7 k_ ∧ no_ v11 k_ ∧ no_ (.slice Ao3 t25.length co3) k_) (.slice Ao1 t6.length co1) t6) ∧ Aside0 (Kd.R (Kd.int .i64) 3 wc w.heap.size (fun k_ => no_ (.slice Ao2 t7.length co2) k_ ∧ no_ v7 k_ ∧ no_ v11 k_ ∧ no_ (.slice Ao1 t6.length co1) k_) (.slice Ao3 t25.length co3) t25) ∧ Aside0 (wc.heap[gb1]? = some (.cells #[.int .i64 t4, .bool t5, (.slice Ao1 t6.length co1)] 28 (0, 0))) ∧ Aside0 (wc.heap[gb2]? = some (.cells #[.int .i64 t23, .bool t24, (.slice Ao3 t25.length co3)] 28 (0, 0))) ∧ Aside0 (Below w.heap.size w wc))
  case first =>
   have H := HC53.out
   clear HC53
   by_cases c5 : (t28 != t30) = true
   ·rw [if_pos c5] at H
    exact absurd H bxka_
   rw [if_neg c5] at H
   have c5b0 : (t28 != t30) = false := by simpa using c5
   (try (have c5b1 : decide (t28 = t30) = true := by simpa using c5))
   (try (have c5b2 : (t28 == t30) = true := by simpa using c5))
   clear c5
   (first | rw [c5b0] | (simp only [i64_w, i32_w]; rw [c5b0]) | skip)
   obtain ⟨t31, A23, H⟩ := o1_ H
   have H' := A0_ H
   clear H
   obtain ⟨Ao4, co4, eo4⟩ := Kd.R_slice HO8.out
   subst eo4
   obtain ⟨Ao5, co5, eo5⟩ := Kd.R_slice HO9.out
   subst eo5
   go_wp2_with (first | (go_at_call 21; (with_reducible refine (laws_rInts.calls kj3 _ _ t27 _ _ t29 t31 _ ?side1 ?side2 ?side3 ?side4 A23.out).mono ?_); (case side1 => exact (by repeat (first | exact (rr_ HO8.out).2.2 | (with_reducible refine ca_ ?_ _) | (with_reducible refine cn_ ?_ _) | (with_reducible refine cd_ ?_)))); (case side2 => exact (rr_ HO8.out).2.1); (case side3 => exact (by repeat (first | exact (rr_ HO9.out).2.2 | (with_reducible refine ca_ ?_ _) | (with_reducible refine cn_ ?_ _) | (with_reducible refine cd_ ?_)))); (case side4 => exact (rr_ HO9.out).2.1); rintro e w' ⟨rfl, ⟨nd, rfl⟩⟩))
   go_meet
   exact ⟨_, (!t31), b2ew_, H', ⟨by have := HJ1.out; have := HJ2.out; have := HJ3.out; first | omega | exact Nat.le_refl _⟩, ⟨b9dr_⟩, ⟨bsf8_⟩, ⟨by (with_reducible repeat (first | apply ra_ | apply rn_ | apply rd_)); exact Kd.R_mono HO8.out cf_⟩, ⟨bfb7_⟩, ⟨by (with_reducible repeat (first | apply ra_ | apply rn_ | apply rd_)); exact Kd.R_mono HO7.out cf_⟩, ⟨u1_ BK1⟩, ⟨u1_ BK2⟩, ⟨bfnq_⟩⟩
  clear HC53
  try clear c1
  try clear c2
  try clear c3
  try clear c4
  (try clear hcz1); (try clear hcz2); (try clear hcz3); (try clear hcz4); (try clear hcz5); (try clear hcz6); (try clear hcz7); (try clear hcz8); (try clear hfz1); (try clear hfz2); (try clear hfz3); (try clear hfz4); (try clear hfz5); (try clear hfz6); (try clear hfz7); (try clear hfz8)
  obtain ⟨kq, x185_52, rfl, HA, HJ4, HO_1, HO_3, HO_4, HO_2, HO_5, BK1, BK2, HB⟩ := hcut
  cases kq with | zero => exact absurd HA.out (by simp [laws_FnTheatre.j3]) | succ kj4 => ?_
  as_aux_lemma =>
  have H := HA.out
  clear HA
  simp only [laws_FnTheatre.j3] at H
  by_cases c5 : x185_52 = true
  ·subst c5
   have H1 : (none) = some r := by rw [if_pos rfl] at H; exact H
   exact absurd H1 bxka_
  obtain rfl := bf_.mpr c5
  rw [if_neg ft_] at H
  obtain ⟨⟨t31, t32⟩, A23, H⟩ := o1_ H
  obtain ⟨⟨t33, t34⟩, A25, H⟩ := o1_ H
  have HC69 := A0_ H
  clear H
  have hnb2 := NB2_1.out
  have hnc2 := NB1_2.out
  have hcz9 := z3_ BK2
  go_upto_region 23 with (first | ((with_reducible refine gc_ (f := 9) rfl ?_); refine gl_ 189 Tryd.func9 #[.agg #[.int .i64 t23, .bool t24, .slice Ao3 t25.length co3], .bool t26] ?_; (with_reducible refine (impl_LeastStands.calls kj4 t23 t24 _ _ t25 t26 t31 t32 _ ?side1 ?side2 bj0j_ A23.out).mono ?_); (case side1 => exact btqf_); (case side2 => exact (rr_ HO_5.out).2.1); rintro e w13 ⟨rfl, hb⟩; refine ⟨_, rfl, ?_⟩; replace HO_1 := A0_ (Kd.R_below bwik_ hb); replace HO_3 := A0_ (Kd.R_below bzfm_ hb); replace HO_4 := A0_ (Kd.R_below b0mw_ hb); replace HO_2 := A0_ (Kd.R_below b7sq_ hb); replace HO_5 := A0_ (Kd.R_below bqlr_ hb); replace BK1 := k1_ BK1 hb; replace BK2 := k1_ BK2 hb; replace HB := hb_ hb bfnq_; (try clear hb); have hcz10 := z3_ BK2) | ((with_reducible refine gc_ (f := 7) rfl ?_); refine gl_ 195 Tryd.func7 #[.agg #[.int .i64 t23, .bool t24, .slice Ao3 t25.length co3], .bool t26] ?_; (with_reducible refine (spec_LeastStands.calls kj4 t23 t24 _ _ t25 t26 t33 t34 _ ?side1 ?side2 A25.out).mono ?_); (case side1 => exact btqf_); (case side2 => exact (rr_ HO_5.out).2.1); rintro e w14 ⟨rfl, hb⟩; refine ⟨_, rfl, ?_⟩; replace HO_1 := A0_ (Kd.R_below bwik_ hb); replace HO_3 := A0_ (Kd.R_below bzfm_ hb); replace HO_4 := A0_ (Kd.R_below b0mw_ hb); replace HO_2 := A0_ (Kd.R_below b7sq_ hb); replace HO_5 := A0_ (Kd.R_below bqlr_ hb); replace BK1 := k1_ BK1 hb; replace BK2 := k1_ BK2 hb; replace HB := hb_ hb bfnq_; (try clear hb)))
  (try simp only [Act.put, sa_, sz_, ss_])
  go_cut [210] from 186 to 210 (fun v14 wc => ∃ (kq : Nat) (x210_68 : Bool), v14 = .bool x210_68 ∧ Aside0 (laws_FnTheatre.j4 kq l0 t7 t11 t19 t26 t27 t28 t31 x210_68 t4 t5 t6 t23 t24 t25 = some r) ∧ Aside0 (kq ≤ kj4) ∧ Aside0 (Kd.R (Kd.int .i64) 3 wc w.heap.size (fun k_ => no_ v7 k_ ∧ no_ v11 k_ ∧ no_ (.slice Ao1 t6.length co1) k_ ∧ no_ (.slice Ao3 t25.length co3) k_) (.slice Ao2 t7.length co2) t7) ∧ Aside0 (Kd.R (Kd.int .i64) 3 wc w.heap.size (fun k_ => no_ (.slice Ao2 t7.length co2) k_ ∧ no_ v11 k_ ∧ no_ (.slice Ao1 t6.length co1) k_ ∧ no_ (.slice Ao3 t25.length co3) k_) v7 t19) ∧ Aside0 (Kd.R (Kd.int .i64) 3 wc w.heap.size (fun k_ => no_ (.slice Ao2 t7.length co2) k_ ∧ no_ v7 k_ ∧ no_ (.slice Ao1 t6.length co1) k_ ∧ no_ (.slice Ao3 t25.length co3) k_) v11 t27) ∧ Aside0 (Kd.R (Kd.int .i64) 3 wc w.heap.size (fun k_ => no_ (.slice Ao2 t7.length co2) k_ ∧ no_ v7 k_ ∧ no_ v11 k_ ∧ no_ (.slice Ao3 t25.length co3) k_) (.slice Ao1 t6.length co1) t6) ∧ Aside0 (Kd.R (Kd.int .i64) 3 wc w.heap.size (fun k_ => no_ (.slice Ao2 t7.length co2) k_ ∧ no_ v7 k_ ∧ no_ v11 k_ ∧ no_ (.slice Ao1 t6.length co1) k_) (.slice Ao3 t25.length co3) t25) ∧ Aside0 (wc.heap[gb1]? = some (.cells #[.int .i64 t4, .bool t5, (.slice Ao1 t6.length co1)] 28 (0, 0))) ∧ Aside0 (wc.heap[gb2]? = some (.cells #[.int .i64 t23, .bool t24, (.slice Ao3 t25.length co3)] 28 (0, 0))) ∧ Aside0 (Below w.heap.size w wc))
  case first =>
   have H := HC69.out
   clear HC69
   by_cases c6 : t31 = t33
   case neg =>
    rw [if_neg c6] at H
    exact absurd H bxka_
   rw [if_pos c6] at H
   obtain ⟨c6b0, c6b1⟩ := et_ c6
   clear c6
   (first | rw [c6b0] | (simp only [i64_w, i32_w]; rw [c6b0]) | skip)
   by_cases c7 : (t32 != t34) = true
   ·rw [if_pos c7] at H
    exact absurd H bxka_
   rw [if_neg c7] at H
   have c7b0 : (t32 != t34) = false := by simpa using c7
   (try (have c7b1 : decide (t32 = t34) = true := by simpa using c7))
   (try (have c7b2 : (t32 == t34) = true := by simpa using c7))
   clear c7
   have H' := A0_ H
   clear H
   go_wp2
   go_meet
   exact ⟨_, ((t32 != t28)), b2ew_, H', ⟨by have := HJ1.out; have := HJ2.out; have := HJ3.out; have := HJ4.out; first | omega | exact Nat.le_refl _⟩, ⟨bwik_⟩, ⟨bzfm_⟩, ⟨b0mw_⟩, ⟨b7sq_⟩, ⟨bqlr_⟩, ⟨u1_ BK1⟩, ⟨u1_ BK2⟩, ⟨bfnq_⟩⟩
  clear HC69
  try clear c1
  try clear c2
  try clear c3
  try clear c4
  try clear c5
  (try clear hcz1); (try clear hcz2); (try clear hcz3); (try clear hcz4); (try clear hcz5); (try clear hcz6); (try clear hcz7); (try clear hcz8); (try clear hcz9); (try clear hcz10); (try clear hfz1); (try clear hfz2); (try clear hfz3); (try clear hfz4); (try clear hfz5); (try clear hfz6); (try clear hfz7); (try clear hfz8); (try clear hfz9); (try clear hfz10)
  obtain ⟨kq, x210_68, rfl, HA, HJ5, HO_1, HO_3, HO_4, HO_2, HO_5, BK1, BK2, HB⟩ := hcut
  cases kq with | zero => exact absurd HA.out (by simp [laws_FnTheatre.j4]) | succ kj5 => ?_
  as_aux_lemma =>
  have H := HA.out
  clear HA
  simp only [laws_FnTheatre.j4] at H
  by_cases c6 : x210_68 = true
  ·subst c6
   have H1 : (none) = some r := by rw [if_pos rfl] at H; exact H
   exact absurd H1 bxka_
  obtain rfl := bf_.mpr c6
  rw [if_neg ft_] at H
  obtain ⟨⟨t35, t36, t37, t38⟩, A27, H⟩ := o1_ H
  obtain ⟨⟨t39, t40, t41⟩, A29, H⟩ := o1_ H
  obtain ⟨⟨t42, t43, t44⟩, A31, H⟩ := o1_ H
  have HC81 := A0_ H
  clear H
  go_upto_region 28 with (first | ((with_reducible refine gc_ (f := 28) rfl ?_); refine gl_ 213 Tryd.func28 #[.slice A0 l0.length c0] ?_; (with_reducible refine (spec_DrawLeaveStands.calls kj5 _ _ l0 t35 t36 t37 t38 _ ?side1 ?side2 A27.out).mono ?_); (case side1 => exact bg0z_); (case side2 => exact HC0.out); rintro e w15 ⟨v15, v16, rfl, ho0, ho1, hb⟩; refine ⟨_, rfl, ?_⟩; have HO10 := A0_ (Kd.R_lower (Kd.R_new' (Kd.R_new' (Kd.R_new' (Kd.R_new' (Kd.R_new' ho0 (Kd.R_lt bwik_)) (Kd.R_lt bzfm_)) (Kd.R_lt b0mw_)) (Kd.R_lt b7sq_)) (Kd.R_lt bqlr_)) (bz_ bfnq_)); have HO11 := A0_ (Kd.R_lower (Kd.R_new' (Kd.R_new' (Kd.R_new' (Kd.R_new' (Kd.R_new' ho1 (Kd.R_lt bwik_)) (Kd.R_lt bzfm_)) (Kd.R_lt b0mw_)) (Kd.R_lt b7sq_)) (Kd.R_lt bqlr_)) (bz_ bfnq_)); replace HO_1 := A0_ (Kd.R_mono (Kd.R_told (Kd.R_told (Kd.R_old bwik_ hb) (Kd.R_base ho0)) (Kd.R_base ho1)) (fun _ h_ => h_.1)); replace HO_3 := A0_ (Kd.R_mono (Kd.R_told (Kd.R_told (Kd.R_old bzfm_ hb) (Kd.R_base ho0)) (Kd.R_base ho1)) (fun _ h_ => h_.1)); replace HO_4 := A0_ (Kd.R_mono (Kd.R_told (Kd.R_told (Kd.R_old b0mw_ hb) (Kd.R_base ho0)) (Kd.R_base ho1)) (fun _ h_ => h_.1)); replace HO_2 := A0_ (Kd.R_mono (Kd.R_told (Kd.R_told (Kd.R_old b7sq_ hb) (Kd.R_base ho0)) (Kd.R_base ho1)) (fun _ h_ => h_.1)); replace HO_5 := A0_ (Kd.R_mono (Kd.R_told (Kd.R_told (Kd.R_old bqlr_ hb) (Kd.R_base ho0)) (Kd.R_base ho1)) (fun _ h_ => h_.1)); replace BK1 := k1_ BK1 hb; replace BK2 := k1_ BK2 hb; replace HB := hb_ hb bfnq_; (try clear hb); (try clear ho0); (try clear ho1)) | ((with_reducible refine gd_ (N := 30) rfl ?_); (try (refine gate_guard b139_ ?_; dsimp only)); refine bx_ 30 #[.int .i64 0, .bool false, .slice none 0 0] 28 ?_; intro gb3 hg w16 BK3 hb; replace HO_1 := A0_ (Kd.R_below bwik_ hb); replace HO_3 := A0_ (Kd.R_below bzfm_ hb); replace HO_4 := A0_ (Kd.R_below b0mw_ hb); replace HO_2 := A0_ (Kd.R_below b7sq_ hb); replace HO_5 := A0_ (Kd.R_below bqlr_ hb); replace HO10 := A0_ (Kd.R_below b197_ hb); replace HO11 := A0_ (Kd.R_below bfdn_ hb); have GW3 := ge_ hg bfnq_; have GE3 := GW3; replace HB := hb_ hb bfnq_; have NB1_3 := nl_ hg BK1; have NB3_1 := ng_ hg BK1; replace BK1 := k1_ BK1 hb; have NB2_3 := nl_ hg BK2; have NB3_2 := ng_ hg BK2; replace BK2 := k1_ BK2 hb; clear hb hg; have hnb3 := NB3_1.out; have hnc3 := NB1_3.out; have hnb4 := NB3_2.out; have hnc4 := NB2_3.out; have hcz11 := z3_ BK3; obtain ⟨Ao4, co4, eo4⟩ := Kd.R_slice HO10.out; subst eo4; obtain ⟨Ao5, co5, eo5⟩ := Kd.R_slice HO11.out; subst eo5) | ((with_reducible refine gc_ (f := 29) rfl ?_); refine gl_ 219 Tryd.func29 #[.agg #[.int .i64 t35, .bool t36, .slice Ao4 t37.length co4], .slice Ao5 t38.length co5] ?_; (with_reducible refine (impl_LeaveStands.calls kj5 t35 t36 _ _ t37 _ _ t38 t39 t40 t41 _ ?side1 ?side2 ?side3 ?side4 A29.out).mono ?_); (case side1 => refine (rr_ (e := 3) (base := w.heap.size) (ok := fun k_ => (((((no_ (.slice Ao5 t38.length co5) k_ ∧ no_ (.slice Ao2 t7.length co2) k_) ∧ no_ v7 k_) ∧ no_ v11 k_) ∧ no_ (.slice Ao1 t6.length co1) k_) ∧ no_ (.slice Ao3 t25.length co3) k_)) (n := t37.length) (c := co4) ?_).2.2; exact bg6b_); (case side2 => exact (rr_ HO10.out).2.1); (case side3 => refine (rr_ (e := 3) (base := w.heap.size) (ok := fun k_ => (((((no_ (.slice Ao4 t37.length co4) k_ ∧ no_ (.slice Ao2 t7.length co2) k_) ∧ no_ v7 k_) ∧ no_ v11 k_) ∧ no_ (.slice Ao1 t6.length co1) k_) ∧ no_ (.slice Ao3 t25.length co3) k_)) (n := t38.length) (c := co5) ?_).2.2; exact b5kv_); (case side4 => exact (rr_ HO11.out).2.1); rintro e w17 ⟨v17, rfl, ho0, hb⟩; refine ⟨_, rfl, ?_⟩; have HO12 := A0_ (Kd.R_lower (Kd.R_new' (Kd.R_new' (Kd.R_new' (Kd.R_new' (Kd.R_new' (Kd.R_new' (Kd.R_new' ho0 (Kd.R_lt bc3e_)) (Kd.R_lt bnlo_)) (Kd.R_lt bw72_)) (Kd.R_lt b31q_)) (Kd.R_lt bo83_)) (Kd.R_lt bg6b_)) (Kd.R_lt b5kv_)) (bz_ b850_)); replace HO_1 := A0_ (Kd.R_elder' bc3e_ (Kd.R_base ho0) hb); replace HO_3 := A0_ (Kd.R_elder' bnlo_ (Kd.R_base ho0) hb); replace HO_4 := A0_ (Kd.R_elder' bw72_ (Kd.R_base ho0) hb); replace HO_2 := A0_ (Kd.R_elder' b31q_ (Kd.R_base ho0) hb); replace HO_5 := A0_ (Kd.R_elder' bo83_ (Kd.R_base ho0) hb); replace HO10 := A0_ (Kd.R_elder' bg6b_ (Kd.R_base ho0) hb); replace HO11 := A0_ (Kd.R_elder' b5kv_ (Kd.R_base ho0) hb); replace BK1 := k1_ BK1 hb; replace BK2 := k1_ BK2 hb; replace BK3 := k2_ (.cells #[.int .i64 t35, .bool t36, .slice Ao4 t37.length co4] 28 (0, 0)) BK3 hb; replace HB := hb_ hb b850_; (try clear hb); (try clear ho0); have hcz12 := z3_ BK3) | ((with_reducible refine gc_ (f := 30) rfl ?_); refine gl_ 226 Tryd.func30 #[.agg #[.int .i64 t35, .bool t36, .slice Ao4 t37.length co4], .slice Ao5 t38.length co5] ?_; (with_reducible refine (spec_LeaveStands.calls kj5 t35 t36 (fun k_ => some k_ = (.slice Ao4 t37.length co4 : Value).ownBlock) _ _ t37 _ _ t38 t42 t43 t44 _ ?side1 ?side2 ?side3 A31.out).mono ?_); (case side1 => exact Kd.R_V (Kd.R_tight rfl (Kd.R_types (Kd.R_types (Kd.R_types (HO10.out) BK1.out bi3y_) BK2.out bi3y_) BK3.out bi3y_))); (case side2 => exact (by repeat (first | exact (rr_ HO11.out).2.2 | (with_reducible refine ca_ ?_ _) | (with_reducible refine cn_ ?_ _) | (with_reducible refine cd_ ?_)))); (case side3 => exact (rr_ HO11.out).2.1); rintro e w18 ⟨v18, rfl, ho0, hb⟩; refine ⟨_, rfl, ?_⟩; have HO13 := A0_ (Kd.R_lower (Kd.R_new' (Kd.R_new' (Kd.R_new' (Kd.R_new' (Kd.R_new' (Kd.R_new' (Kd.R_new' (Kd.R_new' (Kd.R_mono (ok' := fun k_ => True) ho0 (fun _ hk_ => trivial)) (Kd.R_lt bwik_)) (Kd.R_lt bzfm_)) (Kd.R_lt b0mw_)) (Kd.R_lt b7sq_)) (Kd.R_lt bqlr_)) (Kd.R_lt b197_)) (Kd.R_lt bfdn_)) (Kd.R_lt (by (with_reducible repeat (first | apply ra_ | apply rn_ | apply rd_)); exact HO12.out))) (bz_ b850_)); replace HO_1 := A0_ (Kd.R_elder' bwik_ (Kd.R_base ho0) hb); replace HO_3 := A0_ (Kd.R_elder' bzfm_ (Kd.R_base ho0) hb); replace HO_4 := A0_ (Kd.R_elder' b0mw_ (Kd.R_base ho0) hb); replace HO_2 := A0_ (Kd.R_elder' b7sq_ (Kd.R_base ho0) hb); replace HO_5 := A0_ (Kd.R_elder' bqlr_ (Kd.R_base ho0) hb); replace HO10 := A0_ (Kd.R_elder' b197_ (Kd.R_base ho0) hb); replace HO11 := A0_ (Kd.R_elder' bfdn_ (Kd.R_base ho0) hb); replace HO12 := A0_ (Kd.R_elder' (by (with_reducible repeat (first | apply ra_ | apply rn_ | apply rd_)); exact HO12.out) (Kd.R_base ho0) hb); replace BK1 := k1_ BK1 hb; replace BK2 := k1_ BK2 hb; replace BK3 := k1_ BK3 hb; replace HB := hb_ hb b850_; (try clear hb); (try clear ho0)))
  (try simp only [Act.put, sa_, sz_, ss_])
  go_cut [243] from 211 to 243 (fun v19 wc => ∃ (kq : Nat) (x243_80 : Bool), v19 = .bool x243_80 ∧ Aside0 (laws_FnTheatre.j5 kq l0 t7 t11 t19 t26 t27 t28 t31 t38 t40 t41 x243_80 t4 t5 t6 t23 t24 t25 t35 t36 t37 = some r) ∧ Aside0 (kq ≤ kj5) ∧ Aside0 (Kd.R (Kd.int .i64) 3 wc w.heap.size (fun k_ => no_ v7 k_ ∧ no_ v11 k_ ∧ no_ (.slice Ao5 t38.length co5) k_ ∧ no_ (.slice Ao1 t6.length co1) k_ ∧ no_ (.slice Ao3 t25.length co3) k_ ∧ no_ (.slice Ao4 t37.length co4) k_) (.slice Ao2 t7.length co2) t7) ∧ Aside0 (Kd.R (Kd.int .i64) 3 wc w.heap.size (fun k_ => no_ (.slice Ao2 t7.length co2) k_ ∧ no_ v11 k_ ∧ no_ (.slice Ao5 t38.length co5) k_ ∧ no_ (.slice Ao1 t6.length co1) k_ ∧ no_ (.slice Ao3 t25.length co3) k_ ∧ no_ (.slice Ao4 t37.length co4) k_) v7 t19) ∧ Aside0 (Kd.R (Kd.int .i64) 3 wc w.heap.size (fun k_ => no_ (.slice Ao2 t7.length co2) k_ ∧ no_ v7 k_ ∧ no_ (.slice Ao5 t38.length co5) k_ ∧ no_ (.slice Ao1 t6.length co1) k_ ∧ no_ (.slice Ao3 t25.length co3) k_ ∧ no_ (.slice Ao4 t37.length co4) k_) v11 t27) ∧ Aside0 (Kd.R (Kd.int .i64) 3 wc w.heap.size (fun k_ => no_ (.slice Ao2 t7.length co2) k_ ∧ no_ v7 k_ ∧ no_ v11 k_ ∧ no_ (.slice Ao1 t6.length co1) k_ ∧ no_ (.slice Ao3 t25.length co3) k_ ∧ no_ (.slice Ao4 t37.length co4) k_) (.slice Ao5 t38.length co5) t38) ∧ Aside0 (Kd.R (Kd.int .i64) 3 wc w.heap.size (fun k_ => no_ (.slice Ao2 t7.length co2) k_ ∧ no_ v7 k_ ∧ no_ v11 k_ ∧ no_ (.slice Ao5 t38.length co5) k_ ∧ no_ (.slice Ao3 t25.length co3) k_ ∧ no_ (.slice Ao4 t37.length co4) k_) (.slice Ao1 t6.length co1) t6) ∧ Aside0 (Kd.R (Kd.int .i64) 3 wc w.heap.size (fun k_ => no_ (.slice Ao2 t7.length co2) k_ ∧ no_ v7 k_ ∧ no_ v11 k_ ∧ no_ (.slice Ao5 t38.length co5) k_ ∧ no_ (.slice Ao1 t6.length co1) k_ ∧ no_ (.slice Ao4 t37.length co4) k_) (.slice Ao3 t25.length co3) t25) ∧ Aside0 (Kd.R (Kd.int .i64) 3 wc w.heap.size (fun k_ => no_ (.slice Ao2 t7.length co2) k_ ∧ no_ v7 k_ ∧ no_ v11 k_ ∧ no_ (.slice Ao5 t38.length co5) k_ ∧ no_ (.slice Ao1 t6.length co1) k_ ∧ no_ (.slice Ao3 t25.length co3) k_) (.slice Ao4 t37.length co4) t37) ∧ Aside0 (wc.heap[gb1]? = some (.cells #[.int .i64 t4, .bool t5, (.slice Ao1 t6.length co1)] 28 (0, 0))) ∧ Aside0 (wc.heap[gb2]? = some (.cells #[.int .i64 t23, .bool t24, (.slice Ao3 t25.length co3)] 28 (0, 0))) ∧ Aside0 (wc.heap[gb3]? = some (.cells #[.int .i64 t35, .bool t36, (.slice Ao4 t37.length co4)] 28 (0, 0))) ∧ Aside0 (Below w.heap.size w wc))
  case first =>
   have H := HC81.out
   clear HC81
   by_cases c7 : t40 = t43
   case neg =>
    rw [if_neg c7] at H
    exact absurd H bxka_
   rw [if_pos c7] at H
   obtain ⟨c7b0, c7b1⟩ := et_ c7
   clear c7
   (first | rw [c7b0] | (simp only [i64_w, i32_w]; rw [c7b0]) | skip)
   by_cases c8 : (t41 != t44) = true
   ·rw [if_pos c8] at H
    exact absurd H bxka_
   rw [if_neg c8] at H
   have c8b0 : (t41 != t44) = false := by simpa using c8
   (try (have c8b1 : decide (t41 = t44) = true := by simpa using c8))
   (try (have c8b2 : (t41 == t44) = true := by simpa using c8))
   clear c8
   obtain ⟨t45, A33, H⟩ := o1_ H
   have H' := A0_ H
   clear H
   obtain ⟨Ao6, co6, eo6⟩ := Kd.R_slice HO12.out
   subst eo6
   obtain ⟨Ao7, co7, eo7⟩ := Kd.R_slice HO13.out
   subst eo7
   go_wp2_with (first | (go_at_call 21; (with_reducible refine (laws_rInts.calls kj5 _ _ t39 _ _ t42 t45 _ ?side1 ?side2 ?side3 ?side4 A33.out).mono ?_); (case side1 => exact (by repeat (first | exact (rr_ HO12.out).2.2 | (with_reducible refine ca_ ?_ _) | (with_reducible refine cn_ ?_ _) | (with_reducible refine cd_ ?_)))); (case side2 => exact (rr_ HO12.out).2.1); (case side3 => exact (by repeat (first | exact (rr_ HO13.out).2.2 | (with_reducible refine ca_ ?_ _) | (with_reducible refine cn_ ?_ _) | (with_reducible refine cd_ ?_)))); (case side4 => exact (rr_ HO13.out).2.1); rintro e w' ⟨rfl, ⟨nd, rfl⟩⟩))
   go_meet
   exact ⟨_, (!t45), b2ew_, H', ⟨by have := HJ1.out; have := HJ2.out; have := HJ3.out; have := HJ4.out; have := HJ5.out; first | omega | exact Nat.le_refl _⟩, ⟨b9dr_⟩, ⟨bsf8_⟩, ⟨b4w4_⟩, ⟨by (with_reducible repeat (first | apply ra_ | apply rn_ | apply rd_)); exact Kd.R_mono HO11.out cf_⟩, ⟨bfb7_⟩, ⟨b9hw_⟩, ⟨by (with_reducible repeat (first | apply ra_ | apply rn_ | apply rd_)); exact Kd.R_mono HO10.out cf_⟩, ⟨u1_ BK1⟩, ⟨u1_ BK2⟩, ⟨u1_ BK3⟩, ⟨b850_⟩⟩
  clear HC81
  try clear c1
  try clear c2
  try clear c3
  try clear c4
  try clear c5
  try clear c6
  (try clear hcz1); (try clear hcz2); (try clear hcz3); (try clear hcz4); (try clear hcz5); (try clear hcz6); (try clear hcz7); (try clear hcz8); (try clear hcz9); (try clear hcz10); (try clear hcz11); (try clear hcz12); (try clear hfz1); (try clear hfz2); (try clear hfz3); (try clear hfz4); (try clear hfz5); (try clear hfz6); (try clear hfz7); (try clear hfz8); (try clear hfz9); (try clear hfz10); (try clear hfz11); (try clear hfz12)
  obtain ⟨kq, x243_80, rfl, HA, HJ6, HO_1, HO_3, HO_4, HO_6, HO_2, HO_5, HO_7, BK1, BK2, BK3, HB⟩ := hcut
  cases kq with | zero => exact absurd HA.out (by simp [laws_FnTheatre.j5]) | succ kj6 => ?_
  as_aux_lemma =>
  have H := HA.out
  clear HA
  simp only [laws_FnTheatre.j5] at H
  by_cases c7 : x243_80 = true
  ·subst c7
   have H1 : (none) = some r := by rw [if_pos rfl] at H; exact H
   exact absurd H1 bxka_
  obtain rfl := bf_.mpr c7
  rw [if_neg ft_] at H
  obtain ⟨t45, A33, H⟩ := o1_ H
  obtain ⟨⟨t46, t47⟩, A35, H⟩ := o1_ H
  obtain ⟨⟨t48, t49⟩, A37, H⟩ := o1_ H
  have HC101 := A0_ H
  clear H
  go_upto_region 33 with (first | ((with_reducible refine gc_ (f := 31) rfl ?_); refine gl_ 245 Tryd.func31 #[.slice A0 l0.length c0] ?_; (with_reducible refine (spec_DrawCountStands.calls _ _ l0 t45 _ ?side1 ?side2 A33.out).mono ?_); (case side1 => exact bg0z_); (case side2 => exact HC0.out); rintro e w19 ⟨rfl, hb⟩; refine ⟨_, rfl, ?_⟩; replace HO_1 := A0_ (Kd.R_below bwik_ hb); replace HO_3 := A0_ (Kd.R_below bzfm_ hb); replace HO_4 := A0_ (Kd.R_below b0mw_ hb); replace HO_6 := A0_ (Kd.R_below bj2s_ hb); replace HO_2 := A0_ (Kd.R_below b7sq_ hb); replace HO_5 := A0_ (Kd.R_below bqlr_ hb); replace HO_7 := A0_ (Kd.R_below bhm9_ hb); replace BK1 := k1_ BK1 hb; replace BK2 := k1_ BK2 hb; replace BK3 := k1_ BK3 hb; replace HB := hb_ hb b850_; (try clear hb)) | ((with_reducible refine gc_ (f := 32) rfl ?_); refine gl_ 248 Tryd.func32 #[.int .i64 t45] ?_; (with_reducible refine (impl_CountStands.calls kj6 t45 t46 t47 _ A35.out).mono ?_); rintro e w20 ⟨v20, rfl, ho0, hb⟩; refine ⟨_, rfl, ?_⟩; have HO14 := A0_ (Kd.R_lower (Kd.R_new' (Kd.R_new' (Kd.R_new' (Kd.R_new' (Kd.R_new' (Kd.R_new' (Kd.R_new' ho0 (Kd.R_lt bwik_)) (Kd.R_lt bzfm_)) (Kd.R_lt b0mw_)) (Kd.R_lt bj2s_)) (Kd.R_lt b7sq_)) (Kd.R_lt bqlr_)) (Kd.R_lt bhm9_)) (bz_ b850_)); replace HO_1 := A0_ (Kd.R_elder' bwik_ (Kd.R_base ho0) hb); replace HO_3 := A0_ (Kd.R_elder' bzfm_ (Kd.R_base ho0) hb); replace HO_4 := A0_ (Kd.R_elder' b0mw_ (Kd.R_base ho0) hb); replace HO_6 := A0_ (Kd.R_elder' bj2s_ (Kd.R_base ho0) hb); replace HO_2 := A0_ (Kd.R_elder' b7sq_ (Kd.R_base ho0) hb); replace HO_5 := A0_ (Kd.R_elder' bqlr_ (Kd.R_base ho0) hb); replace HO_7 := A0_ (Kd.R_elder' bhm9_ (Kd.R_base ho0) hb); replace BK1 := k1_ BK1 hb; replace BK2 := k1_ BK2 hb; replace BK3 := k1_ BK3 hb; replace HB := hb_ hb b850_; (try clear hb); (try clear ho0)) | ((with_reducible refine gc_ (f := 33) rfl ?_); refine gl_ 253 Tryd.func33 #[.int .i64 t45] ?_; (with_reducible refine (spec_CountStands.calls kj6 t45 t48 t49 _ A37.out).mono ?_); rintro e w21 ⟨v21, rfl, ho0, hb⟩; refine ⟨_, rfl, ?_⟩; have HO15 := A0_ (Kd.R_lower (Kd.R_new' (Kd.R_new' (Kd.R_new' (Kd.R_new' (Kd.R_new' (Kd.R_new' (Kd.R_new' (Kd.R_new' ho0 (Kd.R_lt bwik_)) (Kd.R_lt bzfm_)) (Kd.R_lt b0mw_)) (Kd.R_lt bj2s_)) (Kd.R_lt b7sq_)) (Kd.R_lt bqlr_)) (Kd.R_lt bhm9_)) (Kd.R_lt (by (with_reducible repeat (first | apply ra_ | apply rn_ | apply rd_)); exact HO14.out))) (bz_ b850_)); replace HO_1 := A0_ (Kd.R_elder' bwik_ (Kd.R_base ho0) hb); replace HO_3 := A0_ (Kd.R_elder' bzfm_ (Kd.R_base ho0) hb); replace HO_4 := A0_ (Kd.R_elder' b0mw_ (Kd.R_base ho0) hb); replace HO_6 := A0_ (Kd.R_elder' bj2s_ (Kd.R_base ho0) hb); replace HO_2 := A0_ (Kd.R_elder' b7sq_ (Kd.R_base ho0) hb); replace HO_5 := A0_ (Kd.R_elder' bqlr_ (Kd.R_base ho0) hb); replace HO_7 := A0_ (Kd.R_elder' bhm9_ (Kd.R_base ho0) hb); replace HO14 := A0_ (Kd.R_elder' (by (with_reducible repeat (first | apply ra_ | apply rn_ | apply rd_)); exact HO14.out) (Kd.R_base ho0) hb); replace BK1 := k1_ BK1 hb; replace BK2 := k1_ BK2 hb; replace BK3 := k1_ BK3 hb; replace HB := hb_ hb b850_; (try clear hb); (try clear ho0)))
  (try simp only [Act.put, sa_, sz_, ss_])
  go_cut [264] from 244 to 264 (fun v22 wc => ∃ (kq : Nat) (x264_100 : Bool), v22 = .bool x264_100 ∧ Aside0 (laws_FnTheatre.j6 kq t7 t11 t19 t26 t27 t28 t31 t38 t40 t41 t45 t46 t47 x264_100 t4 t5 t6 t23 t24 t25 t35 t36 t37 = some r) ∧ Aside0 (kq ≤ kj6) ∧ Aside0 (Kd.R (Kd.int .i64) 3 wc w.heap.size (fun k_ => no_ v7 k_ ∧ no_ v11 k_ ∧ no_ (.slice Ao5 t38.length co5) k_ ∧ no_ v20 k_ ∧ no_ (.slice Ao1 t6.length co1) k_ ∧ no_ (.slice Ao3 t25.length co3) k_ ∧ no_ (.slice Ao4 t37.length co4) k_) (.slice Ao2 t7.length co2) t7) ∧ Aside0 (Kd.R (Kd.int .i64) 3 wc w.heap.size (fun k_ => no_ (.slice Ao2 t7.length co2) k_ ∧ no_ v11 k_ ∧ no_ (.slice Ao5 t38.length co5) k_ ∧ no_ v20 k_ ∧ no_ (.slice Ao1 t6.length co1) k_ ∧ no_ (.slice Ao3 t25.length co3) k_ ∧ no_ (.slice Ao4 t37.length co4) k_) v7 t19) ∧ Aside0 (Kd.R (Kd.int .i64) 3 wc w.heap.size (fun k_ => no_ (.slice Ao2 t7.length co2) k_ ∧ no_ v7 k_ ∧ no_ (.slice Ao5 t38.length co5) k_ ∧ no_ v20 k_ ∧ no_ (.slice Ao1 t6.length co1) k_ ∧ no_ (.slice Ao3 t25.length co3) k_ ∧ no_ (.slice Ao4 t37.length co4) k_) v11 t27) ∧ Aside0 (Kd.R (Kd.int .i64) 3 wc w.heap.size (fun k_ => no_ (.slice Ao2 t7.length co2) k_ ∧ no_ v7 k_ ∧ no_ v11 k_ ∧ no_ v20 k_ ∧ no_ (.slice Ao1 t6.length co1) k_ ∧ no_ (.slice Ao3 t25.length co3) k_ ∧ no_ (.slice Ao4 t37.length co4) k_) (.slice Ao5 t38.length co5) t38) ∧ Aside0 (Kd.R (Kd.int .i64) 3 wc w.heap.size (fun k_ => no_ (.slice Ao2 t7.length co2) k_ ∧ no_ v7 k_ ∧ no_ v11 k_ ∧ no_ (.slice Ao5 t38.length co5) k_ ∧ no_ (.slice Ao1 t6.length co1) k_ ∧ no_ (.slice Ao3 t25.length co3) k_ ∧ no_ (.slice Ao4 t37.length co4) k_) v20 t46) ∧ Aside0 (Kd.R (Kd.int .i64) 3 wc w.heap.size (fun k_ => no_ (.slice Ao2 t7.length co2) k_ ∧ no_ v7 k_ ∧ no_ v11 k_ ∧ no_ (.slice Ao5 t38.length co5) k_ ∧ no_ v20 k_ ∧ no_ (.slice Ao3 t25.length co3) k_ ∧ no_ (.slice Ao4 t37.length co4) k_) (.slice Ao1 t6.length co1) t6) ∧ Aside0 (Kd.R (Kd.int .i64) 3 wc w.heap.size (fun k_ => no_ (.slice Ao2 t7.length co2) k_ ∧ no_ v7 k_ ∧ no_ v11 k_ ∧ no_ (.slice Ao5 t38.length co5) k_ ∧ no_ v20 k_ ∧ no_ (.slice Ao1 t6.length co1) k_ ∧ no_ (.slice Ao4 t37.length co4) k_) (.slice Ao3 t25.length co3) t25) ∧ Aside0 (Kd.R (Kd.int .i64) 3 wc w.heap.size (fun k_ => no_ (.slice Ao2 t7.length co2) k_ ∧ no_ v7 k_ ∧ no_ v11 k_ ∧ no_ (.slice Ao5 t38.length co5) k_ ∧ no_ v20 k_ ∧ no_ (.slice Ao1 t6.length co1) k_ ∧ no_ (.slice Ao3 t25.length co3) k_) (.slice Ao4 t37.length co4) t37) ∧ Aside0 (wc.heap[gb1]? = some (.cells #[.int .i64 t4, .bool t5, (.slice Ao1 t6.length co1)] 28 (0, 0))) ∧ Aside0 (wc.heap[gb2]? = some (.cells #[.int .i64 t23, .bool t24, (.slice Ao3 t25.length co3)] 28 (0, 0))) ∧ Aside0 (wc.heap[gb3]? = some (.cells #[.int .i64 t35, .bool t36, (.slice Ao4 t37.length co4)] 28 (0, 0))) ∧ Aside0 (Below w.heap.size w wc))
  case first =>
   have H := HC101.out
   clear HC101
   by_cases c8 : (t47 != t49) = true
   ·rw [if_pos c8] at H
    exact absurd H bxka_
   rw [if_neg c8] at H
   have c8b0 : (t47 != t49) = false := by simpa using c8
   (try (have c8b1 : decide (t47 = t49) = true := by simpa using c8))
   (try (have c8b2 : (t47 == t49) = true := by simpa using c8))
   clear c8
   (first | rw [c8b0] | (simp only [i64_w, i32_w]; rw [c8b0]) | skip)
   obtain ⟨t50, A39, H⟩ := o1_ H
   have H' := A0_ H
   clear H
   obtain ⟨Ao6, co6, eo6⟩ := Kd.R_slice HO14.out
   subst eo6
   obtain ⟨Ao7, co7, eo7⟩ := Kd.R_slice HO15.out
   subst eo7
   go_wp2_with (first | (go_at_call 21; (with_reducible refine (laws_rInts.calls kj6 _ _ t46 _ _ t48 t50 _ ?side1 ?side2 ?side3 ?side4 A39.out).mono ?_); (case side1 => exact (by repeat (first | exact (rr_ HO14.out).2.2 | (with_reducible refine ca_ ?_ _) | (with_reducible refine cn_ ?_ _) | (with_reducible refine cd_ ?_)))); (case side2 => exact (rr_ HO14.out).2.1); (case side3 => exact (by repeat (first | exact (rr_ HO15.out).2.2 | (with_reducible refine ca_ ?_ _) | (with_reducible refine cn_ ?_ _) | (with_reducible refine cd_ ?_)))); (case side4 => exact (rr_ HO15.out).2.1); rintro e w' ⟨rfl, ⟨nd, rfl⟩⟩))
   go_meet
   exact ⟨_, (!t50), b2ew_, H', ⟨by have := HJ1.out; have := HJ2.out; have := HJ3.out; have := HJ4.out; have := HJ5.out; have := HJ6.out; first | omega | exact Nat.le_refl _⟩, ⟨b9dr_⟩, ⟨bsf8_⟩, ⟨b4w4_⟩, ⟨bo6m_⟩, ⟨by (with_reducible repeat (first | apply ra_ | apply rn_ | apply rd_)); exact Kd.R_mono HO14.out cf_⟩, ⟨bfb7_⟩, ⟨b9hw_⟩, ⟨bw0p_⟩, ⟨u1_ BK1⟩, ⟨u1_ BK2⟩, ⟨u1_ BK3⟩, ⟨b850_⟩⟩
  clear HC101
  try clear c1
  try clear c2
  try clear c3
  try clear c4
  try clear c5
  try clear c6
  try clear c7
  (try clear hcz1); (try clear hcz2); (try clear hcz3); (try clear hcz4); (try clear hcz5); (try clear hcz6); (try clear hcz7); (try clear hcz8); (try clear hcz9); (try clear hcz10); (try clear hcz11); (try clear hcz12); (try clear hfz1); (try clear hfz2); (try clear hfz3); (try clear hfz4); (try clear hfz5); (try clear hfz6); (try clear hfz7); (try clear hfz8); (try clear hfz9); (try clear hfz10); (try clear hfz11); (try clear hfz12)
  obtain ⟨kq, x264_100, rfl, HA, HJ7, HO_1, HO_3, HO_4, HO_6, HO_8, HO_2, HO_5, HO_7, BK1, BK2, BK3, HB⟩ := hcut
  cases kq with | zero => exact absurd HA.out (by simp [laws_FnTheatre.j6]) | succ kj7 => ?_
  as_aux_lemma =>
  have H := HA.out
  clear HA
  simp only [laws_FnTheatre.j6] at H
  by_cases c8 : x264_100 = true
  ·subst c8
   have H1 : (none) = some r := by rw [if_pos rfl] at H; exact H
   exact absurd H1 bxka_
  obtain rfl := bf_.mpr c8
  rw [if_neg ft_] at H
  have HC110 := A0_ H
  clear H
  go_upto_if 265 with (fail)
  go_cut [] from 265 to 265 (fun wc => ∃ (kq : Nat), Aside0 (laws_FnTheatre.j8 kq t7 t11 t19 t26 t27 t28 t31 t38 t40 t41 t4 t5 t6 t23 t24 t25 t35 t36 t37 = some r) ∧ Aside0 (kq ≤ kj7) ∧ Aside0 (Kd.R (Kd.int .i64) 3 wc w.heap.size (fun k_ => no_ v7 k_ ∧ no_ v11 k_ ∧ no_ (.slice Ao5 t38.length co5) k_ ∧ no_ (.slice Ao1 t6.length co1) k_ ∧ no_ (.slice Ao3 t25.length co3) k_ ∧ no_ (.slice Ao4 t37.length co4) k_) (.slice Ao2 t7.length co2) t7) ∧ Aside0 (Kd.R (Kd.int .i64) 3 wc w.heap.size (fun k_ => no_ (.slice Ao2 t7.length co2) k_ ∧ no_ v11 k_ ∧ no_ (.slice Ao5 t38.length co5) k_ ∧ no_ (.slice Ao1 t6.length co1) k_ ∧ no_ (.slice Ao3 t25.length co3) k_ ∧ no_ (.slice Ao4 t37.length co4) k_) v7 t19) ∧ Aside0 (Kd.R (Kd.int .i64) 3 wc w.heap.size (fun k_ => no_ (.slice Ao2 t7.length co2) k_ ∧ no_ v7 k_ ∧ no_ (.slice Ao5 t38.length co5) k_ ∧ no_ (.slice Ao1 t6.length co1) k_ ∧ no_ (.slice Ao3 t25.length co3) k_ ∧ no_ (.slice Ao4 t37.length co4) k_) v11 t27) ∧ Aside0 (Kd.R (Kd.int .i64) 3 wc w.heap.size (fun k_ => no_ (.slice Ao2 t7.length co2) k_ ∧ no_ v7 k_ ∧ no_ v11 k_ ∧ no_ (.slice Ao1 t6.length co1) k_ ∧ no_ (.slice Ao3 t25.length co3) k_ ∧ no_ (.slice Ao4 t37.length co4) k_) (.slice Ao5 t38.length co5) t38) ∧ Aside0 (Kd.R (Kd.int .i64) 3 wc w.heap.size (fun k_ => no_ (.slice Ao2 t7.length co2) k_ ∧ no_ v7 k_ ∧ no_ v11 k_ ∧ no_ (.slice Ao5 t38.length co5) k_ ∧ no_ (.slice Ao3 t25.length co3) k_ ∧ no_ (.slice Ao4 t37.length co4) k_) (.slice Ao1 t6.length co1) t6) ∧ Aside0 (Kd.R (Kd.int .i64) 3 wc w.heap.size (fun k_ => no_ (.slice Ao2 t7.length co2) k_ ∧ no_ v7 k_ ∧ no_ v11 k_ ∧ no_ (.slice Ao5 t38.length co5) k_ ∧ no_ (.slice Ao1 t6.length co1) k_ ∧ no_ (.slice Ao4 t37.length co4) k_) (.slice Ao3 t25.length co3) t25) ∧ Aside0 (Kd.R (Kd.int .i64) 3 wc w.heap.size (fun k_ => no_ (.slice Ao2 t7.length co2) k_ ∧ no_ v7 k_ ∧ no_ v11 k_ ∧ no_ (.slice Ao5 t38.length co5) k_ ∧ no_ (.slice Ao1 t6.length co1) k_ ∧ no_ (.slice Ao3 t25.length co3) k_) (.slice Ao4 t37.length co4) t37) ∧ Aside0 (wc.heap[gb1]? = some (.cells #[.int .i64 t4, .bool t5, (.slice Ao1 t6.length co1)] 28 (0, 0))) ∧ Aside0 (wc.heap[gb2]? = some (.cells #[.int .i64 t23, .bool t24, (.slice Ao3 t25.length co3)] 28 (0, 0))) ∧ Aside0 (wc.heap[gb3]? = some (.cells #[.int .i64 t35, .bool t36, (.slice Ao4 t37.length co4)] 28 (0, 0))) ∧ Aside0 (Below w.heap.size w wc))
  case first =>
   have H := HC110.out
   clear HC110
   by_cases c9 : t47 = true
   case neg =>
    obtain rfl := bf_.mpr c9
    rw [if_neg ft_] at H
    have H' := A0_ H
    clear H
    go_wp2
    go_meet
    exact ⟨_, H', ⟨by have := HJ1.out; have := HJ2.out; have := HJ3.out; have := HJ4.out; have := HJ5.out; have := HJ6.out; have := HJ7.out; first | omega | exact Nat.le_refl _⟩, ⟨b9dr_⟩, ⟨bsf8_⟩, ⟨b4w4_⟩, ⟨bo6m_⟩, ⟨bfb7_⟩, ⟨b9hw_⟩, ⟨bw0p_⟩, ⟨u1_ BK1⟩, ⟨u1_ BK2⟩, ⟨u1_ BK3⟩, ⟨b850_⟩⟩
   subst c9
   rw [if_pos rfl] at H
   have H' := A0_ H
   clear H
   go_wp2
   go_loopg [43, 44] kj7 (fun kq v23 v24 w' => ∃ (x43_8 : Int) (x44_8 : Int), v23 = .int .i64 x43_8 ∧ v24 = .int .i64 x44_8 ∧ Aside0 (laws_FnTheatre.l0 kq t7 t11 t19 t26 t27 t28 t31 t38 t40 t41 t45 t46 x43_8 x44_8 t4 t5 t6 t23 t24 t25 t35 t36 t37 = some r) ∧ Aside0 (kq ≤ kj7) ∧ Aside0 (Kd.R (Kd.int .i64) 3 w' w.heap.size (fun k_ => no_ v7 k_ ∧ no_ v11 k_ ∧ no_ (.slice Ao5 t38.length co5) k_ ∧ no_ v20 k_ ∧ no_ (.slice Ao1 t6.length co1) k_ ∧ no_ (.slice Ao3 t25.length co3) k_ ∧ no_ (.slice Ao4 t37.length co4) k_) (.slice Ao2 t7.length co2) t7) ∧ Aside0 (Kd.R (Kd.int .i64) 3 w' w.heap.size (fun k_ => no_ (.slice Ao2 t7.length co2) k_ ∧ no_ v11 k_ ∧ no_ (.slice Ao5 t38.length co5) k_ ∧ no_ v20 k_ ∧ no_ (.slice Ao1 t6.length co1) k_ ∧ no_ (.slice Ao3 t25.length co3) k_ ∧ no_ (.slice Ao4 t37.length co4) k_) v7 t19) ∧ Aside0 (Kd.R (Kd.int .i64) 3 w' w.heap.size (fun k_ => no_ (.slice Ao2 t7.length co2) k_ ∧ no_ v7 k_ ∧ no_ (.slice Ao5 t38.length co5) k_ ∧ no_ v20 k_ ∧ no_ (.slice Ao1 t6.length co1) k_ ∧ no_ (.slice Ao3 t25.length co3) k_ ∧ no_ (.slice Ao4 t37.length co4) k_) v11 t27) ∧ Aside0 (Kd.R (Kd.int .i64) 3 w' w.heap.size (fun k_ => no_ (.slice Ao2 t7.length co2) k_ ∧ no_ v7 k_ ∧ no_ v11 k_ ∧ no_ v20 k_ ∧ no_ (.slice Ao1 t6.length co1) k_ ∧ no_ (.slice Ao3 t25.length co3) k_ ∧ no_ (.slice Ao4 t37.length co4) k_) (.slice Ao5 t38.length co5) t38) ∧ Aside0 (Kd.R (Kd.int .i64) 3 w' w.heap.size (fun k_ => no_ (.slice Ao2 t7.length co2) k_ ∧ no_ v7 k_ ∧ no_ v11 k_ ∧ no_ (.slice Ao5 t38.length co5) k_ ∧ no_ (.slice Ao1 t6.length co1) k_ ∧ no_ (.slice Ao3 t25.length co3) k_ ∧ no_ (.slice Ao4 t37.length co4) k_) v20 t46) ∧ Aside0 (Kd.R (Kd.int .i64) 3 w' w.heap.size (fun k_ => no_ (.slice Ao2 t7.length co2) k_ ∧ no_ v7 k_ ∧ no_ v11 k_ ∧ no_ (.slice Ao5 t38.length co5) k_ ∧ no_ v20 k_ ∧ no_ (.slice Ao3 t25.length co3) k_ ∧ no_ (.slice Ao4 t37.length co4) k_) (.slice Ao1 t6.length co1) t6) ∧ Aside0 (Kd.R (Kd.int .i64) 3 w' w.heap.size (fun k_ => no_ (.slice Ao2 t7.length co2) k_ ∧ no_ v7 k_ ∧ no_ v11 k_ ∧ no_ (.slice Ao5 t38.length co5) k_ ∧ no_ v20 k_ ∧ no_ (.slice Ao1 t6.length co1) k_ ∧ no_ (.slice Ao4 t37.length co4) k_) (.slice Ao3 t25.length co3) t25) ∧ Aside0 (Kd.R (Kd.int .i64) 3 w' w.heap.size (fun k_ => no_ (.slice Ao2 t7.length co2) k_ ∧ no_ v7 k_ ∧ no_ v11 k_ ∧ no_ (.slice Ao5 t38.length co5) k_ ∧ no_ v20 k_ ∧ no_ (.slice Ao1 t6.length co1) k_ ∧ no_ (.slice Ao3 t25.length co3) k_) (.slice Ao4 t37.length co4) t37) ∧ Aside0 (w'.heap[gb1]? = some (.cells #[.int .i64 t4, .bool t5, (.slice Ao1 t6.length co1)] 28 (0, 0))) ∧ Aside0 (w'.heap[gb2]? = some (.cells #[.int .i64 t23, .bool t24, (.slice Ao3 t25.length co3)] 28 (0, 0))) ∧ Aside0 (w'.heap[gb3]? = some (.cells #[.int .i64 t35, .bool t36, (.slice Ao4 t37.length co4)] 28 (0, 0))) ∧ Aside0 (Below w.heap.size w w'))
   case atStart => exact ⟨(1), (2), b2ew_, b2ew_, H', ⟨Nat.le_refl _⟩, ⟨bwik_⟩, ⟨bzfm_⟩, ⟨b0mw_⟩, ⟨bj2s_⟩, ⟨by (with_reducible repeat (first | apply ra_ | apply rn_ | apply rd_)); exact HO_8.out⟩, ⟨b7sq_⟩, ⟨bqlr_⟩, ⟨bhm9_⟩, ⟨u1_ BK1⟩, ⟨u1_ BK2⟩, ⟨u1_ BK3⟩, ⟨b850_⟩⟩
   clear H'
   try clear c1
   try clear c2
   try clear c3
   try clear c4
   try clear c5
   try clear c6
   try clear c7
   try clear c8
   try clear c9
   (try clear hcz1); (try clear hcz2); (try clear hcz3); (try clear hcz4); (try clear hcz5); (try clear hcz6); (try clear hcz7); (try clear hcz8); (try clear hcz9); (try clear hcz10); (try clear hcz11); (try clear hcz12); (try clear hfz1); (try clear hfz2); (try clear hfz3); (try clear hfz4); (try clear hfz5); (try clear hfz6); (try clear hfz7); (try clear hfz8); (try clear hfz9); (try clear hfz10); (try clear hfz11); (try clear hfz12)
   obtain ⟨x43_8, x44_8, rfl, rfl, HA, HK1, HO_1, HO_3, HO_4, HO_6, HO_8, HO_2, HO_5, HO_7, BK1, BK2, BK3, HB⟩ := hrel
   cases gk with | zero => exact absurd HA.out (by simp [laws_FnTheatre.l0]) | succ k8 => ?_
   as_aux_lemma =>
   have H := HA.out
   clear HA
   simp only [laws_FnTheatre.l0] at H
   by_cases c10 : x44_8 ≤ t45
   ·rw [if_pos c10] at H
    have c10b0 : decide (x44_8 ≤ t45) = true := dt_ c10
    clear c10
    (first | rw [c10b0] | (simp only [i64_w, i32_w]; rw [c10b0]) | skip)
    have H' := A0_ H
    clear H
    go_wp2
    go_roundg k8
    case measure => have := HJ1.out; have := HJ2.out; have := HJ3.out; have := HJ4.out; have := HJ5.out; have := HJ6.out; have := HJ7.out; have := HK1.out; omega
    exact ⟨(wrap64 (x43_8 * x44_8)), (wrap64 (x44_8 + 1)), b2ew_, b2ew_, H', ⟨by have := HJ1.out; have := HJ2.out; have := HJ3.out; have := HJ4.out; have := HJ5.out; have := HJ6.out; have := HJ7.out; have := HK1.out; omega⟩, ⟨bwik_⟩, ⟨bzfm_⟩, ⟨b0mw_⟩, ⟨bj2s_⟩, ⟨by (with_reducible repeat (first | apply ra_ | apply rn_ | apply rd_)); exact HO_8.out⟩, ⟨b7sq_⟩, ⟨bqlr_⟩, ⟨bhm9_⟩, ⟨u1_ BK1⟩, ⟨u1_ BK2⟩, ⟨u1_ BK3⟩, ⟨b850_⟩⟩
   rw [if_neg c10] at H
   have c10b0 : decide (x44_8 ≤ t45) = false := decide_eq_false c10
   clear c10
   (first | rw [c10b0] | (simp only [i64_w, i32_w]; rw [c10b0]) | skip)
   obtain ⟨t50, A39, H⟩ := o1_ H
   by_cases c11 : t50 = x43_8
   case neg =>
    rw [if_neg c11] at H
    exact absurd H bxka_
   rw [if_pos c11] at H
   obtain ⟨c11b0, c11b1⟩ := et_ c11
   clear c11
   by_cases c12 : (t46.length : Int) = (wrap64 ((wrap64 (Int.tdiv (wrap64 (t45 * (wrap64 (t45 - 1)))) 2)) + 1))
   case neg =>
    rw [if_neg c12] at H
    exact absurd H bxka_
   rw [if_pos c12] at H
   obtain ⟨c12b0, c12b1⟩ := et_ c12
   clear c12
   have H' := A0_ H
   clear H
   obtain ⟨Ao6, co6, eo6⟩ := Kd.R_slice HO_8.out
   subst eo6
   go_wp2_with (first | ((with_reducible refine gc_ (f := 22) rfl ?_); refine gl_ 275 Tryd.func22 #[.slice Ao6 t46.length co6] ?_; (with_reducible refine (laws_rSum.calls k8 _ _ t46 t50 _ ?side1 ?side2 A39.out).mono ?_); (case side1 => exact (by repeat (first | exact (rr_ HO_8.out).2.2 | (with_reducible refine ca_ ?_ _) | (with_reducible refine cn_ ?_ _) | (with_reducible refine cd_ ?_)))); (case side2 => exact (rr_ HO_8.out).2.1); rintro e w' ⟨rfl, ⟨nd, rfl⟩⟩; refine ⟨_, rfl, ?_⟩))
   go_meet
   exact ⟨_, H', ⟨by have := HJ1.out; have := HJ2.out; have := HJ3.out; have := HJ4.out; have := HJ5.out; have := HJ6.out; have := HJ7.out; have := HK1.out; first | omega | exact Nat.le_refl _⟩, ⟨b9dr_⟩, ⟨bsf8_⟩, ⟨b4w4_⟩, ⟨bo6m_⟩, ⟨bfb7_⟩, ⟨b9hw_⟩, ⟨bw0p_⟩, ⟨u1_ BK1⟩, ⟨u1_ BK2⟩, ⟨u1_ BK3⟩, ⟨b850_⟩⟩
  clear HC110
  try clear c1
  try clear c2
  try clear c3
  try clear c4
  try clear c5
  try clear c6
  try clear c7
  try clear c8
  (try clear hcz1); (try clear hcz2); (try clear hcz3); (try clear hcz4); (try clear hcz5); (try clear hcz6); (try clear hcz7); (try clear hcz8); (try clear hcz9); (try clear hcz10); (try clear hcz11); (try clear hcz12); (try clear hfz1); (try clear hfz2); (try clear hfz3); (try clear hfz4); (try clear hfz5); (try clear hfz6); (try clear hfz7); (try clear hfz8); (try clear hfz9); (try clear hfz10); (try clear hfz11); (try clear hfz12)
  obtain ⟨kq, HA, HJ8, HO_1, HO_3, HO_4, HO_6, HO_2, HO_5, HO_7, BK1, BK2, BK3, HB⟩ := hcut
  cases kq with | zero => exact absurd HA.out (by simp [laws_FnTheatre.j8]) | succ kj8 => ?_
  as_aux_lemma =>
  have H := HA.out
  clear HA
  simp only [laws_FnTheatre.j8] at H
  have HC119 := A0_ H
  clear H
  go_upto_if 289 with (fail)
  go_cut [] from 266 to 289 (fun wc => ∃ (kq : Nat), Aside0 (laws_FnTheatre.j9 kq t7 t11 t19 t38 t40 t41 t4 t5 t6 t35 t36 t37 = some r) ∧ Aside0 (kq ≤ kj8) ∧ Aside0 (Kd.R (Kd.int .i64) 3 wc w.heap.size (fun k_ => no_ v7 k_ ∧ no_ (.slice Ao5 t38.length co5) k_ ∧ no_ (.slice Ao1 t6.length co1) k_ ∧ no_ (.slice Ao3 t25.length co3) k_ ∧ no_ (.slice Ao4 t37.length co4) k_) (.slice Ao2 t7.length co2) t7) ∧ Aside0 (Kd.R (Kd.int .i64) 3 wc w.heap.size (fun k_ => no_ (.slice Ao2 t7.length co2) k_ ∧ no_ (.slice Ao5 t38.length co5) k_ ∧ no_ (.slice Ao1 t6.length co1) k_ ∧ no_ (.slice Ao3 t25.length co3) k_ ∧ no_ (.slice Ao4 t37.length co4) k_) v7 t19) ∧ Aside0 (Kd.R (Kd.int .i64) 3 wc w.heap.size (fun k_ => no_ (.slice Ao2 t7.length co2) k_ ∧ no_ v7 k_ ∧ no_ (.slice Ao1 t6.length co1) k_ ∧ no_ (.slice Ao3 t25.length co3) k_ ∧ no_ (.slice Ao4 t37.length co4) k_) (.slice Ao5 t38.length co5) t38) ∧ Aside0 (Kd.R (Kd.int .i64) 3 wc w.heap.size (fun k_ => no_ (.slice Ao2 t7.length co2) k_ ∧ no_ v7 k_ ∧ no_ (.slice Ao5 t38.length co5) k_ ∧ no_ (.slice Ao3 t25.length co3) k_ ∧ no_ (.slice Ao4 t37.length co4) k_) (.slice Ao1 t6.length co1) t6) ∧ Aside0 (Kd.R (Kd.int .i64) 3 wc w.heap.size (fun k_ => no_ (.slice Ao2 t7.length co2) k_ ∧ no_ v7 k_ ∧ no_ (.slice Ao5 t38.length co5) k_ ∧ no_ (.slice Ao1 t6.length co1) k_ ∧ no_ (.slice Ao4 t37.length co4) k_) (.slice Ao3 t25.length co3) t25) ∧ Aside0 (Kd.R (Kd.int .i64) 3 wc w.heap.size (fun k_ => no_ (.slice Ao2 t7.length co2) k_ ∧ no_ v7 k_ ∧ no_ (.slice Ao5 t38.length co5) k_ ∧ no_ (.slice Ao1 t6.length co1) k_ ∧ no_ (.slice Ao3 t25.length co3) k_) (.slice Ao4 t37.length co4) t37) ∧ Aside0 (wc.heap[gb1]? = some (.cells #[.int .i64 t4, .bool t5, (.slice Ao1 t6.length co1)] 28 (0, 0))) ∧ Aside0 (wc.heap[gb2]? = some (.cells #[.int .i64 t23, .bool t24, (.slice Ao3 t25.length co3)] 28 (0, 0))) ∧ Aside0 (wc.heap[gb3]? = some (.cells #[.int .i64 t35, .bool t36, (.slice Ao4 t37.length co4)] 28 (0, 0))) ∧ Aside0 (Below w.heap.size w wc))
  case first =>
   have H := HC119.out
   clear HC119
   by_cases c9 : t28 = true
   case neg =>
    obtain rfl := bf_.mpr c9
    rw [if_neg ft_] at H
    have H' := A0_ H
    clear H
    go_wp2
    go_meet
    exact ⟨_, H', ⟨b9gg_⟩, ⟨b9dr_⟩, ⟨bsf8_⟩, ⟨bo6m_⟩, ⟨bfb7_⟩, ⟨b9hw_⟩, ⟨bw0p_⟩, ⟨u1_ BK1⟩, ⟨u1_ BK2⟩, ⟨u1_ BK3⟩, ⟨b850_⟩⟩
   subst c9
   rw [if_pos rfl] at H
   obtain ⟨⟨t50, t51, t52⟩, A39, H⟩ := o1_ H
   by_cases c10 : t52 = true
   case neg =>
    obtain rfl := bf_.mpr c10
    have H1 : (none) = some r := by rw [if_neg ft_] at H; exact H
    exact absurd H1 bxka_
   subst c10
   rw [if_pos rfl] at H
   by_cases c11 : t51 = t31
   case neg =>
    rw [if_neg c11] at H
    exact absurd H bxka_
   rw [if_pos c11] at H
   obtain ⟨c11b0, c11b1⟩ := et_ c11
   clear c11
   (first | rw [c11b0] | (simp only [i64_w, i32_w]; rw [c11b0]) | skip)
   have H' := A0_ H
   clear H
   have hnb5 := NB2_1.out
   have hnc5 := NB1_2.out
   have hnb6 := NB2_3.out
   have hnc6 := NB3_2.out
   have hcz13 := z3_ BK2
   obtain ⟨Ao6, co6, eo6⟩ := Kd.R_slice HO_4.out
   subst eo6
   go_wp2_with (first | ((with_reducible refine gc_ (f := 19) rfl ?_); refine gl_ 294 Tryd.func19 #[.agg #[.int .i64 t23, .bool t24, .slice Ao3 t25.length co3], .slice Ao6 t27.length co6, .bool t26] ?_; (with_reducible refine (impl_StandsOf.calls kj8 t23 t24 _ _ t25 _ _ t27 t26 t50 t51 true _ ?side1 ?side2 ?side3 ?side4 A39.out).mono ?_); (case side1 => exact btqf_); (case side2 => exact (rr_ HO_5.out).2.1); (case side3 => exact (by repeat (first | exact (rr_ HO_4.out).2.2 | (with_reducible refine ca_ ?_ _) | (with_reducible refine cn_ ?_ _) | (with_reducible refine cd_ ?_)))); (case side4 => exact (rr_ HO_4.out).2.1); rintro e w22 ⟨v23, rfl, ho0, hb⟩; refine ⟨_, rfl, ?_⟩; have HO16 := A0_ (Kd.R_lower (Kd.R_new' (Kd.R_new' (Kd.R_new' (Kd.R_new' (Kd.R_new' (Kd.R_new' (Kd.R_new' ho0 (Kd.R_lt bwik_)) (Kd.R_lt bzfm_)) (Kd.R_lt b0mw_)) (Kd.R_lt bj2s_)) (Kd.R_lt b7sq_)) (Kd.R_lt bqlr_)) (Kd.R_lt bhm9_)) (bz_ b850_)); replace HO_1 := A0_ (Kd.R_elder' bwik_ (Kd.R_base ho0) hb); replace HO_3 := A0_ (Kd.R_elder' bzfm_ (Kd.R_base ho0) hb); replace HO_4 := A0_ (Kd.R_elder' b0mw_ (Kd.R_base ho0) hb); replace HO_6 := A0_ (Kd.R_elder' bj2s_ (Kd.R_base ho0) hb); replace HO_2 := A0_ (Kd.R_elder' b7sq_ (Kd.R_base ho0) hb); replace HO_5 := A0_ (Kd.R_elder' bqlr_ (Kd.R_base ho0) hb); replace HO_7 := A0_ (Kd.R_elder' bhm9_ (Kd.R_base ho0) hb); replace BK1 := k1_ BK1 hb; replace BK2 := k1_ BK2 hb; replace BK3 := k1_ BK3 hb; replace HB := hb_ hb b850_; (try clear hb); (try clear ho0)))
   go_meet
   exact ⟨_, H', ⟨b9gg_⟩, ⟨b9dr_⟩, ⟨bsf8_⟩, ⟨bo6m_⟩, ⟨bfb7_⟩, ⟨b9hw_⟩, ⟨bw0p_⟩, ⟨u1_ BK1⟩, ⟨u1_ BK2⟩, ⟨u1_ BK3⟩, ⟨b850_⟩⟩
  clear HC119
  try clear c1
  try clear c2
  try clear c3
  try clear c4
  try clear c5
  try clear c6
  try clear c7
  try clear c8
  (try clear hcz1); (try clear hcz2); (try clear hcz3); (try clear hcz4); (try clear hcz5); (try clear hcz6); (try clear hcz7); (try clear hcz8); (try clear hcz9); (try clear hcz10); (try clear hcz11); (try clear hcz12); (try clear hfz1); (try clear hfz2); (try clear hfz3); (try clear hfz4); (try clear hfz5); (try clear hfz6); (try clear hfz7); (try clear hfz8); (try clear hfz9); (try clear hfz10); (try clear hfz11); (try clear hfz12)
  obtain ⟨kq, HA, HJ9, HO_1, HO_3, HO_6, HO_2, HO_5, HO_7, BK1, BK2, BK3, HB⟩ := hcut
  cases kq with | zero => exact absurd HA.out (by simp [laws_FnTheatre.j9]) | succ kj9 => ?_
  as_aux_lemma =>
  have H := HA.out
  clear HA
  simp only [laws_FnTheatre.j9] at H
  have HC139 := A0_ H
  clear H
  go_upto_if 305 with (fail)
  go_cut [] from 290 to 305 (fun wc => ∃ (kq : Nat), Aside0 (laws_FnTheatre.j12 kq t7 t11 t19 t4 t5 t6 = some r) ∧ Aside0 (kq ≤ kj9) ∧ Aside0 (Kd.R (Kd.int .i64) 3 wc w.heap.size (fun k_ => no_ v7 k_ ∧ no_ (.slice Ao1 t6.length co1) k_ ∧ no_ (.slice Ao3 t25.length co3) k_ ∧ no_ (.slice Ao4 t37.length co4) k_) (.slice Ao2 t7.length co2) t7) ∧ Aside0 (Kd.R (Kd.int .i64) 3 wc w.heap.size (fun k_ => no_ (.slice Ao2 t7.length co2) k_ ∧ no_ (.slice Ao1 t6.length co1) k_ ∧ no_ (.slice Ao3 t25.length co3) k_ ∧ no_ (.slice Ao4 t37.length co4) k_) v7 t19) ∧ Aside0 (Kd.R (Kd.int .i64) 3 wc w.heap.size (fun k_ => no_ (.slice Ao2 t7.length co2) k_ ∧ no_ v7 k_ ∧ no_ (.slice Ao3 t25.length co3) k_ ∧ no_ (.slice Ao4 t37.length co4) k_) (.slice Ao1 t6.length co1) t6) ∧ Aside0 (Kd.R (Kd.int .i64) 3 wc w.heap.size (fun k_ => no_ (.slice Ao2 t7.length co2) k_ ∧ no_ v7 k_ ∧ no_ (.slice Ao1 t6.length co1) k_ ∧ no_ (.slice Ao4 t37.length co4) k_) (.slice Ao3 t25.length co3) t25) ∧ Aside0 (Kd.R (Kd.int .i64) 3 wc w.heap.size (fun k_ => no_ (.slice Ao2 t7.length co2) k_ ∧ no_ v7 k_ ∧ no_ (.slice Ao1 t6.length co1) k_ ∧ no_ (.slice Ao3 t25.length co3) k_) (.slice Ao4 t37.length co4) t37) ∧ Aside0 (wc.heap[gb1]? = some (.cells #[.int .i64 t4, .bool t5, (.slice Ao1 t6.length co1)] 28 (0, 0))) ∧ Aside0 (wc.heap[gb2]? = some (.cells #[.int .i64 t23, .bool t24, (.slice Ao3 t25.length co3)] 28 (0, 0))) ∧ Aside0 (wc.heap[gb3]? = some (.cells #[.int .i64 t35, .bool t36, (.slice Ao4 t37.length co4)] 28 (0, 0))) ∧ Aside0 (Below w.heap.size w wc))
  case first =>
   have H := HC139.out
   clear HC139
   by_cases c9 : t41 = true
   case neg =>
    obtain rfl := bf_.mpr c9
    rw [if_neg ft_] at H
    have H' := A0_ H
    clear H
    go_wp2
    go_meet
    exact ⟨_, H', ⟨by have := HJ1.out; have := HJ2.out; have := HJ3.out; have := HJ4.out; have := HJ5.out; have := HJ6.out; have := HJ7.out; have := HJ8.out; have := HJ9.out; first | omega | exact Nat.le_refl _⟩, ⟨b9dr_⟩, ⟨bsf8_⟩, ⟨bfb7_⟩, ⟨b9hw_⟩, ⟨bw0p_⟩, ⟨u1_ BK1⟩, ⟨u1_ BK2⟩, ⟨u1_ BK3⟩, ⟨b850_⟩⟩
   subst c9
   rw [if_pos rfl] at H
   obtain ⟨y1, hy1⟩ : ∃ y_ : List Int, y_ = (([] : List Int)) := ⟨_, rfl⟩
   replace H : (laws_FnTheatre.l1 kj9 t7 t11 t19 t38 t40 (([] : List Int)) 0 t4 t5 t6 t35 t36 t37 t35 false y1) = some r := bgiq_
   have Ny1 := A0_ hy1
   clear hy1
   obtain ⟨y2, hy2⟩ : ∃ y_ : List Int, y_ = (([] : List Int)) := ⟨_, rfl⟩
   replace H : (laws_FnTheatre.l1 kj9 t7 t11 t19 t38 t40 y2 0 t4 t5 t6 t35 t36 t37 t35 false y1) = some r := bscs_
   have Ny2 := A0_ hy2
   clear hy2
   have H' := A0_ H
   clear H
   have hnb5 := NB3_1.out
   have hnc5 := NB1_3.out
   have hnb6 := NB3_2.out
   have hnc6 := NB2_3.out
   have hcz13 := z3_ BK3
   go_wp2_with (first | ((with_reducible refine gd_ (N := 308) rfl ?_); (try (refine gate_guard b139_ ?_; dsimp only)); refine Kd.R_lit (Kd.int .i64) _ 3 ?hg (N := 308) ?hd (xs := ([] : List Int)) (inner := []) (ok := fun _ => True) (okp := fun _ => True) ?hr ?hp (fun _ hk => hk) trivial (Below.refl _ _) (Nat.le_refl _) bxka_ ?_; (case hd => rfl); (case hg => rfl); (case hr => go_simp; first | done | rfl); (case hp => exact (Reps.none _ _)); intro v23 w22 ho145 hb hg_ hnew_; clear hg_ hnew_; (first | rw [← Ny1.out] at ho145 | (simp only [Int.reduceToNat] at ho145; rw [← Ny1.out] at ho145)); have HO16 := A0_ (Kd.R_lower (Kd.R_new' (Kd.R_new' (Kd.R_new' (Kd.R_new' (Kd.R_new' (Kd.R_new' ho145 (Kd.R_lt bwik_)) (Kd.R_lt bzfm_)) (Kd.R_lt bj2s_)) (Kd.R_lt b7sq_)) (Kd.R_lt bqlr_)) (Kd.R_lt bhm9_)) (bz_ b850_)); replace HO_1 := A0_ (Kd.R_elder' bwik_ (Kd.R_base ho145) hb); replace HO_3 := A0_ (Kd.R_elder' bzfm_ (Kd.R_base ho145) hb); replace HO_6 := A0_ (Kd.R_elder' bj2s_ (Kd.R_base ho145) hb); replace HO_2 := A0_ (Kd.R_elder' b7sq_ (Kd.R_base ho145) hb); replace HO_5 := A0_ (Kd.R_elder' bqlr_ (Kd.R_base ho145) hb); replace HO_7 := A0_ (Kd.R_elder' bhm9_ (Kd.R_base ho145) hb); replace BK1 := k1_ BK1 hb; replace BK2 := k1_ BK2 hb; replace BK3 := k1_ BK3 hb; replace HB := hb_ hb b850_; clear hb ho145; obtain ⟨Ao6, co6, eo6⟩ := Kd.R_slice HO16.out; subst eo6) | ((with_reducible refine gd_ (N := 310) rfl ?_); (try (refine gate_guard b139_ ?_; dsimp only)); refine Kd.R_lit (Kd.int .i64) _ 3 ?hg (N := 310) ?hd (xs := ([] : List Int)) (inner := []) (ok := fun _ => True) (okp := fun _ => True) ?hr ?hp (fun _ hk => hk) trivial (Below.refl _ _) (Nat.le_refl _) bxka_ ?_; (case hd => rfl); (case hg => rfl); (case hr => go_simp; first | done | rfl); (case hp => exact (Reps.none _ _)); intro v24 w23 ho148 hb hg_ hnew_; clear hg_ hnew_; (first | rw [← Ny2.out] at ho148 | (simp only [Int.reduceToNat] at ho148; rw [← Ny2.out] at ho148)); have HO17 := A0_ (Kd.R_lower (Kd.R_new' (Kd.R_new' (Kd.R_new' (Kd.R_new' (Kd.R_new' (Kd.R_new' (Kd.R_new' ho148 (Kd.R_lt bwik_)) (Kd.R_lt bzfm_)) (Kd.R_lt bj2s_)) (Kd.R_lt b7sq_)) (Kd.R_lt bqlr_)) (Kd.R_lt bhm9_)) (Kd.R_lt b20z_)) (bz_ b850_)); replace HO_1 := A0_ (Kd.R_elder' bwik_ (Kd.R_base ho148) hb); replace HO_3 := A0_ (Kd.R_elder' bzfm_ (Kd.R_base ho148) hb); replace HO_6 := A0_ (Kd.R_elder' bj2s_ (Kd.R_base ho148) hb); replace HO_2 := A0_ (Kd.R_elder' b7sq_ (Kd.R_base ho148) hb); replace HO_5 := A0_ (Kd.R_elder' bqlr_ (Kd.R_base ho148) hb); replace HO_7 := A0_ (Kd.R_elder' bhm9_ (Kd.R_base ho148) hb); replace HO16 := A0_ (Kd.R_elder' b20z_ (Kd.R_base ho148) hb); replace BK1 := k1_ BK1 hb; replace BK2 := k1_ BK2 hb; replace BK3 := k1_ BK3 hb; replace HB := hb_ hb b850_; clear hb ho148) | ((with_reducible refine gd_ (N := 48) rfl ?_); (try (refine gate_guard b139_ ?_; dsimp only)); refine bx_ 48 #[.int .i64 0, .bool false, .slice none 0 0] 28 ?_; intro gb4 hg w24 BK4 hb; replace HO_1 := A0_ (Kd.R_below bwik_ hb); replace HO_3 := A0_ (Kd.R_below bzfm_ hb); replace HO_6 := A0_ (Kd.R_below bj2s_ hb); replace HO_2 := A0_ (Kd.R_below b7sq_ hb); replace HO_5 := A0_ (Kd.R_below bqlr_ hb); replace HO_7 := A0_ (Kd.R_below bhm9_ hb); replace HO16 := A0_ (Kd.R_below b20z_ hb); replace HO17 := A0_ (Kd.R_below (by (with_reducible repeat (first | apply ra_ | apply rn_ | apply rd_)); exact HO17.out) hb); have GW4 := ge_ hg b850_; have GE4 := GW4; replace HB := hb_ hb b850_; have NB1_4 := nl_ hg BK1; have NB4_1 := ng_ hg BK1; replace BK1 := k1_ BK1 hb; have NB2_4 := nl_ hg BK2; have NB4_2 := ng_ hg BK2; replace BK2 := k1_ BK2 hb; have NB3_4 := nl_ hg BK3; have NB4_3 := ng_ hg BK3; replace BK3 := k1_ BK3 hb; clear hb hg; have hnb7 := NB4_1.out; have hnc7 := NB1_4.out; have hnb8 := NB4_2.out; have hnc8 := NB2_4.out; have hnb9 := NB4_3.out; have hnc9 := NB3_4.out; have hcz14 := z3_ BK4))
   go_loopg [50] kj9 (fun kq v25 w' => ∃ (x50_10 : Int) (x737002_10 : List Int) (u737002 : Value), v25 = .int .i64 x50_10 ∧ Aside0 (laws_FnTheatre.l1 kq t7 t11 t19 t38 t40 y2 x50_10 t4 t5 t6 t35 t36 t37 t35 false x737002_10 = some r) ∧ Aside0 (kq ≤ kj9) ∧ Aside0 (Kd.R (Kd.int .i64) 3 w' w.heap.size (fun k_ => no_ v7 k_ ∧ no_ (.slice Ao5 t38.length co5) k_ ∧ no_ v24 k_ ∧ no_ (.slice Ao1 t6.length co1) k_ ∧ no_ (.slice Ao3 t25.length co3) k_ ∧ no_ (.slice Ao4 t37.length co4) k_ ∧ no_ u737002 k_) (.slice Ao2 t7.length co2) t7) ∧ Aside0 (Kd.R (Kd.int .i64) 3 w' w.heap.size (fun k_ => no_ (.slice Ao2 t7.length co2) k_ ∧ no_ (.slice Ao5 t38.length co5) k_ ∧ no_ v24 k_ ∧ no_ (.slice Ao1 t6.length co1) k_ ∧ no_ (.slice Ao3 t25.length co3) k_ ∧ no_ (.slice Ao4 t37.length co4) k_ ∧ no_ u737002 k_) v7 t19) ∧ Aside0 (Kd.R (Kd.int .i64) 3 w' w.heap.size (fun k_ => no_ (.slice Ao2 t7.length co2) k_ ∧ no_ v7 k_ ∧ no_ v24 k_ ∧ no_ (.slice Ao1 t6.length co1) k_ ∧ no_ (.slice Ao3 t25.length co3) k_ ∧ no_ (.slice Ao4 t37.length co4) k_ ∧ no_ u737002 k_) (.slice Ao5 t38.length co5) t38) ∧ Aside0 (Kd.R (Kd.int .i64) 3 w' w.heap.size (fun k_ => no_ (.slice Ao2 t7.length co2) k_ ∧ no_ v7 k_ ∧ no_ (.slice Ao5 t38.length co5) k_ ∧ no_ (.slice Ao1 t6.length co1) k_ ∧ no_ (.slice Ao3 t25.length co3) k_ ∧ no_ (.slice Ao4 t37.length co4) k_ ∧ no_ u737002 k_) v24 y2) ∧ Aside0 (Kd.R (Kd.int .i64) 3 w' w.heap.size (fun k_ => no_ (.slice Ao2 t7.length co2) k_ ∧ no_ v7 k_ ∧ no_ (.slice Ao5 t38.length co5) k_ ∧ no_ v24 k_ ∧ no_ (.slice Ao3 t25.length co3) k_ ∧ no_ (.slice Ao4 t37.length co4) k_ ∧ no_ u737002 k_) (.slice Ao1 t6.length co1) t6) ∧ Aside0 (Kd.R (Kd.int .i64) 3 w' w.heap.size (fun k_ => no_ (.slice Ao2 t7.length co2) k_ ∧ no_ v7 k_ ∧ no_ (.slice Ao5 t38.length co5) k_ ∧ no_ v24 k_ ∧ no_ (.slice Ao1 t6.length co1) k_ ∧ no_ (.slice Ao4 t37.length co4) k_ ∧ no_ u737002 k_) (.slice Ao3 t25.length co3) t25) ∧ Aside0 (Kd.R (Kd.int .i64) 3 w' w.heap.size (fun k_ => no_ (.slice Ao2 t7.length co2) k_ ∧ no_ v7 k_ ∧ no_ (.slice Ao5 t38.length co5) k_ ∧ no_ v24 k_ ∧ no_ (.slice Ao1 t6.length co1) k_ ∧ no_ (.slice Ao3 t25.length co3) k_ ∧ no_ u737002 k_) (.slice Ao4 t37.length co4) t37) ∧ Aside0 (Kd.R (Kd.int .i64) 3 w' w.heap.size (fun k_ => no_ (.slice Ao2 t7.length co2) k_ ∧ no_ v7 k_ ∧ no_ (.slice Ao5 t38.length co5) k_ ∧ no_ v24 k_ ∧ no_ (.slice Ao1 t6.length co1) k_ ∧ no_ (.slice Ao3 t25.length co3) k_ ∧ no_ (.slice Ao4 t37.length co4) k_) u737002 x737002_10) ∧ Aside0 (w'.heap[gb1]? = some (.cells #[.int .i64 t4, .bool t5, (.slice Ao1 t6.length co1)] 28 (0, 0))) ∧ Aside0 (w'.heap[gb2]? = some (.cells #[.int .i64 t23, .bool t24, (.slice Ao3 t25.length co3)] 28 (0, 0))) ∧ Aside0 (w'.heap[gb3]? = some (.cells #[.int .i64 t35, .bool t36, (.slice Ao4 t37.length co4)] 28 (0, 0))) ∧ Aside0 (w'.heap[gb4]? = some (.cells #[.int .i64 t35, .bool false, u737002] 28 (0, 0))) ∧ Aside0 (Below w.heap.size w w'))
   case atStart => exact ⟨(0), (y1), (.slice Ao6 y1.length co6), b2ew_, H', ⟨Nat.le_refl _⟩, ⟨by (with_reducible repeat (first | apply ra_ | apply rn_ | apply rd_)); exact Kd.R_mono (rf_ (rf_ (rf_ (Kd.R_types HO_1.out BK4.out bi3y_) k2_0 _) k2_0 _) k2_0 _) cf_⟩, ⟨by (with_reducible repeat (first | apply ra_ | apply rn_ | apply rd_)); exact Kd.R_mono (rf_ (rf_ (rf_ (Kd.R_types HO_3.out BK4.out bi3y_) k2_0 _) k2_0 _) k2_0 _) cf_⟩, ⟨by (with_reducible repeat (first | apply ra_ | apply rn_ | apply rd_)); exact Kd.R_mono (rf_ (rf_ (rf_ (Kd.R_types HO_6.out BK4.out bi3y_) k2_0 _) k2_0 _) k2_0 _) cf_⟩, ⟨by (with_reducible repeat (first | apply ra_ | apply rn_ | apply rd_)); exact Kd.R_mono (rf_ (rf_ (rf_ (Kd.R_types HO17.out BK4.out bi3y_) k2_0 _) k2_0 _) k2_0 _) cf_⟩, ⟨by (with_reducible repeat (first | apply ra_ | apply rn_ | apply rd_)); exact Kd.R_mono (rf_ (rf_ (rf_ (Kd.R_types HO_2.out BK4.out bi3y_) k2_0 _) k2_0 _) k2_0 _) cf_⟩, ⟨by (with_reducible repeat (first | apply ra_ | apply rn_ | apply rd_)); exact Kd.R_mono (rf_ (rf_ (rf_ (Kd.R_types HO_5.out BK4.out bi3y_) k2_0 _) k2_0 _) k2_0 _) cf_⟩, ⟨by (with_reducible repeat (first | apply ra_ | apply rn_ | apply rd_)); exact Kd.R_mono (rf_ (rf_ (rf_ (Kd.R_types HO_7.out BK4.out bi3y_) k2_0 _) k2_0 _) k2_0 _) cf_⟩, ⟨by (with_reducible repeat (first | apply ra_ | apply rn_ | apply rd_)); exact Kd.R_mono (rf_ (rf_ (rf_ (Kd.R_types HO16.out BK4.out bi3y_) k2_0 _) k2_0 _) k2_0 _) cf_⟩, ⟨u1_ BK1⟩, ⟨u1_ BK2⟩, ⟨u1_ BK3⟩, ⟨u1_ BK4⟩, ⟨b2i7_⟩⟩
   clear H'
   try clear c1
   try clear c2
   try clear c3
   try clear c4
   try clear c5
   try clear c6
   try clear c7
   try clear c8
   try clear c9
   (try clear hcz1); (try clear hcz13); (try clear hcz2); (try clear hcz14); (try clear hcz3); (try clear hcz4); (try clear hcz5); (try clear hcz6); (try clear hcz7); (try clear hcz8); (try clear hcz9); (try clear hcz10); (try clear hcz11); (try clear hcz12); (try clear hfz1); (try clear hfz13); (try clear hfz2); (try clear hfz14); (try clear hfz3); (try clear hfz4); (try clear hfz5); (try clear hfz6); (try clear hfz7); (try clear hfz8); (try clear hfz9); (try clear hfz10); (try clear hfz11); (try clear hfz12)
   obtain ⟨x50_10, x737002_10, u737002, rfl, HA, HK1, HO_1, HO_3, HO_6, HO_9, HO_2, HO_5, HO_7, HO_10, BK1, BK2, BK3, BK4, HB⟩ := hrel
   cases gk with | zero => exact absurd HA.out (by simp [laws_FnTheatre.l1]) | succ k10 => ?_
   as_aux_lemma =>
   have H := HA.out
   clear HA
   simp only [laws_FnTheatre.l1] at H
   by_cases c10 : x50_10 < (t37.length : Int)
   case neg =>
    rw [if_neg c10] at H
    have c10b0 : decide (x50_10 < (t37.length : Int)) = false := decide_eq_false c10
    clear c10
    (first | rw [c10b0] | (simp only [i64_w, i32_w]; rw [c10b0]) | skip)
    have H' := A0_ H
    clear H
    have hnb10 := NB3_1.out
    have hnc10 := NB1_3.out
    have hnb11 := NB3_2.out
    have hnc11 := NB2_3.out
    have hnb12 := NB3_4.out
    have hnc12 := NB4_3.out
    have hcz15 := z3_ BK3
    go_wp2
    go_loopg [49, 51] k10 (fun kq v26 v27 w' => ∃ (x49_11 : List Int) (x51_11 : Int), v27 = .int .i64 x51_11 ∧ Aside0 (laws_FnTheatre.l2 kq t7 t11 t19 t38 t40 x49_11 x51_11 t4 t5 t6 t35 false x737002_10 = some r) ∧ Aside0 (kq ≤ k10) ∧ Aside0 (Kd.R (Kd.int .i64) 3 w' w.heap.size (fun k_ => no_ v7 k_ ∧ no_ (.slice Ao5 t38.length co5) k_ ∧ no_ v26 k_ ∧ no_ (.slice Ao1 t6.length co1) k_ ∧ no_ (.slice Ao3 t25.length co3) k_ ∧ no_ (.slice Ao4 t37.length co4) k_ ∧ no_ u737002 k_) (.slice Ao2 t7.length co2) t7) ∧ Aside0 (Kd.R (Kd.int .i64) 3 w' w.heap.size (fun k_ => no_ (.slice Ao2 t7.length co2) k_ ∧ no_ (.slice Ao5 t38.length co5) k_ ∧ no_ v26 k_ ∧ no_ (.slice Ao1 t6.length co1) k_ ∧ no_ (.slice Ao3 t25.length co3) k_ ∧ no_ (.slice Ao4 t37.length co4) k_ ∧ no_ u737002 k_) v7 t19) ∧ Aside0 (Kd.R (Kd.int .i64) 3 w' w.heap.size (fun k_ => no_ (.slice Ao2 t7.length co2) k_ ∧ no_ v7 k_ ∧ no_ v26 k_ ∧ no_ (.slice Ao1 t6.length co1) k_ ∧ no_ (.slice Ao3 t25.length co3) k_ ∧ no_ (.slice Ao4 t37.length co4) k_ ∧ no_ u737002 k_) (.slice Ao5 t38.length co5) t38) ∧ Aside0 (Kd.R (Kd.int .i64) 3 w' w.heap.size (fun k_ => no_ (.slice Ao2 t7.length co2) k_ ∧ no_ v7 k_ ∧ no_ (.slice Ao5 t38.length co5) k_ ∧ no_ (.slice Ao1 t6.length co1) k_ ∧ no_ (.slice Ao3 t25.length co3) k_ ∧ no_ (.slice Ao4 t37.length co4) k_ ∧ no_ u737002 k_) v26 x49_11) ∧ Aside0 (Kd.R (Kd.int .i64) 3 w' w.heap.size (fun k_ => no_ (.slice Ao2 t7.length co2) k_ ∧ no_ v7 k_ ∧ no_ (.slice Ao5 t38.length co5) k_ ∧ no_ v26 k_ ∧ no_ (.slice Ao3 t25.length co3) k_ ∧ no_ (.slice Ao4 t37.length co4) k_ ∧ no_ u737002 k_) (.slice Ao1 t6.length co1) t6) ∧ Aside0 (Kd.R (Kd.int .i64) 3 w' w.heap.size (fun k_ => no_ (.slice Ao2 t7.length co2) k_ ∧ no_ v7 k_ ∧ no_ (.slice Ao5 t38.length co5) k_ ∧ no_ v26 k_ ∧ no_ (.slice Ao1 t6.length co1) k_ ∧ no_ (.slice Ao4 t37.length co4) k_ ∧ no_ u737002 k_) (.slice Ao3 t25.length co3) t25) ∧ Aside0 (Kd.R (Kd.int .i64) 3 w' w.heap.size (fun k_ => no_ (.slice Ao2 t7.length co2) k_ ∧ no_ v7 k_ ∧ no_ (.slice Ao5 t38.length co5) k_ ∧ no_ v26 k_ ∧ no_ (.slice Ao1 t6.length co1) k_ ∧ no_ (.slice Ao3 t25.length co3) k_ ∧ no_ u737002 k_) (.slice Ao4 t37.length co4) t37) ∧ Aside0 (Kd.R (Kd.int .i64) 3 w' w.heap.size (fun k_ => no_ (.slice Ao2 t7.length co2) k_ ∧ no_ v7 k_ ∧ no_ (.slice Ao5 t38.length co5) k_ ∧ no_ v26 k_ ∧ no_ (.slice Ao1 t6.length co1) k_ ∧ no_ (.slice Ao3 t25.length co3) k_ ∧ no_ (.slice Ao4 t37.length co4) k_) u737002 x737002_10) ∧ Aside0 (w'.heap[gb1]? = some (.cells #[.int .i64 t4, .bool t5, (.slice Ao1 t6.length co1)] 28 (0, 0))) ∧ Aside0 (w'.heap[gb2]? = some (.cells #[.int .i64 t23, .bool t24, (.slice Ao3 t25.length co3)] 28 (0, 0))) ∧ Aside0 (w'.heap[gb3]? = some (.cells #[.int .i64 t35, .bool t36, (.slice Ao4 t37.length co4)] 28 (0, 0))) ∧ Aside0 (w'.heap[gb4]? = some (.cells #[.int .i64 t35, .bool false, u737002] 28 (0, 0))) ∧ Aside0 (Below w.heap.size w w'))
    case atStart => exact ⟨(y2), (wrap64 ((t38.length : Int) - 1)), b2ew_, H', ⟨Nat.le_refl _⟩, ⟨bwik_⟩, ⟨bzfm_⟩, ⟨bj2s_⟩, ⟨bh09_⟩, ⟨b7sq_⟩, ⟨bqlr_⟩, ⟨bhm9_⟩, ⟨b5l4_⟩, ⟨u1_ BK1⟩, ⟨u1_ BK2⟩, ⟨u1_ BK3⟩, ⟨u1_ BK4⟩, ⟨b2i7_⟩⟩
    clear H'
    try clear c1
    try clear c2
    try clear c3
    try clear c4
    try clear c5
    try clear c6
    try clear c7
    try clear c8
    try clear c9
    try clear c10
    try clear c10b0
    (try clear hcz1); (try clear hcz13); (try clear hcz2); (try clear hcz14); (try clear hcz15); (try clear hcz3); (try clear hcz4); (try clear hcz5); (try clear hcz6); (try clear hcz7); (try clear hcz8); (try clear hcz9); (try clear hcz10); (try clear hcz11); (try clear hcz12); (try clear hfz1); (try clear hfz13); (try clear hfz2); (try clear hfz14); (try clear hfz15); (try clear hfz3); (try clear hfz4); (try clear hfz5); (try clear hfz6); (try clear hfz7); (try clear hfz8); (try clear hfz9); (try clear hfz10); (try clear hfz11); (try clear hfz12)
    obtain ⟨x49_11, x51_11, rfl, HA, HK2, HO_1, HO_3, HO_6, HO_9, HO_2, HO_5, HO_7, HO_10, BK1, BK2, BK3, BK4, HB⟩ := hrel
    cases gk with | zero => exact absurd HA.out (by simp [laws_FnTheatre.l2]) | succ k11 => ?_
    as_aux_lemma =>
    have H := HA.out
    clear HA
    simp only [laws_FnTheatre.l2] at H
    by_cases c11 : x51_11 ≥ 0
    case neg =>
     rw [if_neg c11] at H
     have c11b0 : decide (0 ≤ x51_11) = false := decide_eq_false c11
     clear c11
     obtain ⟨⟨t50, t51, t52⟩, A39, H⟩ := o1_ H
     by_cases c12 : t52 = true
     case neg =>
      obtain rfl := bf_.mpr c12
      have H1 : (none) = some r := by rw [if_neg ft_] at H; exact H
      exact absurd H1 bxka_
     subst c12
     rw [if_pos rfl] at H
     by_cases c13 : t51 = t40
     case neg =>
      rw [if_neg c13] at H
      exact absurd H bxka_
     rw [if_pos c13] at H
     obtain ⟨c13b0, c13b1⟩ := et_ c13
     clear c13
     have H' := A0_ H
     clear H
     have hnb13 := NB4_1.out
     have hnc13 := NB1_4.out
     have hnb14 := NB4_2.out
     have hnc14 := NB2_4.out
     have hnb15 := NB4_3.out
     have hnc15 := NB3_4.out
     have hcz16 := z3_ BK4
     obtain ⟨Ao7, co7, eo7⟩ := Kd.R_slice HO_10.out
     subst eo7
     obtain ⟨Ao8, co8, eo8⟩ := Kd.R_slice HO_9.out
     subst eo8
     go_wp2_with (first | ((with_reducible refine gc_ (f := 19) rfl ?_); refine gl_ 353 Tryd.func19 #[.agg #[.int .i64 t35, .bool false, .slice Ao7 x737002_10.length co7], .slice Ao8 x49_11.length co8, .bool false] ?_; (with_reducible refine (impl_StandsOf.calls k11 t35 false _ _ x737002_10 _ _ x49_11 false t50 t51 true _ ?side1 ?side2 ?side3 ?side4 A39.out).mono ?_); (case side1 => exact (by repeat (first | exact (rr_ HO_10.out).2.2 | (with_reducible refine ca_ ?_ _) | (with_reducible refine cn_ ?_ _) | (with_reducible refine cd_ ?_)))); (case side2 => exact (rr_ HO_10.out).2.1); (case side3 => exact (by repeat (first | exact (rr_ HO_9.out).2.2 | (with_reducible refine ca_ ?_ _) | (with_reducible refine cn_ ?_ _) | (with_reducible refine cd_ ?_)))); (case side4 => exact (rr_ HO_9.out).2.1); rintro e w25 ⟨v28, rfl, ho0, hb⟩; refine ⟨_, rfl, ?_⟩; have HO18 := A0_ (Kd.R_lower (Kd.R_new' (Kd.R_new' (Kd.R_new' (Kd.R_new' (Kd.R_new' (Kd.R_new' (Kd.R_new' (Kd.R_new' ho0 (Kd.R_lt bwik_)) (Kd.R_lt bzfm_)) (Kd.R_lt bj2s_)) (Kd.R_lt bh09_)) (Kd.R_lt b7sq_)) (Kd.R_lt bqlr_)) (Kd.R_lt bhm9_)) (Kd.R_lt b5l4_)) (bz_ b2i7_)); replace HO_1 := A0_ (Kd.R_elder' bwik_ (Kd.R_base ho0) hb); replace HO_3 := A0_ (Kd.R_elder' bzfm_ (Kd.R_base ho0) hb); replace HO_6 := A0_ (Kd.R_elder' bj2s_ (Kd.R_base ho0) hb); replace HO_9 := A0_ (Kd.R_elder' bh09_ (Kd.R_base ho0) hb); replace HO_2 := A0_ (Kd.R_elder' b7sq_ (Kd.R_base ho0) hb); replace HO_5 := A0_ (Kd.R_elder' bqlr_ (Kd.R_base ho0) hb); replace HO_7 := A0_ (Kd.R_elder' bhm9_ (Kd.R_base ho0) hb); replace HO_10 := A0_ (Kd.R_elder' b5l4_ (Kd.R_base ho0) hb); replace BK1 := k1_ BK1 hb; replace BK2 := k1_ BK2 hb; replace BK3 := k1_ BK3 hb; replace BK4 := k1_ BK4 hb; replace HB := hb_ hb b2i7_; (try clear hb); (try clear ho0)))
     go_meet
     exact ⟨_, H', ⟨by have := HJ1.out; have := HJ2.out; have := HJ3.out; have := HJ4.out; have := HJ5.out; have := HJ6.out; have := HJ7.out; have := HJ8.out; have := HJ9.out; have := HK1.out; have := HK2.out; first | omega | exact Nat.le_refl _⟩, ⟨b9dr_⟩, ⟨bsf8_⟩, ⟨bfb7_⟩, ⟨b9hw_⟩, ⟨bw0p_⟩, ⟨u1_ BK1⟩, ⟨u1_ BK2⟩, ⟨u1_ BK3⟩, ⟨b2i7_⟩⟩
    rw [if_pos c11] at H
    have c11b0 : decide (0 ≤ x51_11) = true := dt_ c11
    clear c11
    by_cases c12 : 0 ≤ x51_11
    case neg =>
     rw [if_neg c12] at H
     exact absurd H bxka_
    rw [if_pos c12] at H
    have c12b0 : decide (0 ≤ x51_11) = true := dt_ c12
    clear c12
    by_cases c13 : x51_11 < (t38.length : Int)
    case neg =>
     rw [if_neg c13] at H
     exact absurd H bxka_
    rw [if_pos c13] at H
    have c13b0 : decide (x51_11 < (t38.length : Int)) = true := dt_ c13
    clear c13
    by_cases c14 : x49_11.length < 17592186044416
    case neg =>
     rw [if_neg c14] at H
     exact absurd H bxka_
    rw [if_pos c14] at H
    have LMc1 := A0_ c14
    clear c14
    obtain ⟨y3, hy3⟩ : ∃ y_ : List Int, y_ = (x49_11 ++ [rd t38 x51_11]) := ⟨_, rfl⟩
    replace H : (laws_FnTheatre.l2 k11 t7 t11 t19 t38 t40 y3 (wrap64 (x51_11 - 1)) t4 t5 t6 t35 false x737002_10) = some r := b2x6_
    have Ny3 := A0_ hy3
    clear hy3
    have H' := A0_ H
    clear H
    have p1 : 0 ≤ (x51_11 : Int) := od_ bpil_
    have q1 : x51_11 < (t38.length : Int) := od_ bpil_
    obtain ⟨ad1, e1, hx1_0⟩ := Kd.at_int (rr_ HO_6.out).2.2 x51_11 p1 q1
    cases e1
    replace p1 := eq_true p1
    replace q1 := eq_true q1
    go_wp2_with (first | ((with_reducible refine gate_builtin (b := .append) (xs := #[.tmp 343, .tmp 348]) rfl ?_); (try (refine gate_guard b139_ ?_; dsimp only)); at_builtin; refine Kd.R_append (Kd.int .i64) (w0 := w) w.heap.size rfl (.tmp 343) (.tmp 348) 22 3 (.int .i64 0) 8 rfl Tryd.underlying22 info3 rfl bi3y_ bh19_ u49 x49_11 (rd t38 x51_11) [.int .i64 (rd t38 x51_11)] (fun k_ => no_ (.slice Ao2 t7.length co2) k_ ∧ no_ v7 k_ ∧ no_ (.slice (some ad1) t38.length co5) k_ ∧ no_ (.slice Ao1 t6.length co1) k_ ∧ no_ (.slice Ao3 t25.length co3) k_ ∧ no_ (.slice Ao4 t37.length co4) k_ ∧ no_ u737002 k_) (fun _ => False) rfl rfl ?aP (fun _ hk => hk.elim) ?aF ?aO ?aB ?aS ?aL ?_; (case aP => exact rfl); (case aB => exact b2i7_); (case aF => exact (fun k_ hk => ⟨Kd.fresh' (Kd.R_lt bwik_) k_ hk, Kd.fresh' (Kd.R_lt bzfm_) k_ hk, Kd.fresh' (Kd.R_lt bj2s_) k_ hk, Kd.fresh' (Kd.R_lt b7sq_) k_ hk, Kd.fresh' (Kd.R_lt bqlr_) k_ hk, Kd.fresh' (Kd.R_lt bhm9_) k_ hk, Kd.fresh' (Kd.R_lt b5l4_) k_ hk⟩)); (case aO => exact b3zt_); (case aS => exact (bz_ b2i7_)); (case aL => have := LMc1.out; omega); intro v28 w25 ho hb hg hat; rw [← Ny3.out] at ho; have n0_ := A0_ (Kd.R_after (ok := (fun k_ => no_ v7 k_ ∧ no_ (.slice (some ad1) t38.length co5) k_ ∧ no_ (.slice Ao1 t6.length co1) k_ ∧ no_ (.slice Ao3 t25.length co3) k_ ∧ no_ (.slice Ao4 t37.length co4) k_ ∧ no_ u737002 k_)) b9dr_ hg hat); have n1_ := A0_ (Kd.R_after (ok := (fun k_ => no_ (.slice Ao2 t7.length co2) k_ ∧ no_ (.slice (some ad1) t38.length co5) k_ ∧ no_ (.slice Ao1 t6.length co1) k_ ∧ no_ (.slice Ao3 t25.length co3) k_ ∧ no_ (.slice Ao4 t37.length co4) k_ ∧ no_ u737002 k_)) bsf8_ hg hat); have n2_ := A0_ (Kd.R_after (ok := (fun k_ => no_ (.slice Ao2 t7.length co2) k_ ∧ no_ v7 k_ ∧ no_ (.slice Ao1 t6.length co1) k_ ∧ no_ (.slice Ao3 t25.length co3) k_ ∧ no_ (.slice Ao4 t37.length co4) k_ ∧ no_ u737002 k_)) bo6m_ hg hat); have n3_ := A0_ (Kd.R_after (ok := (fun k_ => no_ (.slice Ao2 t7.length co2) k_ ∧ no_ v7 k_ ∧ no_ (.slice (some ad1) t38.length co5) k_ ∧ no_ (.slice Ao3 t25.length co3) k_ ∧ no_ (.slice Ao4 t37.length co4) k_ ∧ no_ u737002 k_)) bfb7_ hg hat); have n4_ := A0_ (Kd.R_after (ok := (fun k_ => no_ (.slice Ao2 t7.length co2) k_ ∧ no_ v7 k_ ∧ no_ (.slice (some ad1) t38.length co5) k_ ∧ no_ (.slice Ao1 t6.length co1) k_ ∧ no_ (.slice Ao4 t37.length co4) k_ ∧ no_ u737002 k_)) b9hw_ hg hat); have n5_ := A0_ (Kd.R_after (ok := (fun k_ => no_ (.slice Ao2 t7.length co2) k_ ∧ no_ v7 k_ ∧ no_ (.slice (some ad1) t38.length co5) k_ ∧ no_ (.slice Ao1 t6.length co1) k_ ∧ no_ (.slice Ao3 t25.length co3) k_ ∧ no_ u737002 k_)) bw0p_ hg hat); have n6_ := A0_ (Kd.R_after (ok := (fun k_ => no_ (.slice Ao2 t7.length co2) k_ ∧ no_ v7 k_ ∧ no_ (.slice (some ad1) t38.length co5) k_ ∧ no_ (.slice Ao1 t6.length co1) k_ ∧ no_ (.slice Ao3 t25.length co3) k_ ∧ no_ (.slice Ao4 t37.length co4) k_)) b8ku_ hg hat); have n7_ := A0_ (blk_grown (g := gb1) (o := .cells #[.int .i64 t4, .bool t5, .slice Ao1 t6.length co1] 28 (0, 0)) (u1_ BK1) hg (Kd.R_ne HO_9.out BK1.out bi3y_)); have n8_ := A0_ (blk_grown (g := gb2) (o := .cells #[.int .i64 t23, .bool t24, .slice Ao3 t25.length co3] 28 (0, 0)) (u1_ BK2) hg (Kd.R_ne HO_9.out BK2.out bi3y_)); have n9_ := A0_ (blk_grown (g := gb3) (o := .cells #[.int .i64 t35, .bool t36, .slice Ao4 t37.length co4] 28 (0, 0)) (u1_ BK3) hg (Kd.R_ne HO_9.out BK3.out bi3y_)); have n10_ := A0_ (blk_grown (g := gb4) (o := .cells #[.int .i64 t35, .bool false, u737002] 28 (0, 0)) (u1_ BK4) hg (Kd.R_ne HO_9.out BK4.out bi3y_)); have n11_ := A0_ (hb); have n12_ := A0_ (ho); clear HO_1 HO_3 HO_6 HO_2 HO_5 HO_7 HO_10 BK1 BK2 BK3 BK4 HB HO_9; have HO_1 := n0_; have HO_3 := n1_; have HO_6 := n2_; have HO_2 := n3_; have HO_5 := n4_; have HO_7 := n5_; have HO_10 := n6_; have BK1 := n7_; have BK2 := n8_; have BK3 := n9_; have BK4 := n10_; have HB := n11_; have HO18 := n12_; clear n0_ n1_ n2_ n3_ n4_ n5_ n6_ n7_ n8_ n9_ n10_ n11_ n12_ ho hb hg hat))
    go_roundg k11
    case measure => have := HJ1.out; have := HJ2.out; have := HJ3.out; have := HJ4.out; have := HJ5.out; have := HJ6.out; have := HJ7.out; have := HJ8.out; have := HJ9.out; have := HK1.out; have := HK2.out; omega
    exact ⟨(y3), (wrap64 (x51_11 - 1)), b2ew_, H', ⟨by have := HJ1.out; have := HJ2.out; have := HJ3.out; have := HJ4.out; have := HJ5.out; have := HJ6.out; have := HJ7.out; have := HJ8.out; have := HJ9.out; have := HK1.out; have := HK2.out; omega⟩, ⟨b9dr_⟩, ⟨bsf8_⟩, ⟨bo6m_⟩, ⟨by (with_reducible repeat (first | apply ra_ | apply rn_ | apply rd_)); exact HO18.out⟩, ⟨bfb7_⟩, ⟨b9hw_⟩, ⟨bw0p_⟩, ⟨b8ku_⟩, ⟨u1_ BK1⟩, ⟨u1_ BK2⟩, ⟨u1_ BK3⟩, ⟨u1_ BK4⟩, ⟨b2i7_⟩⟩
   rw [if_pos c10] at H
   have c10b0 : decide (x50_10 < (t37.length : Int)) = true := dt_ c10
   clear c10
   (first | rw [c10b0] | (simp only [i64_w, i32_w]; rw [c10b0]) | skip)
   by_cases c11 : 0 ≤ x50_10
   case neg =>
    rw [if_neg c11] at H
    exact absurd H bxka_
   rw [if_pos c11] at H
   have c11b0 : decide (0 ≤ x50_10) = true := dt_ c11
   clear c11
   obtain ⟨t50, A39, H⟩ := o1_ H
   by_cases c12 : t50 = true
   ·subst c12
    rw [if_pos rfl] at H
    have H' := A0_ H
    clear H
    have hnb10 := NB3_1.out
    have hnc10 := NB1_3.out
    have hnb11 := NB3_2.out
    have hnc11 := NB2_3.out
    have hnb12 := NB3_4.out
    have hnc12 := NB4_3.out
    have hcz15 := z3_ BK3
    have p1 : 0 ≤ (x50_10 : Int) := od_ bpil_
    have q1 : x50_10 < (t37.length : Int) := od_ bpil_
    obtain ⟨ad1, e1, hx1_0⟩ := Kd.at_int (rr_ HO_7.out).2.2 x50_10 p1 q1
    cases e1
    replace p1 := eq_true p1
    replace q1 := eq_true q1
    go_wp2_with (first | ((with_reducible refine gc_ (f := 34) rfl ?_); refine gl_ 324 Tryd.func34 #[.slice Ao5 t38.length co5, .int .i64 (rd t37 x50_10)] ?_; (with_reducible refine (laws_rHas.calls k10 _ _ t38 (rd t37 x50_10) true _ ?side1 ?side2 A39.out).mono ?_); (case side1 => exact blpa_); (case side2 => exact (rr_ HO_6.out).2.1); rintro e w' ⟨rfl, ⟨nd, rfl⟩⟩; refine ⟨_, rfl, ?_⟩))
    go_roundg k10
    case measure => have := HJ1.out; have := HJ2.out; have := HJ3.out; have := HJ4.out; have := HJ5.out; have := HJ6.out; have := HJ7.out; have := HJ8.out; have := HJ9.out; have := HK1.out; omega
    exact ⟨(wrap64 (x50_10 + 1)), (x737002_10), (u737002), b2ew_, H', ⟨bf1u_⟩, ⟨bwik_⟩, ⟨bzfm_⟩, ⟨bj2s_⟩, ⟨bh09_⟩, ⟨b7sq_⟩, ⟨bqlr_⟩, ⟨bhm9_⟩, ⟨b5l4_⟩, ⟨u1_ BK1⟩, ⟨u1_ BK2⟩, ⟨u1_ BK3⟩, ⟨u1_ BK4⟩, ⟨b2i7_⟩⟩
   obtain rfl := bf_.mpr c12
   rw [if_neg ft_] at H
   by_cases c13 : x737002_10.length < 17592186044416
   case neg =>
    rw [if_neg c13] at H
    exact absurd H bxka_
   rw [if_pos c13] at H
   have LMc1 := A0_ c13
   clear c13
   obtain ⟨y3, hy3⟩ : ∃ y_ : List Int, y_ = (x737002_10 ++ [rd t37 x50_10]) := ⟨_, rfl⟩
   replace H : (laws_FnTheatre.l1 k10 t7 t11 t19 t38 t40 y2 (wrap64 (x50_10 + 1)) t4 t5 t6 t35 t36 t37 t35 false y3) = some r := b2x6_
   have Ny3 := A0_ hy3
   clear hy3
   have H' := A0_ H
   clear H
   have hnb10 := NB3_1.out
   have hnc10 := NB1_3.out
   have hnb11 := NB3_2.out
   have hnc11 := NB2_3.out
   have hnb12 := NB3_4.out
   have hnc12 := NB4_3.out
   have hcz15 := z3_ BK3
   have p1 : 0 ≤ (x50_10 : Int) := od_ bpil_
   have q1 : x50_10 < (t37.length : Int) := od_ bpil_
   obtain ⟨ad1, e1, hx1_0⟩ := Kd.at_int (rr_ HO_7.out).2.2 x50_10 p1 q1
   cases e1
   replace p1 := eq_true p1
   replace q1 := eq_true q1
   try go_wp2_with (first | ((with_reducible refine gc_ (f := 34) rfl ?_); refine gl_ 324 Tryd.func34 #[.slice Ao5 t38.length co5, .int .i64 (rd t37 x50_10)] ?_; (with_reducible refine (laws_rHas.calls k10 _ _ t38 (rd t37 x50_10) false _ ?side1 ?side2 A39.out).mono ?_); (case side1 => exact blpa_); (case side2 => exact (rr_ HO_6.out).2.1); rintro e w' ⟨rfl, ⟨nd, rfl⟩⟩; refine ⟨_, rfl, ?_⟩; (try (rw [drewN_self wr]; generalize hq_ : World.drewN wr _ = wr; have n0_ : Aside0 (Kd.R (Kd.int .i64) 3 wr w.heap.size (fun k_ => no_ (.slice Ao5 t38.length co5) k_ ∧ no_ (.slice Ao2 t7.length co2) k_ ∧ no_ v24 k_ ∧ no_ (.slice Ao1 t6.length co1) k_ ∧ no_ (.slice Ao3 t25.length co3) k_ ∧ no_ (.slice (some ad1) t37.length co4) k_ ∧ no_ u737002 k_) v7 t19) := ⟨by rw [← hq_]; exact bsf8_⟩; have n1_ : Aside0 (Kd.R (Kd.int .i64) 3 wr w.heap.size (fun k_ => no_ v7 k_ ∧ no_ (.slice Ao2 t7.length co2) k_ ∧ no_ v24 k_ ∧ no_ (.slice Ao1 t6.length co1) k_ ∧ no_ (.slice Ao3 t25.length co3) k_ ∧ no_ (.slice (some ad1) t37.length co4) k_ ∧ no_ u737002 k_) (.slice Ao5 t38.length co5) t38) := ⟨by rw [← hq_]; exact bo6m_⟩; have n2_ : Aside0 (Kd.R (Kd.int .i64) 3 wr w.heap.size (fun k_ => no_ v7 k_ ∧ no_ (.slice Ao5 t38.length co5) k_ ∧ no_ v24 k_ ∧ no_ (.slice Ao1 t6.length co1) k_ ∧ no_ (.slice Ao3 t25.length co3) k_ ∧ no_ (.slice (some ad1) t37.length co4) k_ ∧ no_ u737002 k_) (.slice Ao2 t7.length co2) t7) := ⟨bfiv_⟩; have n3_ : Aside0 (Kd.R (Kd.int .i64) 3 wr w.heap.size (fun k_ => no_ v7 k_ ∧ no_ (.slice Ao5 t38.length co5) k_ ∧ no_ (.slice Ao2 t7.length co2) k_ ∧ no_ (.slice Ao1 t6.length co1) k_ ∧ no_ (.slice Ao3 t25.length co3) k_ ∧ no_ (.slice (some ad1) t37.length co4) k_ ∧ no_ u737002 k_) v24 y2) := ⟨by rw [← hq_]; exact b3zt_⟩; have n4_ : Aside0 (Kd.R (Kd.int .i64) 3 wr w.heap.size (fun k_ => no_ v7 k_ ∧ no_ (.slice Ao5 t38.length co5) k_ ∧ no_ (.slice Ao2 t7.length co2) k_ ∧ no_ v24 k_ ∧ no_ (.slice Ao3 t25.length co3) k_ ∧ no_ (.slice (some ad1) t37.length co4) k_ ∧ no_ u737002 k_) (.slice Ao1 t6.length co1) t6) := ⟨by rw [← hq_]; exact bfb7_⟩; have n5_ : Aside0 (Kd.R (Kd.int .i64) 3 wr w.heap.size (fun k_ => no_ v7 k_ ∧ no_ (.slice Ao5 t38.length co5) k_ ∧ no_ (.slice Ao2 t7.length co2) k_ ∧ no_ v24 k_ ∧ no_ (.slice Ao1 t6.length co1) k_ ∧ no_ (.slice (some ad1) t37.length co4) k_ ∧ no_ u737002 k_) (.slice Ao3 t25.length co3) t25) := ⟨by rw [← hq_]; exact b9hw_⟩; have n6_ : Aside0 (Kd.R (Kd.int .i64) 3 wr w.heap.size (fun k_ => no_ v7 k_ ∧ no_ (.slice Ao5 t38.length co5) k_ ∧ no_ (.slice Ao2 t7.length co2) k_ ∧ no_ v24 k_ ∧ no_ (.slice Ao1 t6.length co1) k_ ∧ no_ (.slice Ao3 t25.length co3) k_ ∧ no_ u737002 k_) (.slice (some ad1) t37.length co4) t37) := ⟨by rw [← hq_]; exact bw0p_⟩; have n7_ : Aside0 (Kd.R (Kd.int .i64) 3 wr w.heap.size (fun k_ => no_ v7 k_ ∧ no_ (.slice Ao5 t38.length co5) k_ ∧ no_ (.slice Ao2 t7.length co2) k_ ∧ no_ v24 k_ ∧ no_ (.slice Ao1 t6.length co1) k_ ∧ no_ (.slice Ao3 t25.length co3) k_ ∧ no_ (.slice (some ad1) t37.length co4) k_) u737002 x737002_10) := ⟨by rw [← hq_]; exact b8ku_⟩; have n8_ : Aside0 (wr.heap[gb1]? = some (.cells #[.int .i64 t4, .bool t5, .slice Ao1 t6.length co1] 28 (0, 0))) := ⟨by rw [← hq_]; exact (u1_ BK1)⟩; have n9_ : Aside0 (wr.heap[gb2]? = some (.cells #[.int .i64 t23, .bool t24, .slice Ao3 t25.length co3] 28 (0, 0))) := ⟨by rw [← hq_]; exact (u1_ BK2)⟩; have n10_ : Aside0 (wr.heap[gb3]? = some (.cells #[.int .i64 t35, .bool t36, .slice (some ad1) t37.length co4] 28 (0, 0))) := ⟨by rw [← hq_]; exact (u1_ BK3)⟩; have n11_ : Aside0 (wr.heap[gb4]? = some (.cells #[.int .i64 t35, .bool false, u737002] 28 (0, 0))) := ⟨by rw [← hq_]; exact (u1_ BK4)⟩; have n12_ : Aside0 (Below w.heap.size w wr) := ⟨by rw [← hq_]; exact b2i7_⟩; clear HO_3 HO_6 HO_1 HO_9 HO_2 HO_5 HO_7 HO_10 BK1 BK2 BK3 BK4 HB hq_; have HO_3 := n0_; have HO_6 := n1_; have HO_1 := n2_; have HO_9 := n3_; have HO_2 := n4_; have HO_5 := n5_; have HO_7 := n6_; have HO_10 := n7_; have BK1 := n8_; have BK2 := n9_; have BK3 := n10_; have BK4 := n11_; have HB := n12_; clear n0_ n1_ n2_ n3_ n4_ n5_ n6_ n7_ n8_ n9_ n10_ n11_ n12_))))
   replace HO_1 := A0_ (rd_ HO_1.out)
   replace HO_3 := A0_ (rd_ HO_3.out)
   replace HO_6 := A0_ (rd_ HO_6.out)
   replace HO_9 := A0_ (rd_ HO_9.out)
   replace HO_2 := A0_ (rd_ HO_2.out)
   replace HO_5 := A0_ (rd_ HO_5.out)
   replace HO_7 := A0_ (rd_ HO_7.out)
   replace HO_10 := A0_ (rd_ HO_10.out)
   replace BK1 := A0_ (kd_ BK1.out)
   replace BK2 := A0_ (kd_ BK2.out)
   replace BK3 := A0_ (kd_ BK3.out)
   replace BK4 := A0_ (kd_ BK4.out)
   replace HB := A0_ (bd_ HB.out)
   have p2 : 0 ≤ (x50_10 : Int) := od_ bpil_
   have q2 : x50_10 < (t37.length : Int) := od_ bpil_
   obtain ⟨ad2, e2, hx2_0⟩ := Kd.at_int (rr_ HO_7.out).2.2 x50_10 p2 q2
   obtain rfl : ad1 = ad2 := bs6y_
   replace p2 := eq_true p2
   replace q2 := eq_true q2
   refine start_ (n := 11) (S := fun w' => w'.cell? ⟨gb4, 0, none⟩ = some (.int .i64 t35) ∧ w'.cell? ⟨gb4, 1, none⟩ = some (.bool false) ∧ w'.cell? ⟨gb4, 2, none⟩ = some (u737002) ∧ w'.cell? ⟨gb3, 0, none⟩ = some (.int .i64 t35) ∧ w'.cell? ⟨gb3, 1, none⟩ = some (.bool t36) ∧ w'.cell? ⟨gb3, 2, none⟩ = some (.slice (some ad1) t37.length co4) ∧ w'.cell? (ad1.add (x50_10).toNat) = some (.int .i64 (rd t37 x50_10))) (ds := [8, 10]) #[false, false, false, false, false, false, false, false, false, false, false] bfqv_ rfl rfl ⟨(kc_ BK4.out 0).trans rfl, (kc_ BK4.out 1).trans rfl, (kc_ BK4.out 2).trans rfl, (kc_ BK3.out 0).trans rfl, (kc_ BK3.out 1).trans rfl, (kc_ BK3.out 2).trans rfl, hx2_0⟩ (fun hHeld => ?_); refine with_tabW laws_FnTheatre.tab53 laws_FnTheatre.bits53 (fun HT_ HW_ => ?_)
   generalize wr.drew = w25 at HO_1 HO_3 HO_6 HO_9 HO_2 HO_5 HO_7 HO_10 BK1 BK2 BK3 BK4 HB hx2_0 hHeld ⊢
   refine pu_ 0 326 ?_
   refine pu_ 2 328 ?_
   refine pu_ 4 330 ?_
   refine tk_ 1 327 hHeld ?_
   refine tk_ 3 329 hHeld ?_
   refine pu_ 5 331 ?_
   refine tk_ 6 332 hHeld ?_
   refine on_ 7 (some 333) (fun K hK => ?_)
   refine value_ (w1 := ?_) (v := ?_) b139_ rfl ?_ ?_
   rotate_left 2
   ·go_simp
    constructor
    ·rfl
    rfl
   refine hK.out _ _ ⟨(kc_ (ka_ BK4.out _) 0).trans rfl, (kc_ (ka_ BK4.out _) 1).trans rfl, (kc_ (ka_ BK4.out _) 2).trans rfl, (kc_ (ka_ BK3.out _) 0).trans rfl, (kc_ (ka_ BK3.out _) 1).trans rfl, (kc_ (ka_ BK3.out _) 2).trans rfl, (World.cell?_alloc_lt _ _ _ (World.block_lt_of_cell? _ _ (hHeld.2.2.2.2.2.2))).trans (hHeld.2.2.2.2.2.2)⟩ (fun hHeld => ?_)
   clear hK K
   refine nm_ 333 ?_
   refine last_ (i := 8) (N := some 334) #[true, true, true, true, true, true, true, true, true, false, false] rfl rfl (one_of HT_.out bfqv_) bi3y_ (fun K hK => ?_)
   refine Kd.R_append_step (Kd.int .i64) (w0 := w) w.heap.size b139_ (.tmp 327) (.tmp 333) 22 3 (.int .i64 0) 8 rfl Tryd.underlying22 info3 rfl bi3y_ bh19_ u737002 x737002_10 (rd t37 x50_10) [.int .i64 (rd t37 x50_10)] (fun k_ => no_ (.slice Ao2 t7.length co2) k_ ∧ no_ v7 k_ ∧ no_ (.slice Ao5 t38.length co5) k_ ∧ no_ v24 k_ ∧ no_ (.slice Ao1 t6.length co1) k_ ∧ no_ (.slice Ao3 t25.length co3) k_ ∧ no_ (.slice (some ad1) t37.length co4) k_) (fun _ => False) rfl rfl ?aP (fun _ hk => hk.elim) ?aF ?aO ?aB ?aS ?aL ?_
   (case aP => exact rfl)
   (case aB => exact b2i7_)
   (case aF => exact (fun k_ hk => ⟨Kd.fresh' (Kd.R_lt bwik_) k_ hk, Kd.fresh' (Kd.R_lt bzfm_) k_ hk, Kd.fresh' (Kd.R_lt bj2s_) k_ hk, Kd.fresh' (Kd.R_lt bh09_) k_ hk, Kd.fresh' (Kd.R_lt b7sq_) k_ hk, Kd.fresh' (Kd.R_lt bqlr_) k_ hk, Kd.fresh' (Kd.R_lt bhm9_) k_ hk⟩))
   (case aO => exact b8ku_)
   (case aS => exact (bz_ b2i7_))
   (case aL => have := LMc1.out; omega)
   intro v26 w26 ho hb hg hat
   rw [← Ny3.out] at ho
   have n0_ := A0_ (Kd.R_after (ok := (fun k_ => no_ v7 k_ ∧ no_ (.slice Ao5 t38.length co5) k_ ∧ no_ v24 k_ ∧ no_ (.slice Ao1 t6.length co1) k_ ∧ no_ (.slice Ao3 t25.length co3) k_ ∧ no_ (.slice (some ad1) t37.length co4) k_)) b9dr_ hg hat)
   have n1_ := A0_ (Kd.R_after (ok := (fun k_ => no_ (.slice Ao2 t7.length co2) k_ ∧ no_ (.slice Ao5 t38.length co5) k_ ∧ no_ v24 k_ ∧ no_ (.slice Ao1 t6.length co1) k_ ∧ no_ (.slice Ao3 t25.length co3) k_ ∧ no_ (.slice (some ad1) t37.length co4) k_)) bsf8_ hg hat)
   have n2_ := A0_ (Kd.R_after (ok := (fun k_ => no_ (.slice Ao2 t7.length co2) k_ ∧ no_ v7 k_ ∧ no_ v24 k_ ∧ no_ (.slice Ao1 t6.length co1) k_ ∧ no_ (.slice Ao3 t25.length co3) k_ ∧ no_ (.slice (some ad1) t37.length co4) k_)) bo6m_ hg hat)
   have n3_ := A0_ (Kd.R_after (ok := (fun k_ => no_ (.slice Ao2 t7.length co2) k_ ∧ no_ v7 k_ ∧ no_ (.slice Ao5 t38.length co5) k_ ∧ no_ (.slice Ao1 t6.length co1) k_ ∧ no_ (.slice Ao3 t25.length co3) k_ ∧ no_ (.slice (some ad1) t37.length co4) k_)) b3zt_ hg hat)
   have n4_ := A0_ (Kd.R_after (ok := (fun k_ => no_ (.slice Ao2 t7.length co2) k_ ∧ no_ v7 k_ ∧ no_ (.slice Ao5 t38.length co5) k_ ∧ no_ v24 k_ ∧ no_ (.slice Ao3 t25.length co3) k_ ∧ no_ (.slice (some ad1) t37.length co4) k_)) bfb7_ hg hat)
   have n5_ := A0_ (Kd.R_after (ok := (fun k_ => no_ (.slice Ao2 t7.length co2) k_ ∧ no_ v7 k_ ∧ no_ (.slice Ao5 t38.length co5) k_ ∧ no_ v24 k_ ∧ no_ (.slice Ao1 t6.length co1) k_ ∧ no_ (.slice (some ad1) t37.length co4) k_)) b9hw_ hg hat)
   have n6_ := A0_ (Kd.R_after (ok := (fun k_ => no_ (.slice Ao2 t7.length co2) k_ ∧ no_ v7 k_ ∧ no_ (.slice Ao5 t38.length co5) k_ ∧ no_ v24 k_ ∧ no_ (.slice Ao1 t6.length co1) k_ ∧ no_ (.slice Ao3 t25.length co3) k_)) bw0p_ hg hat)
   have n7_ := A0_ (blk_grown (g := gb1) (o := .cells #[.int .i64 t4, .bool t5, .slice Ao1 t6.length co1] 28 (0, 0)) (u1_ BK1) hg (Kd.R_ne HO_10.out BK1.out bi3y_))
   have n8_ := A0_ (blk_grown (g := gb2) (o := .cells #[.int .i64 t23, .bool t24, .slice Ao3 t25.length co3] 28 (0, 0)) (u1_ BK2) hg (Kd.R_ne HO_10.out BK2.out bi3y_))
   have n9_ := A0_ (blk_grown (g := gb3) (o := .cells #[.int .i64 t35, .bool t36, .slice (some ad1) t37.length co4] 28 (0, 0)) (u1_ BK3) hg (Kd.R_ne HO_10.out BK3.out bi3y_))
   have n10_ := A0_ (blk_grown (g := gb4) (o := .cells #[.int .i64 t35, .bool false, u737002] 28 (0, 0)) (u1_ BK4) hg (Kd.R_ne HO_10.out BK4.out bi3y_))
   have n11_ := A0_ (hb)
   have n12_ := A0_ (ho)
   clear HO_1
   clear HO_3
   clear HO_6
   clear HO_9
   clear HO_2
   clear HO_5
   clear HO_7
   clear BK1
   clear BK2
   clear BK3
   clear BK4
   clear HB
   clear HO_10
   have HO_1 := n0_
   have HO_3 := n1_
   have HO_6 := n2_
   have HO_9 := n3_
   have HO_2 := n4_
   have HO_5 := n5_
   have HO_7 := n6_
   have BK1 := n7_
   have BK2 := n8_
   have BK3 := n9_
   have BK4 := n10_
   have HB := n11_
   have HO18 := n12_
   clear n0_ n1_ n2_ n3_ n4_ n5_ n6_ n7_ n8_ n9_ n10_ n11_ n12_
   clear ho hb hg hat
   obtain ⟨Ao7, co7, eo7⟩ := Kd.R_slice HO18.out
   (first | subst eo7 | (injection eo7 with f1_ f2_ f3_; have f4_ := f1_.symm; have f5_ := f3_.symm; clear f1_ f2_ f3_; subst f4_; subst f5_))
   refine hK.out _ _ ?_
   clear hK K
   refine nm_ 334 ?_
   refine pu_ 9 335 ?_
   refine last_ (i := 10) (N := none) #[true, true, true, true, true, true, true, true, true, true, true] rfl rfl (one_of HT_.out bfqv_) bi3y_ (fun K hK => ?_)
   have hs170 : w26.cell? ⟨gb4, 2, none⟩ = some (u737002) := (kc_ BK4.out 2).trans rfl
   have hfs170 := kf_ BK4.out 2
   have hns1_0 := NB1_4.out
   have hns1_1 := NB2_4.out
   have hns1_2 := NB3_4.out
   have hms1_0 := NB4_1.out
   have hms1_1 := NB4_2.out
   have hms1_2 := NB4_3.out
   refine skip_ (w1 := ?_) b139_ rfl ?_ ?_
   rotate_left
   ·go_simp
    rfl
   refine hK.out _ _ ?_
   clear hK K
   refine dn_ ?_
   try go_wp2
   go_roundg k10
   case measure => have := HJ1.out; have := HJ2.out; have := HJ3.out; have := HJ4.out; have := HJ5.out; have := HJ6.out; have := HJ7.out; have := HJ8.out; have := HJ9.out; have := HK1.out; omega
   exact ⟨(wrap64 (x50_10 + 1)), (y3), (.slice Ao7 y3.length co7), b2ew_, H', ⟨bf1u_⟩, ⟨by (with_reducible repeat (first | apply ra_ | apply rn_ | apply rd_)); exact Kd.R_mono (rf_ (Kd.R_types HO_1.out BK4.out bi3y_) k2_0 _) cf_⟩, ⟨by (with_reducible repeat (first | apply ra_ | apply rn_ | apply rd_)); exact Kd.R_mono (rf_ (Kd.R_types HO_3.out BK4.out bi3y_) k2_0 _) cf_⟩, ⟨by (with_reducible repeat (first | apply ra_ | apply rn_ | apply rd_)); exact Kd.R_mono (rf_ (Kd.R_types HO_6.out BK4.out bi3y_) k2_0 _) cf_⟩, ⟨by (with_reducible repeat (first | apply ra_ | apply rn_ | apply rd_)); exact Kd.R_mono (rf_ (Kd.R_types HO_9.out BK4.out bi3y_) k2_0 _) cf_⟩, ⟨by (with_reducible repeat (first | apply ra_ | apply rn_ | apply rd_)); exact Kd.R_mono (rf_ (Kd.R_types HO_2.out BK4.out bi3y_) k2_0 _) cf_⟩, ⟨by (with_reducible repeat (first | apply ra_ | apply rn_ | apply rd_)); exact Kd.R_mono (rf_ (Kd.R_types HO_5.out BK4.out bi3y_) k2_0 _) cf_⟩, ⟨by (with_reducible repeat (first | apply ra_ | apply rn_ | apply rd_)); exact Kd.R_mono (rf_ (Kd.R_types HO_7.out BK4.out bi3y_) k2_0 _) cf_⟩, ⟨by (with_reducible repeat (first | apply ra_ | apply rn_ | apply rd_)); exact Kd.R_mono (rf_ (Kd.R_types HO18.out BK4.out bi3y_) k2_0 _) cf_⟩, ⟨u1_ BK1⟩, ⟨u1_ BK2⟩, ⟨u1_ BK3⟩, ⟨u1_ BK4⟩, ⟨b2i7_⟩⟩
  clear HC139
  try clear c1
  try clear c2
  try clear c3
  try clear c4
  try clear c5
  try clear c6
  try clear c7
  try clear c8
  (try clear hcz1); (try clear hcz2); (try clear hcz3); (try clear hcz4); (try clear hcz5); (try clear hcz6); (try clear hcz7); (try clear hcz8); (try clear hcz9); (try clear hcz10); (try clear hcz11); (try clear hcz12); (try clear hfz1); (try clear hfz2); (try clear hfz3); (try clear hfz4); (try clear hfz5); (try clear hfz6); (try clear hfz7); (try clear hfz8); (try clear hfz9); (try clear hfz10); (try clear hfz11); (try clear hfz12)
  obtain ⟨kq, HA, HJ10, HO_1, HO_3, HO_2, HO_5, HO_7, BK1, BK2, BK3, HB⟩ := hcut
  cases kq with | zero => exact absurd HA.out (by simp [laws_FnTheatre.j12]) | succ kj10 => ?_
  as_aux_lemma =>
  have H := HA.out
  clear HA
  simp only [laws_FnTheatre.j12] at H
  by_cases c9 : t11 = true
  case neg =>
   obtain rfl := bf_.mpr c9
   rw [if_neg ft_] at H
   obtain rfl := si_ H
   go_wp2
   go_ret
   exact ⟨bnwh_, b850_⟩
  subst c9
  rw [if_pos rfl] at H
  obtain ⟨⟨t50, t51, t52⟩, A39, H⟩ := o1_ H
  obtain ⟨⟨t53, t54, t55⟩, A41, H⟩ := o1_ H
  have HC207 := A0_ H
  clear H
  have hnb5 := NB1_2.out
  have hnc5 := NB2_1.out
  have hnb6 := NB1_3.out
  have hnc6 := NB3_1.out
  have hcz13 := z3_ BK1
  go_upto_region 65 with (first | ((with_reducible refine gc_ (f := 19) rfl ?_); refine gl_ 369 Tryd.func19 #[.agg #[.int .i64 t4, .bool t5, .slice Ao1 t6.length co1], .slice Ao2 t7.length co2, .bool true] ?_; (with_reducible refine (impl_StandsOf.calls kj10 t4 t5 _ _ t6 _ _ t7 true t50 t51 t52 _ ?side1 ?side2 ?side3 ?side4 A39.out).mono ?_); (case side1 => exact bqlu_); (case side2 => exact (rr_ HO_2.out).2.1); (case side3 => exact btcf_); (case side4 => exact (rr_ HO_1.out).2.1); rintro e w22 ⟨v23, rfl, ho0, hb⟩; refine ⟨_, rfl, ?_⟩; have HO16 := A0_ (Kd.R_lower (Kd.R_new' (Kd.R_new' (Kd.R_new' (Kd.R_new' (Kd.R_new' ho0 (Kd.R_lt bwik_)) (Kd.R_lt bzfm_)) (Kd.R_lt b7sq_)) (Kd.R_lt bqlr_)) (Kd.R_lt bhm9_)) (bz_ b850_)); replace HO_1 := A0_ (Kd.R_elder' bwik_ (Kd.R_base ho0) hb); replace HO_3 := A0_ (Kd.R_elder' bzfm_ (Kd.R_base ho0) hb); replace HO_2 := A0_ (Kd.R_elder' b7sq_ (Kd.R_base ho0) hb); replace HO_5 := A0_ (Kd.R_elder' bqlr_ (Kd.R_base ho0) hb); replace HO_7 := A0_ (Kd.R_elder' bhm9_ (Kd.R_base ho0) hb); replace BK1 := k1_ BK1 hb; replace BK2 := k1_ BK2 hb; replace BK3 := k1_ BK3 hb; replace HB := hb_ hb b850_; (try clear hb); (try clear ho0); have hcz14 := z3_ BK1) | ((with_reducible refine gc_ (f := 19) rfl ?_); refine gl_ 376 Tryd.func19 #[.agg #[.int .i64 t4, .bool t5, .slice Ao1 t6.length co1], .slice Ao2 t7.length co2, .bool false] ?_; (with_reducible refine (impl_StandsOf.calls kj10 t4 t5 _ _ t6 _ _ t7 false t53 t54 t55 _ ?side1 ?side2 ?side3 ?side4 A41.out).mono ?_); (case side1 => exact bqlu_); (case side2 => exact (rr_ HO_2.out).2.1); (case side3 => exact btcf_); (case side4 => exact (rr_ HO_1.out).2.1); rintro e w23 ⟨v24, rfl, ho0, hb⟩; refine ⟨_, rfl, ?_⟩; have HO17 := A0_ (Kd.R_lower (Kd.R_new' (Kd.R_new' (Kd.R_new' (Kd.R_new' (Kd.R_new' (Kd.R_new' ho0 (Kd.R_lt bwik_)) (Kd.R_lt bzfm_)) (Kd.R_lt b7sq_)) (Kd.R_lt bqlr_)) (Kd.R_lt bhm9_)) (Kd.R_lt b20z_)) (bz_ b850_)); replace HO_1 := A0_ (Kd.R_elder' bwik_ (Kd.R_base ho0) hb); replace HO_3 := A0_ (Kd.R_elder' bzfm_ (Kd.R_base ho0) hb); replace HO_2 := A0_ (Kd.R_elder' b7sq_ (Kd.R_base ho0) hb); replace HO_5 := A0_ (Kd.R_elder' bqlr_ (Kd.R_base ho0) hb); replace HO_7 := A0_ (Kd.R_elder' bhm9_ (Kd.R_base ho0) hb); replace HO16 := A0_ (Kd.R_elder' b20z_ (Kd.R_base ho0) hb); replace BK1 := k1_ BK1 hb; replace BK2 := k1_ BK2 hb; replace BK3 := k1_ BK3 hb; replace HB := hb_ hb b850_; (try clear hb); (try clear ho0)))
  (try simp only [Act.put, sa_, sz_, ss_])
  go_cut [392] from 306 to 392 (fun v25 wc => ∃ (kq : Nat) (x392_206 : Bool), v25 = .bool x392_206 ∧ Aside0 (laws_FnTheatre.j13 kq t19 t50 t53 x392_206 = some r) ∧ Aside0 (kq ≤ kj10) ∧ Aside0 (Kd.R (Kd.int .i64) 3 wc w.heap.size (fun k_ => no_ v23 k_ ∧ no_ v24 k_ ∧ no_ (.slice Ao1 t6.length co1) k_ ∧ no_ (.slice Ao3 t25.length co3) k_ ∧ no_ (.slice Ao4 t37.length co4) k_) v7 t19) ∧ Aside0 (Kd.R (Kd.int .i64) 3 wc w.heap.size (fun k_ => no_ v7 k_ ∧ no_ v24 k_ ∧ no_ (.slice Ao1 t6.length co1) k_ ∧ no_ (.slice Ao3 t25.length co3) k_ ∧ no_ (.slice Ao4 t37.length co4) k_) v23 t50) ∧ Aside0 (Kd.R (Kd.int .i64) 3 wc w.heap.size (fun k_ => no_ v7 k_ ∧ no_ v23 k_ ∧ no_ (.slice Ao1 t6.length co1) k_ ∧ no_ (.slice Ao3 t25.length co3) k_ ∧ no_ (.slice Ao4 t37.length co4) k_) v24 t53) ∧ Aside0 (Kd.R (Kd.int .i64) 3 wc w.heap.size (fun k_ => no_ v7 k_ ∧ no_ v23 k_ ∧ no_ v24 k_ ∧ no_ (.slice Ao3 t25.length co3) k_ ∧ no_ (.slice Ao4 t37.length co4) k_) (.slice Ao1 t6.length co1) t6) ∧ Aside0 (Kd.R (Kd.int .i64) 3 wc w.heap.size (fun k_ => no_ v7 k_ ∧ no_ v23 k_ ∧ no_ v24 k_ ∧ no_ (.slice Ao1 t6.length co1) k_ ∧ no_ (.slice Ao4 t37.length co4) k_) (.slice Ao3 t25.length co3) t25) ∧ Aside0 (Kd.R (Kd.int .i64) 3 wc w.heap.size (fun k_ => no_ v7 k_ ∧ no_ v23 k_ ∧ no_ v24 k_ ∧ no_ (.slice Ao1 t6.length co1) k_ ∧ no_ (.slice Ao3 t25.length co3) k_) (.slice Ao4 t37.length co4) t37) ∧ Aside0 (wc.heap[gb1]? = some (.cells #[.int .i64 t4, .bool t5, (.slice Ao1 t6.length co1)] 28 (0, 0))) ∧ Aside0 (wc.heap[gb2]? = some (.cells #[.int .i64 t23, .bool t24, (.slice Ao3 t25.length co3)] 28 (0, 0))) ∧ Aside0 (wc.heap[gb3]? = some (.cells #[.int .i64 t35, .bool t36, (.slice Ao4 t37.length co4)] 28 (0, 0))) ∧ Aside0 (Below w.heap.size w wc))
  case first =>
   have H := HC207.out
   clear HC207
   by_cases c10 : t52 = true
   case neg =>
    obtain rfl := bf_.mpr c10
    have H1 : (none) = some r := by rw [if_neg ft_] at H; exact H
    exact absurd H1 bxka_
   subst c10
   rw [if_pos rfl] at H
   by_cases c11 : t55 = true
   case neg =>
    obtain rfl := bf_.mpr c11
    have H1 : (none) = some r := by rw [if_neg ft_] at H; exact H
    exact absurd H1 bxka_
   subst c11
   rw [if_pos rfl] at H
   have H' := A0_ H
   clear H
   obtain ⟨Ao6, co6, eo6⟩ := Kd.R_slice HO16.out
   subst eo6
   obtain ⟨Ao7, co7, eo7⟩ := Kd.R_slice HO17.out
   subst eo7
   go_wp2
   go_meet
   exact ⟨_, (((t50.length : Int) != (t53.length : Int))), b2ew_, H', ⟨by have := HJ1.out; have := HJ2.out; have := HJ3.out; have := HJ4.out; have := HJ5.out; have := HJ6.out; have := HJ7.out; have := HJ8.out; have := HJ9.out; have := HJ10.out; first | omega | exact Nat.le_refl _⟩, ⟨bsf8_⟩, ⟨by (with_reducible repeat (first | apply ra_ | apply rn_ | apply rd_)); exact Kd.R_mono HO16.out cf_⟩, ⟨by (with_reducible repeat (first | apply ra_ | apply rn_ | apply rd_)); exact Kd.R_mono HO17.out cf_⟩, ⟨bfb7_⟩, ⟨b9hw_⟩, ⟨bw0p_⟩, ⟨u1_ BK1⟩, ⟨u1_ BK2⟩, ⟨u1_ BK3⟩, ⟨b850_⟩⟩
  clear HC207
  try clear c1
  try clear c2
  try clear c3
  try clear c4
  try clear c5
  try clear c6
  try clear c7
  try clear c8
  try clear c9
  (try clear hcz1); (try clear hcz2); (try clear hcz13); (try clear hcz14); (try clear hcz3); (try clear hcz4); (try clear hcz5); (try clear hcz6); (try clear hcz7); (try clear hcz8); (try clear hcz9); (try clear hcz10); (try clear hcz11); (try clear hcz12); (try clear hfz1); (try clear hfz2); (try clear hfz13); (try clear hfz14); (try clear hfz3); (try clear hfz4); (try clear hfz5); (try clear hfz6); (try clear hfz7); (try clear hfz8); (try clear hfz9); (try clear hfz10); (try clear hfz11); (try clear hfz12)
  obtain ⟨kq, x392_206, rfl, HA, HJ11, HO_3, HO_9, HO_10, HO_2, HO_5, HO_7, BK1, BK2, BK3, HB⟩ := hcut
  cases kq with | zero => exact absurd HA.out (by simp [laws_FnTheatre.j13]) | succ kj11 => ?_
  as_aux_lemma =>
  have H := HA.out
  clear HA
  simp only [laws_FnTheatre.j13] at H
  by_cases c10 : x392_206 = true
  ·subst c10
   have H1 : (none) = some r := by rw [if_pos rfl] at H; exact H
   exact absurd H1 bxka_
  obtain rfl := bf_.mpr c10
  rw [if_neg ft_] at H
  have H' := A0_ H
  clear H
  go_wp2
  go_loopg [61] kj11 (fun kq v26 w' => ∃ (x61_12 : Int), v26 = .int .i64 x61_12 ∧ Aside0 (laws_FnTheatre.l3 kq t19 t50 t53 x61_12 = some r) ∧ Aside0 (kq ≤ kj11) ∧ Aside0 (Kd.R (Kd.int .i64) 3 w' w.heap.size (fun k_ => no_ v23 k_ ∧ no_ v24 k_ ∧ no_ (.slice Ao1 t6.length co1) k_ ∧ no_ (.slice Ao3 t25.length co3) k_ ∧ no_ (.slice Ao4 t37.length co4) k_) v7 t19) ∧ Aside0 (Kd.R (Kd.int .i64) 3 w' w.heap.size (fun k_ => no_ v7 k_ ∧ no_ v24 k_ ∧ no_ (.slice Ao1 t6.length co1) k_ ∧ no_ (.slice Ao3 t25.length co3) k_ ∧ no_ (.slice Ao4 t37.length co4) k_) v23 t50) ∧ Aside0 (Kd.R (Kd.int .i64) 3 w' w.heap.size (fun k_ => no_ v7 k_ ∧ no_ v23 k_ ∧ no_ (.slice Ao1 t6.length co1) k_ ∧ no_ (.slice Ao3 t25.length co3) k_ ∧ no_ (.slice Ao4 t37.length co4) k_) v24 t53) ∧ Aside0 (Kd.R (Kd.int .i64) 3 w' w.heap.size (fun k_ => no_ v7 k_ ∧ no_ v23 k_ ∧ no_ v24 k_ ∧ no_ (.slice Ao3 t25.length co3) k_ ∧ no_ (.slice Ao4 t37.length co4) k_) (.slice Ao1 t6.length co1) t6) ∧ Aside0 (Kd.R (Kd.int .i64) 3 w' w.heap.size (fun k_ => no_ v7 k_ ∧ no_ v23 k_ ∧ no_ v24 k_ ∧ no_ (.slice Ao1 t6.length co1) k_ ∧ no_ (.slice Ao4 t37.length co4) k_) (.slice Ao3 t25.length co3) t25) ∧ Aside0 (Kd.R (Kd.int .i64) 3 w' w.heap.size (fun k_ => no_ v7 k_ ∧ no_ v23 k_ ∧ no_ v24 k_ ∧ no_ (.slice Ao1 t6.length co1) k_ ∧ no_ (.slice Ao3 t25.length co3) k_) (.slice Ao4 t37.length co4) t37) ∧ Aside0 (w'.heap[gb1]? = some (.cells #[.int .i64 t4, .bool t5, (.slice Ao1 t6.length co1)] 28 (0, 0))) ∧ Aside0 (w'.heap[gb2]? = some (.cells #[.int .i64 t23, .bool t24, (.slice Ao3 t25.length co3)] 28 (0, 0))) ∧ Aside0 (w'.heap[gb3]? = some (.cells #[.int .i64 t35, .bool t36, (.slice Ao4 t37.length co4)] 28 (0, 0))) ∧ Aside0 (Below w.heap.size w w'))
  case atStart => exact ⟨(0), b2ew_, H', ⟨Nat.le_refl _⟩, ⟨bzfm_⟩, ⟨bh09_⟩, ⟨b5l4_⟩, ⟨b7sq_⟩, ⟨bqlr_⟩, ⟨bhm9_⟩, ⟨u1_ BK1⟩, ⟨u1_ BK2⟩, ⟨u1_ BK3⟩, ⟨b850_⟩⟩
  clear H'
  try clear c1
  try clear c2
  try clear c3
  try clear c4
  try clear c5
  try clear c6
  try clear c7
  try clear c8
  try clear c9
  try clear c10
  (try clear hcz1); (try clear hcz2); (try clear hcz13); (try clear hcz14); (try clear hcz3); (try clear hcz4); (try clear hcz5); (try clear hcz6); (try clear hcz7); (try clear hcz8); (try clear hcz9); (try clear hcz10); (try clear hcz11); (try clear hcz12); (try clear hfz1); (try clear hfz2); (try clear hfz13); (try clear hfz14); (try clear hfz3); (try clear hfz4); (try clear hfz5); (try clear hfz6); (try clear hfz7); (try clear hfz8); (try clear hfz9); (try clear hfz10); (try clear hfz11); (try clear hfz12)
  obtain ⟨x61_12, rfl, HA, HK1, HO_3, HO_9, HO_10, HO_2, HO_5, HO_7, BK1, BK2, BK3, HB⟩ := hrel
  cases gk with | zero => exact absurd HA.out (by simp [laws_FnTheatre.l3]) | succ k12 => ?_
  as_aux_lemma =>
  have H := HA.out
  clear HA
  simp only [laws_FnTheatre.l3] at H
  by_cases c11 : x61_12 < (t50.length : Int)
  case neg =>
   rw [if_neg c11] at H
   have c11b0 : decide (x61_12 < (t50.length : Int)) = false := decide_eq_false c11
   clear c11
   obtain rfl := si_ H
   obtain ⟨Ao6, co6, eo6⟩ := Kd.R_slice HO_9.out
   subst eo6
   go_wp2
   go_ret
   exact ⟨bnwh_, b850_⟩
  rw [if_pos c11] at H
  have c11b0 : decide (x61_12 < (t50.length : Int)) = true := dt_ c11
  clear c11
  by_cases c12 : 0 ≤ x61_12
  case neg =>
   rw [if_neg c12] at H
   exact absurd H bxka_
  rw [if_pos c12] at H
  have c12b0 : decide (0 ≤ x61_12) = true := dt_ c12
  clear c12
  by_cases c13 : x61_12 < (t53.length : Int)
  case neg =>
   rw [if_neg c13] at H
   exact absurd H bxka_
  rw [if_pos c13] at H
  have c13b0 : decide (x61_12 < (t53.length : Int)) = true := dt_ c13
  clear c13
  by_cases c14 : (rd t50 x61_12) > (rd t53 x61_12)
  ·rw [if_pos c14] at H
   exact absurd H bxka_
  rw [if_neg c14] at H
  have c14b0 : decide ((rd t53 x61_12) < (rd t50 x61_12)) = false := decide_eq_false c14
  clear c14
  by_cases c15 : x61_12 < (t19.length : Int)
  case neg =>
   rw [if_neg c15] at H
   exact absurd H bxka_
  rw [if_pos c15] at H
  have c15b0 : decide (x61_12 < (t19.length : Int)) = true := dt_ c15
  clear c15
  by_cases c16 : (rd t19 x61_12) = 0
  case neg =>
   rw [if_neg c16] at H
   obtain ⟨c16b0, c16b1⟩ := ef_ c16
   have H' := A0_ H
   clear H
   obtain ⟨Ao6, co6, eo6⟩ := Kd.R_slice HO_9.out
   subst eo6
   try go_wp2
   replace HO_3 := A0_ (rd_ HO_3.out)
   replace HO_9 := A0_ (rd_ HO_9.out)
   replace HO_10 := A0_ (rd_ HO_10.out)
   replace HO_2 := A0_ (rd_ HO_2.out)
   replace HO_5 := A0_ (rd_ HO_5.out)
   replace HO_7 := A0_ (rd_ HO_7.out)
   replace BK1 := A0_ (kd_ BK1.out)
   replace BK2 := A0_ (kd_ BK2.out)
   replace BK3 := A0_ (kd_ BK3.out)
   replace HB := A0_ (bd_ HB.out)
   have p1 : 0 ≤ (x61_12 : Int) := od_ bpil_
   have q1 : x61_12 < (t50.length : Int) := od_ bpil_
   obtain ⟨ad1, e1, hx1_0⟩ := Kd.at_int (rr_ HO_9.out).2.2 x61_12 p1 q1
   cases e1
   replace p1 := eq_true p1
   replace q1 := eq_true q1
   obtain ⟨Ao7, co7, eo7⟩ := Kd.R_slice HO_10.out
   (first | subst eo7 | (injection eo7 with f1_ f2_ f3_; have f4_ := f1_.symm; have f5_ := f3_.symm; clear f1_ f2_ f3_; subst f4_; subst f5_))
   have p2 : 0 ≤ (x61_12 : Int) := od_ bpil_
   have q2 : x61_12 < (t53.length : Int) := od_ bpil_
   obtain ⟨ad2, e2, hx2_0⟩ := Kd.at_int (rr_ HO_10.out).2.2 x61_12 p2 q2
   cases e2
   replace p2 := eq_true p2
   replace q2 := eq_true q2
   obtain ⟨Ao8, co8, eo8⟩ := Kd.R_slice HO_3.out
   (first | subst eo8 | (injection eo8 with f1_ f2_ f3_; have f4_ := f1_.symm; have f5_ := f3_.symm; clear f1_ f2_ f3_; subst f4_; subst f5_))
   have p3 : 0 ≤ (x61_12 : Int) := od_ bpil_
   have q3 : x61_12 < (t19.length : Int) := od_ bpil_
   obtain ⟨ad3, e3, hx3_0⟩ := Kd.at_int (rr_ HO_3.out).2.2 x61_12 p3 q3
   cases e3
   replace p3 := eq_true p3
   replace q3 := eq_true q3
   refine start_ (n := 27) (S := fun w' => w'.cell? (ad1.add (x61_12).toNat) = some (.int .i64 (rd t50 x61_12)) ∧ w'.cell? (ad2.add (x61_12).toNat) = some (.int .i64 (rd t53 x61_12)) ∧ w'.cell? (ad3.add (x61_12).toNat) = some (.int .i64 (rd t19 x61_12))) (ds := []) #[false, false, false, false, false, false, false, false, false, false, false, false, false, false, false, false, false, false, false, false, false, false, false, false, false, false, false] bfqv_ rfl rfl ⟨hx1_0, hx2_0, hx3_0⟩ (fun hHeld => ?_); refine with_tabW laws_FnTheatre.tab70 laws_FnTheatre.bits70 (fun HT_ HW_ => ?_)
   generalize wr.drew = w24 at HO_3 HO_9 HO_10 HO_2 HO_5 HO_7 BK1 BK2 BK3 HB hx1_0 hx2_0 hx3_0 hHeld ⊢
   refine pu_ 0 399 ?_
   refine pu_ 1 400 ?_
   refine pu_ 2 401 ?_
   refine pu_ 4 403 ?_
   refine pu_ 5 404 ?_
   refine pu_ 6 405 ?_
   refine tk_ 3 402 hHeld ?_
   refine tk_ 7 406 hHeld ?_
   refine pu_ 8 407 ?_
   refine pu_ 9 408 ?_
   refine pu_ 10 409 ?_
   refine pu_ 11 410 ?_
   refine pu_ 12 411 ?_
   refine tk_ 13 412 hHeld ?_
   refine pu_ 14 413 ?_
   refine pu_ 15 414 ?_
   refine pv_ 16 415 ?_
   refine pv_ 17 416 ?_
   refine pv_ 18 417 ?_
   refine pv_ 19 418 ?_
   refine pv_ 20 419 ?_
   refine pv_ 21 420 ?_
   refine pv_ 22 421 ?_
   refine pv_ 23 422 ?_
   refine pv_ 24 423 ?_
   refine pu_ 25 424 ?_
   refine pu_ 26 425 ?_
   refine dn_ ?_
   try go_wp2
   go_roundg k12
   case measure => have := HJ1.out; have := HJ2.out; have := HJ3.out; have := HJ4.out; have := HJ5.out; have := HJ6.out; have := HJ7.out; have := HJ8.out; have := HJ9.out; have := HJ10.out; have := HJ11.out; have := HK1.out; omega
   exact ⟨(wrap64 (x61_12 + 1)), b2ew_, H', ⟨bwrc_⟩, ⟨bzfm_⟩, ⟨bh09_⟩, ⟨b5l4_⟩, ⟨b7sq_⟩, ⟨bqlr_⟩, ⟨bhm9_⟩, ⟨u1_ BK1⟩, ⟨u1_ BK2⟩, ⟨u1_ BK3⟩, ⟨b850_⟩⟩
  rw [if_pos c16] at H
  obtain ⟨c16b0, c16b1⟩ := et_ c16
  clear c16
  by_cases c17 : (rd t50 x61_12) = (rd t53 x61_12)
  case neg =>
   rw [if_neg c17] at H
   exact absurd H bxka_
  rw [if_pos c17] at H
  obtain ⟨c17b0, c17b1⟩ := et_ c17
  clear c17
  have H' := A0_ H
  clear H
  obtain ⟨Ao6, co6, eo6⟩ := Kd.R_slice HO_9.out
  subst eo6
  try go_wp2
  replace HO_3 := A0_ (rd_ HO_3.out)
  replace HO_9 := A0_ (rd_ HO_9.out)
  replace HO_10 := A0_ (rd_ HO_10.out)
  replace HO_2 := A0_ (rd_ HO_2.out)
  replace HO_5 := A0_ (rd_ HO_5.out)
  replace HO_7 := A0_ (rd_ HO_7.out)
  replace BK1 := A0_ (kd_ BK1.out)
  replace BK2 := A0_ (kd_ BK2.out)
  replace BK3 := A0_ (kd_ BK3.out)
  replace HB := A0_ (bd_ HB.out)
  have p1 : 0 ≤ (x61_12 : Int) := od_ bpil_
  have q1 : x61_12 < (t50.length : Int) := od_ bpil_
  obtain ⟨ad1, e1, hx1_0⟩ := Kd.at_int (rr_ HO_9.out).2.2 x61_12 p1 q1
  cases e1
  replace p1 := eq_true p1
  replace q1 := eq_true q1
  obtain ⟨Ao7, co7, eo7⟩ := Kd.R_slice HO_10.out
  (first | subst eo7 | (injection eo7 with f1_ f2_ f3_; have f4_ := f1_.symm; have f5_ := f3_.symm; clear f1_ f2_ f3_; subst f4_; subst f5_))
  have p2 : 0 ≤ (x61_12 : Int) := od_ bpil_
  have q2 : x61_12 < (t53.length : Int) := od_ bpil_
  obtain ⟨ad2, e2, hx2_0⟩ := Kd.at_int (rr_ HO_10.out).2.2 x61_12 p2 q2
  cases e2
  replace p2 := eq_true p2
  replace q2 := eq_true q2
  obtain ⟨Ao8, co8, eo8⟩ := Kd.R_slice HO_3.out
  (first | subst eo8 | (injection eo8 with f1_ f2_ f3_; have f4_ := f1_.symm; have f5_ := f3_.symm; clear f1_ f2_ f3_; subst f4_; subst f5_))
  have p3 : 0 ≤ (x61_12 : Int) := od_ bpil_
  have q3 : x61_12 < (t19.length : Int) := od_ bpil_
  obtain ⟨ad3, e3, hx3_0⟩ := Kd.at_int (rr_ HO_3.out).2.2 x61_12 p3 q3
  cases e3
  replace p3 := eq_true p3
  replace q3 := eq_true q3
  have p4 : 0 ≤ (x61_12 : Int) := od_ bpil_
  have q4 : x61_12 < (t50.length : Int) := od_ bpil_
  obtain ⟨ad4, e4, hx4_0⟩ := Kd.at_int (rr_ HO_9.out).2.2 x61_12 p4 q4
  obtain rfl : ad1 = ad4 := (by injection e4)
  replace p4 := eq_true p4
  replace q4 := eq_true q4
  have p5 : 0 ≤ (x61_12 : Int) := od_ bpil_
  have q5 : x61_12 < (t53.length : Int) := od_ bpil_
  obtain ⟨ad5, e5, hx5_0⟩ := Kd.at_int (rr_ HO_10.out).2.2 x61_12 p5 q5
  obtain rfl : ad2 = ad5 := (by injection e5)
  replace p5 := eq_true p5
  replace q5 := eq_true q5
  refine start_ (n := 27) (S := fun w' => w'.cell? (ad1.add (x61_12).toNat) = some (.int .i64 (rd t50 x61_12)) ∧ w'.cell? (ad2.add (x61_12).toNat) = some (.int .i64 (rd t53 x61_12)) ∧ w'.cell? (ad3.add (x61_12).toNat) = some (.int .i64 (rd t19 x61_12)) ∧ w'.cell? (ad1.add (x61_12).toNat) = some (.int .i64 (rd t50 x61_12)) ∧ w'.cell? (ad2.add (x61_12).toNat) = some (.int .i64 (rd t53 x61_12))) (ds := []) #[false, false, false, false, false, false, false, false, false, false, false, false, false, false, false, false, false, false, false, false, false, false, false, false, false, false, false] bfqv_ rfl rfl ⟨hx1_0, hx2_0, hx3_0, hx4_0, hx5_0⟩ (fun hHeld => ?_); refine with_tabW laws_FnTheatre.tab70 laws_FnTheatre.bits70 (fun HT_ HW_ => ?_)
  generalize wr.drew = w24 at HO_3 HO_9 HO_10 HO_2 HO_5 HO_7 BK1 BK2 BK3 HB hx1_0 hx2_0 hx3_0 hx4_0 hx5_0 hHeld ⊢
  refine pu_ 0 399 ?_
  refine pu_ 1 400 ?_
  refine pu_ 2 401 ?_
  refine pu_ 4 403 ?_
  refine pu_ 5 404 ?_
  refine pu_ 6 405 ?_
  refine tk_ 3 402 hHeld ?_
  refine tk_ 7 406 hHeld ?_
  refine pu_ 8 407 ?_
  refine pu_ 9 408 ?_
  refine pu_ 10 409 ?_
  refine pu_ 11 410 ?_
  refine pu_ 12 411 ?_
  refine tk_ 13 412 hHeld ?_
  refine pu_ 14 413 ?_
  refine pu_ 15 414 ?_
  refine pu_ 16 415 ?_
  refine pu_ 17 416 ?_
  refine pu_ 18 417 ?_
  refine pu_ 20 419 ?_
  refine pu_ 21 420 ?_
  refine pu_ 22 421 ?_
  refine tk_ 19 418 hHeld ?_
  refine tk_ 23 422 hHeld ?_
  refine pu_ 24 423 ?_
  refine pu_ 25 424 ?_
  refine pu_ 26 425 ?_
  refine dn_ ?_
  try go_wp2
  go_roundg k12
  case measure => have := HJ1.out; have := HJ2.out; have := HJ3.out; have := HJ4.out; have := HJ5.out; have := HJ6.out; have := HJ7.out; have := HJ8.out; have := HJ9.out; have := HJ10.out; have := HJ11.out; have := HK1.out; omega
  exact ⟨(wrap64 (x61_12 + 1)), b2ew_, H', ⟨bwrc_⟩, ⟨bzfm_⟩, ⟨bh09_⟩, ⟨b5l4_⟩, ⟨b7sq_⟩, ⟨bqlr_⟩, ⟨bhm9_⟩, ⟨u1_ BK1⟩, ⟨u1_ BK2⟩, ⟨u1_ BK3⟩, ⟨b850_⟩⟩
 /-- THE ONE PURE STATEMENT of laws_FnTheatre: yours. -/
def laws_FnTheatre.Pure : Prop := ∀ (l0 : List Int), l0.length ≤ maxLen → l0.length * 1 ≤ 140737488351232 → (∀ x ∈ l0, (Lit.int .u8 x).wf = true) → ∃ k, laws_FnTheatre.f k l0 = some true
theorem laws_FnTheatre.walk (P : laws_FnTheatre.Pure) (a0 : Option Addr) (len0 cap0 : Nat) (z0 : List Int) (w : World) (hG : TabOK w) (w0 : (a0 = none ∧ len0 = 0 ∧ cap0 = 0 ∧ z0 = []) ∨ ∃ x, a0 = some x ∧ len0 ≤ cap0 ∧ cap0 ≤ maxLen ∧ z0.length = cap0 ∧ (∀ i, i < z0.length → w.cell? (x.add i) = some (.int .u8 (z0.getD i 0))) ∧ ∀ n ∈ z0, (Lit.int .u8 n).wf = true) (y0 : len0 * 1 ≤ 140737488351232) :
  Calls Tryd.prog 5 #[.slice a0 len0 cap0] w fun e w' => e = .returned (.bool true) ∧ Below w.heap.size w w' := by
 obtain ⟨l0, rfl, hr0, hm0, hw0, hc0⟩ := ReadsInt.ofRowC w0
 obtain ⟨k, h⟩ := P l0 hm0 y0 hw0
 refine (laws_FnTheatre.calls k _ _ l0 true w (Kd.C_of_reads (d := (0 : Int)) (h1 := fun _ => rfl) hr0) hc0 hG h).mono ?_
 rintro e w' ⟨rfl, hd⟩
 exact ⟨rfl, hd⟩

end Go.Proofs.YtohmonfaabofaaaDoor.QFnTheatre
-- packed
-- squeezed
