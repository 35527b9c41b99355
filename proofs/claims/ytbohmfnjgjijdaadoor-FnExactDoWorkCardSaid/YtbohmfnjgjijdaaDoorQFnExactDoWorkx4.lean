-- Written by px.py, a program of this session, over the kit's printer: some functions have a definition and a proof of this session's own.
import Derived.Test.YtbohmfnjgjijdaaDoorQFnExactDoWorkx0
import Derived.Test.YtbohmfnjgjijdaaDoorQFnExactDoWorkx2
import Derived.Test.YtbohmfnjgjijdaaDoorQFnExactDoWorkx3
import Derived.Test.YtbohmfnjgjijdaaDoorQFnExactDoWorkx1
namespace Go.Proofs.YtbohmfnjgjijdaaDoor.QFnExactDoWork
open Go.RowKit Go.Proofs.YtbohmfnjgjijdaaDoorW.PrintWords Go.Proofs.YtbohmfnjgjijdaaDoorW.PrintLast Go.Proofs.YtbohmfnjgjijdaaDoorW.PrintMore
attribute [local go_sem] max2_int min2_int max_two min_two max_three min_three max_four min_four   -- for this text's walks alone
set_option linter.unusedVariables false
set_option linter.unusedSimpArgs false
set_option maxHeartbeats 8000000
set_option maxRecDepth 100000

def impl_DoWork.j0 : Nat → List Int → Bool → Int → Bool → List Int → List Int → Int → Option (Int × Bool × List Int × List Int × Int × Bool)
 | 0, _, _, _, _, _, _, _ => none
 | k + 1, x6, x24, x479000, x479001, x479002, x479003, x479004 => if x24 = true then (some (0, false, ([] : List Int), ([] : List Int), 0, false)) else ((impl_Row_bench.f x479000 x479001 x479002).bind fun bt486 => ((impl_setOf.f k x6).bind fun t488 => ((impl_bench_row.f k bt486.1 bt486.2 t488).bind fun bt489 => (some (bt489.1, bt489.2.1, bt489.2.2, x6, wrap64 (x479004 + 1), true)))))
def impl_DoWork.f (k : Nat) (a0_0 : Int) (a0_1 : Bool) (l0_2 : List Int) (l0_3 : List Int) (a0_4 : Int) (a1_0 : Int) (a1_1 : Int) (a1_2 : Int) : Option (Int × Bool × List Int × List Int × Int × Bool) := (impl_IsHouse.f k a0_0 a0_1 l0_2 l0_3 a0_4).bind fun t481 => (if t481 = true then ((impl_House_guests.f k a0_0 a0_1 l0_2 l0_3 a0_4 a1_0 a1_1 a1_2).bind fun bt482 => (if bt482.2 = true then (impl_DoWork.j0 k bt482.1 (a0_4 == 1000) a0_0 a0_1 l0_2 l0_3 a0_4) else (impl_DoWork.j0 k bt482.1 true a0_0 a0_1 l0_2 l0_3 a0_4))) else (some (0, false, ([] : List Int), ([] : List Int), 0, false)))
theorem impl_DoWork.mono_l : ∀ k, (∀ y0 y1 y2 y3 y4 y5 y6, LeO (impl_DoWork.j0 k y0 y1 y2 y3 y4 y5 y6) (impl_DoWork.j0 (k + 1) y0 y1 y2 y3 y4 y5 y6))
 | 0 => fun _ _ _ _ _ _ _ r h => by simp [impl_DoWork.j0] at h
 | k + 1 => by
  have ih0 := impl_DoWork.mono_l k
  ·intro y0 y1 y2 y3 y4 y5 y6
   unfold impl_DoWork.j0
   repeat' with_reducible first | exact ih0 .. | exact impl_House_guests.mono .. | exact impl_IsHouse.mono .. | exact impl_bench_row.mono .. | exact impl_setOf.mono .. | exact LeO.refl .. | exact LeO.none .. | refine LeO.ite ?_ ?_ | refine LeO.bind ?_ (fun _ => ?_)
theorem impl_DoWork.mono : ∀ a0 a1 a2 a3 a4 a5 a6 a7 k, LeO (impl_DoWork.f k a0 a1 a2 a3 a4 a5 a6 a7) (impl_DoWork.f (k + 1) a0 a1 a2 a3 a4 a5 a6 a7) := by
 intro a0 a1 a2 a3 a4 a5 a6 a7 k
 have ih0 := impl_DoWork.mono_l k
 unfold impl_DoWork.f
 repeat' with_reducible first | exact ih0 .. | exact impl_House_guests.mono .. | exact impl_IsHouse.mono .. | exact impl_bench_row.mono .. | exact impl_setOf.mono .. | exact LeO.refl .. | exact LeO.none .. | refine LeO.ite ?_ ?_ | refine LeO.bind ?_ (fun _ => ?_)
def impl_DoWork.T6 : Bool × List (List Nat × List Nat) := (true, [([], []), ([0], [0]), ([1], [1]), ([], []), ([3, 2], [3]), ([2, 4, 4], [2, 4]), ([], []), ([], []), ([7], [7]), ([8], [8]), ([5, 6, 9], [5, 6, 9]), ([10, 5, 0, 1, 2, 3, 4, 5, 6, 7, 8, 9, 10], [10]), ([11, 0, 1, 2, 3, 4, 5, 6, 7, 8, 9, 10, 11], [])])
def impl_DoWork.B6 : List Nat := [0, 1, 3, 0, 15, 31, 0, 0, 128, 384, 1023, 2047, 4095]
theorem impl_DoWork.tab6 : rtab .any (opsOf Tryd.f21 6) = impl_DoWork.T6 := by kernel_rfl
theorem impl_DoWork.bits6 : waitsOk impl_DoWork.T6.2 impl_DoWork.B6 = true := by kernel_rfl
theorem impl_DoWork.calls (k : Nat) (a0_0 : Int) (a0_1 : Bool) (A0_2 : Option Addr) (c0_2 : Nat) (l0_2 : List Int) (A0_3 : Option Addr) (c0_3 : Nat) (l0_3 : List Int) (a0_4 : Int) (a1_0 : Int) (a1_1 : Int) (a1_2 : Int) (r1 : Int) (r2 : Bool) (r3 : List Int) (r4 : List Int) (r5 : Int) (r6 : Bool) (w : World) (hr0_2 : Kd.C (Kd.int .i64) w A0_2 l0_2.length l0_2) (hc0_2 : l0_2.length ≤ c0_2) (hr0_3 : Kd.C (Kd.int .i64) w A0_3 l0_3.length l0_3) (hc0_3 : l0_3.length ≤ c0_3) (hG : TabOK w) (h : impl_DoWork.f k a0_0 a0_1 l0_2 l0_3 a0_4 a1_0 a1_1 a1_2 = some (r1, r2, r3, r4, r5, r6)) :
  Calls Tryd.prog 21 #[.agg #[.int .i64 a0_0, .bool a0_1, .slice A0_2 l0_2.length c0_2, .slice A0_3 l0_3.length c0_3, .int .i64 a0_4], .agg #[.int .i64 a1_0, .int .i64 a1_1, .int .i64 a1_2]] w fun e w' => ∃ v2_ v3_ : Value, e = .returned (.tuple #[.agg #[.int .i64 r1, .bool r2, v2_, v3_, .int .i64 r5], .bool r6]) ∧ Kd.R (Kd.int .i64) 3 w' w.heap.size (fun k_ => no_ v3_ k_) v2_ r3 ∧ Kd.R (Kd.int .i64) 3 w' w.heap.size (fun k_ => no_ v2_ k_) v3_ r4 ∧ Below w.heap.size w w' := by
 have HG0 := A0_ hG
 clear hG
 have hu26 := Tryd.underlying26
 have hu45 := Tryd.underlying45
 have hu24 := Tryd.underlying24
 have HR0_2 := A0_ hr0_2
 have HC0_2 := A0_ hc0_2
 clear hr0_2 hc0_2
 have HR0_3 := A0_ hr0_3
 have HC0_3 := A0_ hc0_3
 clear hr0_3 hc0_3
 have HB := A0_ (Below.refl w.heap.size w)
 have H : ((impl_IsHouse.f k a0_0 a0_1 l0_2 l0_3 a0_4).bind fun t1 => (if t1 = true then ((impl_House_guests.f k a0_0 a0_1 l0_2 l0_3 a0_4 a1_0 a1_1 a1_2).bind fun bt1 => (if bt1.2 = true then (impl_DoWork.j0 k bt1.1 (a0_4 == 1000) a0_0 a0_1 l0_2 l0_3 a0_4) else (impl_DoWork.j0 k bt1.1 true a0_0 a0_1 l0_2 l0_3 a0_4))) else (some (0, false, ([] : List Int), ([] : List Int), 0, false)))) = some (r1, r2, r3, r4, r5, r6) := h
 clear h
 obtain ⟨t1, A2, H⟩ := o1_ H
 by_cases c1 : t1 = true
 case neg =>
  obtain rfl := bf_.mpr c1
  rw [if_neg ft_] at H
  simp only [sj_, pj_] at H
  obtain ⟨rfl, rfl, rfl, rfl, rfl, rfl⟩ := H
  go_enter Tryd.func21, Tryd.ntmps21
  go_wp2_with (first | ((with_reducible refine gd_ (N := 2) rfl ?_); refine bx_ 2 #[.int .i64 a0_0, .bool a0_1, .slice A0_2 l0_2.length c0_2, .slice A0_3 l0_3.length c0_3, .int .i64 a0_4] 26 ?_; intro gb1 hg w1 BK1 hb; have GW1 := ge_ hg brt4_; have GE1 := GW1; replace HB := hb_ hb brt4_; clear hb hg) | ((with_reducible refine gd_ (N := 3) rfl ?_); refine bx_ 3 #[.int .i64 a1_0, .int .i64 a1_1, .int .i64 a1_2] 45 ?_; intro gb2 hg w2 BK2 hb; have GW2 := ge_ hg be6g_; have GE2 := GW2; replace HB := hb_ hb be6g_; have NB1_2 := nl_ hg BK1; have NB2_1 := ng_ hg BK1; replace BK1 := k1_ BK1 hb; clear hb hg) | ((with_reducible refine gd_ (N := 4) rfl ?_); refine bx_ 4 #[.int .i64 0, .bool false, .slice none 0 0, .slice none 0 0, .int .i64 0] 26 ?_; intro gb3 hg w3 BK3 hb; have GW3 := ge_ hg bfnq_; have GE3 := GW3; replace HB := hb_ hb bfnq_; have NB1_3 := nl_ hg BK1; have NB3_1 := ng_ hg BK1; replace BK1 := k1_ BK1 hb; have NB2_3 := nl_ hg BK2; have NB3_2 := ng_ hg BK2; replace BK2 := k1_ BK2 hb; clear hb hg; have hnb1 := NB1_2.out; have hnc1 := NB2_1.out; have hnb2 := NB1_3.out; have hnc2 := NB3_1.out; have hcz1 := z5_ BK1) | ((with_reducible refine gc_ (f := 43) rfl ?_); refine gl_ 9 Tryd.func43 #[.agg #[.int .i64 a0_0, .bool a0_1, .slice A0_2 l0_2.length c0_2, .slice A0_3 l0_3.length c0_3, .int .i64 a0_4]] ?_; (with_reducible refine (impl_IsHouse.calls k a0_0 a0_1 _ _ l0_2 _ _ l0_3 a0_4 false _ ?side1 ?side2 ?side3 ?side4 A2.out).mono ?_); (case side1 => exact b6n8_); (case side2 => exact HC0_2.out); (case side3 => exact bkan_); (case side4 => exact HC0_3.out); rintro e w4 ⟨rfl, hb⟩; refine ⟨_, rfl, ?_⟩; replace BK1 := k1_ BK1 hb; replace BK2 := k1_ BK2 hb; replace BK3 := k1_ BK3 hb; replace HB := hb_ hb b850_; (try clear hb); have hnb3 := NB3_2.out; have hnc3 := NB2_3.out; have hcz2 := z5_ BK3))
  refine bodyPost_ret (results_ct rfl _ _ gb3 26 #[.int .i64 0, .bool false, .slice none 0 0, .slice none 0 0, .int .i64 0] (0, 0) _ rfl (u1_ BK3) Tryd.underlying26 rfl bfqv_) rfl ?_
  exact ⟨_, _, bnwh_, bwfe_, bwfe_, b850_⟩
 subst c1
 rw [if_pos rfl] at H
 obtain ⟨⟨t2, t3⟩, A4, H⟩ := o1_ H
 have HC6 := A0_ H
 clear H
 go_enter Tryd.func21, Tryd.ntmps21
 go_upto_region 4 with (first | ((with_reducible refine gd_ (N := 2) rfl ?_); refine bx_ 2 #[.int .i64 a0_0, .bool a0_1, .slice A0_2 l0_2.length c0_2, .slice A0_3 l0_3.length c0_3, .int .i64 a0_4] 26 ?_; intro gb1 hg w1 BK1 hb; have GW1 := ge_ hg brt4_; have GE1 := GW1; replace HB := hb_ hb brt4_; clear hb hg) | ((with_reducible refine gd_ (N := 3) rfl ?_); refine bx_ 3 #[.int .i64 a1_0, .int .i64 a1_1, .int .i64 a1_2] 45 ?_; intro gb2 hg w2 BK2 hb; have GW2 := ge_ hg be6g_; have GE2 := GW2; replace HB := hb_ hb be6g_; have NB1_2 := nl_ hg BK1; have NB2_1 := ng_ hg BK1; replace BK1 := k1_ BK1 hb; clear hb hg) | ((with_reducible refine gd_ (N := 4) rfl ?_); refine bx_ 4 #[.int .i64 0, .bool false, .slice none 0 0, .slice none 0 0, .int .i64 0] 26 ?_; intro gb3 hg w3 BK3 hb; have GW3 := ge_ hg bfnq_; have GE3 := GW3; replace HB := hb_ hb bfnq_; have NB1_3 := nl_ hg BK1; have NB3_1 := ng_ hg BK1; replace BK1 := k1_ BK1 hb; have NB2_3 := nl_ hg BK2; have NB3_2 := ng_ hg BK2; replace BK2 := k1_ BK2 hb; clear hb hg; have hnb1 := NB1_2.out; have hnc1 := NB2_1.out; have hnb2 := NB1_3.out; have hnc2 := NB3_1.out; have hcz1 := z5_ BK1) | ((with_reducible refine gc_ (f := 43) rfl ?_); refine gl_ 9 Tryd.func43 #[.agg #[.int .i64 a0_0, .bool a0_1, .slice A0_2 l0_2.length c0_2, .slice A0_3 l0_3.length c0_3, .int .i64 a0_4]] ?_; (with_reducible refine (impl_IsHouse.calls k a0_0 a0_1 _ _ l0_2 _ _ l0_3 a0_4 true _ ?side1 ?side2 ?side3 ?side4 A2.out).mono ?_); (case side1 => exact b6n8_); (case side2 => exact HC0_2.out); (case side3 => exact bkan_); (case side4 => exact HC0_3.out); rintro e w4 ⟨rfl, hb⟩; refine ⟨_, rfl, ?_⟩; replace BK1 := k1_ BK1 hb; replace BK2 := k1_ BK2 hb; replace BK3 := k1_ BK3 hb; replace HB := hb_ hb b850_; (try clear hb); have hcz2 := z5_ BK1; have hnb3 := NB2_3.out; have hnc3 := NB3_2.out; have hcz3_0 : w4.cell? ⟨gb2, 0, none⟩ = some (.int .i64 a1_0) := (kc_ BK2.out 0).trans rfl; have hcz3_1 : w4.cell? ⟨gb2, 1, none⟩ = some (.int .i64 a1_1) := (kc_ BK2.out 1).trans rfl; have hcz3_2 : w4.cell? ⟨gb2, 2, none⟩ = some (.int .i64 a1_2) := (kc_ BK2.out 2).trans rfl; have hfz3_0 := kf_ BK2.out 0; have hfz3_1 := kf_ BK2.out 1; have hfz3_2 := kf_ BK2.out 2) | ((with_reducible refine gc_ (f := 49) rfl ?_); refine gl_ 15 Tryd.func49 #[.agg #[.int .i64 a0_0, .bool a0_1, .slice A0_2 l0_2.length c0_2, .slice A0_3 l0_3.length c0_3, .int .i64 a0_4], .agg #[.int .i64 a1_0, .int .i64 a1_1, .int .i64 a1_2]] ?_; (with_reducible refine (impl_House_guests.calls k a0_0 a0_1 _ _ l0_2 _ _ l0_3 a0_4 a1_0 a1_1 a1_2 t2 t3 _ ?side1 ?side2 ?side3 ?side4 bpiy_ A4.out).mono ?_); (case side1 => exact b6n8_); (case side2 => exact HC0_2.out); (case side3 => exact bkan_); (case side4 => exact HC0_3.out); rintro e w5 ⟨v1, rfl, ho0, hb⟩; refine ⟨_, rfl, ?_⟩; have HO1 := A0_ (Kd.R_lower ho0 (bz_ b850_)); replace BK1 := k1_ BK1 hb; replace BK2 := k1_ BK2 hb; replace BK3 := k1_ BK3 hb; replace HB := hb_ hb b850_; (try clear hb); (try clear ho0)))
 (try simp only [Act.put, sa_, sz_, ss_])
 go_cut [24] (fun v4 wc => ∃ (kq : Nat) (x24_5 : Bool), v4 = .bool x24_5 ∧ Aside0 (impl_DoWork.j0 kq t2 x24_5 a0_0 a0_1 l0_2 l0_3 a0_4 = some (r1, r2, r3, r4, r5, r6)) ∧ Aside0 (kq ≤ k) ∧ Aside0 (Kd.R (Kd.int .i64) 3 wc w.heap.size (fun _ => True) v1 t2) ∧ Aside0 (wc.heap[gb1]? = some (.cells #[.int .i64 a0_0, .bool a0_1, (.slice A0_2 l0_2.length c0_2), (.slice A0_3 l0_3.length c0_3), .int .i64 a0_4] 26 (0, 0))) ∧ Aside0 (wc.heap[gb2]? = some (.cells #[.int .i64 a1_0, .int .i64 a1_1, .int .i64 a1_2] 45 (0, 0))) ∧ Aside0 (wc.heap[gb3]? = some (.cells #[.int .i64 0, .bool false, (.slice none 0 0), (.slice none 0 0), .int .i64 0] 26 (0, 0))) ∧ Aside0 (Below w.heap.size w wc))
 case first =>
  have H := HC6.out
  clear HC6
  by_cases c2 : t3 = true
  case neg =>
   obtain rfl := bf_.mpr c2
   rw [if_neg ft_] at H
   have H' := A0_ H
   clear H
   go_wp2
   go_meet
   exact ⟨_, (true), b2ew_, H', ⟨bbn0_⟩, ⟨bsm5_⟩, ⟨u1_ BK1⟩, ⟨u1_ BK2⟩, ⟨u1_ BK3⟩, ⟨b850_⟩⟩
  subst c2
  rw [if_pos rfl] at H
  have H' := A0_ H
  clear H
  have hnb4 := NB1_2.out
  have hnc4 := NB2_1.out
  have hnb5 := NB1_3.out
  have hnc5 := NB3_1.out
  have hcz4 := z5_ BK1
  go_wp2
  go_meet
  exact ⟨_, ((a0_4 == 1000)), b2ew_, H', ⟨bbn0_⟩, ⟨bsm5_⟩, ⟨u1_ BK1⟩, ⟨u1_ BK2⟩, ⟨u1_ BK3⟩, ⟨b850_⟩⟩
 clear HC6
 try clear c1
 (try clear hcz1); (try clear hcz2); (try clear hcz3); (try clear hfz1); (try clear hfz2); (try clear hfz3)
 obtain ⟨kq, x24_5, rfl, HA, HJ1, HO_1, BK1, BK2, BK3, HB⟩ := hcut
 cases kq with | zero => exact absurd HA.out (by simp [impl_DoWork.j0]) | succ kj1 => ?_
 have H := HA.out
 clear HA
 simp only [impl_DoWork.j0] at H
 by_cases c2 : x24_5 = true
 ·subst c2
  rw [if_pos rfl] at H
  simp only [sj_, pj_] at H
  obtain ⟨rfl, rfl, rfl, rfl, rfl, rfl⟩ := H
  have hnb4 := NB3_1.out
  have hnc4 := NB1_3.out
  have hnb5 := NB3_2.out
  have hnc5 := NB2_3.out
  have hcz4 := z5_ BK3
  go_wp2
  refine bodyPost_ret (results_ct rfl _ _ gb3 26 #[.int .i64 0, .bool false, .slice none 0 0, .slice none 0 0, .int .i64 0] (0, 0) _ rfl (u1_ BK3) Tryd.underlying26 rfl bfqv_) rfl ?_
  exact ⟨_, _, bnwh_, bwfe_, bwfe_, b850_⟩
 obtain rfl := bf_.mpr c2
 rw [if_neg ft_] at H
 obtain ⟨⟨t4, t5⟩, A6, H⟩ := o1_ H
 obtain ⟨t6, A8, H⟩ := o1_ H
 obtain ⟨⟨t7, t8, t9⟩, A10, H⟩ := o1_ H
 replace H : (some (t7, t8, t9, t2, wrap64 (a0_4 + 1), true)) = some (r1, r2, r3, r4, r5, r6) := H
 simp only [sj_, pj_] at H
 obtain ⟨rfl, rfl, rfl, rfl, rfl, rfl⟩ := H
 try go_wp2
 replace HO_1 := A0_ (rd_ HO_1.out)
 replace BK1 := A0_ (kd_ BK1.out)
 replace BK2 := A0_ (kd_ BK2.out)
 replace BK3 := A0_ (kd_ BK3.out)
 replace HB := A0_ (bd_ HB.out)
 refine s5_ 13 [] BK1 impl_DoWork.tab6 impl_DoWork.bits6 (fun hHeld HT_ HW_ => ?_)
 generalize wc.drew = w6 at HO_1 BK1 BK2 BK3 HB hHeld ⊢
 refine pu_ 0 26 ?_
 refine pu_ 3 29 ?_
 refine pu_ 6 32 ?_
 refine pu_ 7 33 ?_
 refine tk_ 1 27 hHeld ?_
 refine tk_ 8 34 hHeld ?_
 refine pu_ 9 35 ?_
 refine on_ 2 (some 28) (fun K hK => ?_)
 refine gs_ Tryd.func44 #[.agg #[.int .i64 a0_0, .bool a0_1, .slice A0_2 l0_2.length c0_2]] ?_
 with_reducible refine (impl_Row_bench.calls a0_0 a0_1 _ _ l0_2 t4 t5 _ ?side1 ?side2 A6.out).mono ?_
 (case side1 => exact b6n8_)
 (case side2 => exact HC0_2.out)
 rintro e w7 ⟨rfl, hb⟩
 refine ⟨_, rfl, ?_⟩
 replace HO_1 := A0_ (Kd.R_below bwik_ hb)
 replace BK1 := k1_ BK1 hb
 replace BK2 := k1_ BK2 hb
 replace BK3 := k1_ BK3 hb
 replace HB := hb_ hb b850_
 (try clear hb)
 obtain ⟨Ao1, co1, eo1⟩ := Kd.R_slice HO_1.out
 (first | subst eo1 | (injection eo1 with f1_ f2_ f3_; have f4_ := f1_.symm; have f5_ := f3_.symm; clear f1_ f2_ f3_; subst f4_; subst f5_))
 refine hK.out _ _ (c5_ BK1) (fun hHeld => ?_)
 clear hK K
 refine nm_ 28 ?_
 refine on_ 4 (some 30) (fun K hK => ?_)
 refine gs_ Tryd.func46 #[.slice Ao1 t2.length co1] ?_
 with_reducible refine (impl_setOf.calls kj1 _ _ t2 t6 _ ?side1 ?side2 A8.out).mono ?_
 (case side1 => exact btcf_)
 (case side2 => exact (rr_ HO_1.out).2.1)
 rintro e w' ⟨rfl, ⟨nd, rfl⟩⟩
 refine ⟨_, rfl, ?_⟩
 refine hK.out _ _ (c5_ BK1) (fun hHeld => ?_)
 clear hK K
 refine nm_ 30 ?_
 refine on_ 5 (some 31) (fun K hK => ?_)
 refine gs_ Tryd.func34 #[.agg #[.int .i64 t4, .bool t5], .int .u32 t6] ?_
 with_reducible refine (impl_bench_row.calls kj1 t4 t5 t6 t7 t8 t9 _ bpiy_ A10.out).mono ?_
 rintro e w8 ⟨v5, rfl, ho0, hb⟩
 refine ⟨_, rfl, ?_⟩
 have HO2 := A0_ (Kd.R_lower (Kd.R_new' ho0 (Kd.R_lt bwik_)) (bz_ b850_))
 replace HO_1 := A0_ (Kd.R_elder' bwik_ (Kd.R_base ho0) hb)
 replace BK1 := k1_ BK1 hb
 replace BK2 := k1_ BK2 hb
 replace BK3 := k1_ BK3 hb
 replace HB := hb_ hb b850_
 (try clear hb); (try clear ho0)
 obtain ⟨Ao2, co2, eo2⟩ := Kd.R_slice HO2.out
 (first | subst eo2 | (injection eo2 with f1_ f2_ f3_; have f4_ := f1_.symm; have f5_ := f3_.symm; clear f1_ f2_ f3_; subst f4_; subst f5_))
 refine hK.out _ _ (c5_ BK1) (fun hHeld => ?_)
 clear hK K
 refine nm_ 31 ?_
 refine pu_ 10 36 ?_
 refine on_ 11 none (fun K hK => ?_)
 have hs34 : w8.cell? ⟨gb3, 0, none⟩ = some (.int .i64 0) := (kc_ BK3.out 0).trans rfl
 have hfs34 := kf_ BK3.out 0
 have hns1_0 := NB1_3.out
 have hns1_1 := NB2_3.out
 have hms1_0 := NB3_1.out
 have hms1_1 := NB3_2.out
 have hs35 : w8.cell? ⟨gb3, 1, none⟩ = some (.bool false) := (kc_ BK3.out 1).trans rfl
 have hfs35 := kf_ BK3.out 1
 have hns2_0 := NB1_3.out
 have hns2_1 := NB2_3.out
 have hms2_0 := NB3_1.out
 have hms2_1 := NB3_2.out
 have hs36 : w8.cell? ⟨gb3, 2, none⟩ = some (.slice none 0 0) := (kc_ BK3.out 2).trans rfl
 have hfs36 := kf_ BK3.out 2
 have hns3_0 := NB1_3.out
 have hns3_1 := NB2_3.out
 have hms3_0 := NB3_1.out
 have hms3_1 := NB3_2.out
 have hs37 : w8.cell? ⟨gb3, 3, none⟩ = some (.slice none 0 0) := (kc_ BK3.out 3).trans rfl
 have hfs37 := kf_ BK3.out 3
 have hns4_0 := NB1_3.out
 have hns4_1 := NB2_3.out
 have hms4_0 := NB3_1.out
 have hms4_1 := NB3_2.out
 have hs38 : w8.cell? ⟨gb3, 4, none⟩ = some (.int .i64 0) := (kc_ BK3.out 4).trans rfl
 have hfs38 := kf_ BK3.out 4
 have hns5_0 := NB1_3.out
 have hns5_1 := NB2_3.out
 have hms5_0 := NB3_1.out
 have hms5_1 := NB3_2.out
 refine skip_ (w1 := ?_) (by rfl) rfl ?_ ?_
 rotate_left
 ·go_simp
  rfl
 refine hK.out _ _ ⟨((cell_far (p := ⟨gb3, _, none⟩) NB1_3.out _).trans (((cell_far (p := ⟨gb3, _, none⟩) NB1_3.out _).trans (((cell_far (p := ⟨gb3, _, none⟩) NB1_3.out _).trans (((cell_far (p := ⟨gb3, _, none⟩) NB1_3.out _).trans (((cell_far (p := ⟨gb3, _, none⟩) NB1_3.out _).trans (hHeld.1)))))))))), ((cell_far (p := ⟨gb3, _, none⟩) NB1_3.out _).trans (((cell_far (p := ⟨gb3, _, none⟩) NB1_3.out _).trans (((cell_far (p := ⟨gb3, _, none⟩) NB1_3.out _).trans (((cell_far (p := ⟨gb3, _, none⟩) NB1_3.out _).trans (((cell_far (p := ⟨gb3, _, none⟩) NB1_3.out _).trans (hHeld.2.1)))))))))), ((cell_far (p := ⟨gb3, _, none⟩) NB1_3.out _).trans (((cell_far (p := ⟨gb3, _, none⟩) NB1_3.out _).trans (((cell_far (p := ⟨gb3, _, none⟩) NB1_3.out _).trans (((cell_far (p := ⟨gb3, _, none⟩) NB1_3.out _).trans (((cell_far (p := ⟨gb3, _, none⟩) NB1_3.out _).trans (hHeld.2.2.1)))))))))), ((cell_far (p := ⟨gb3, _, none⟩) NB1_3.out _).trans (((cell_far (p := ⟨gb3, _, none⟩) NB1_3.out _).trans (((cell_far (p := ⟨gb3, _, none⟩) NB1_3.out _).trans (((cell_far (p := ⟨gb3, _, none⟩) NB1_3.out _).trans (((cell_far (p := ⟨gb3, _, none⟩) NB1_3.out _).trans (hHeld.2.2.2.1)))))))))), ((cell_far (p := ⟨gb3, _, none⟩) NB1_3.out _).trans (((cell_far (p := ⟨gb3, _, none⟩) NB1_3.out _).trans (((cell_far (p := ⟨gb3, _, none⟩) NB1_3.out _).trans (((cell_far (p := ⟨gb3, _, none⟩) NB1_3.out _).trans (((cell_far (p := ⟨gb3, _, none⟩) NB1_3.out _).trans (hHeld.2.2.2.2))))))))))⟩ (fun hHeld => ?_)
 clear hK K
 refine pu_ 12 5 ?_
 refine dn_ ?_
 try go_wp2
 refine bodyPost_ret (results_ct rfl _ _ gb3 26 #[.int .i64 t7, .bool t8, .slice Ao2 t9.length co2, .slice Ao1 t2.length co1, .int .i64 (wrap64 (a0_4 + 1))] (0, 0) _ rfl (u1_ BK3) Tryd.underlying26 rfl bfqv_) rfl ?_
 exact ⟨_, _, bnwh_, by (with_reducible repeat (first | apply ra_ | apply rn_ | apply rd_)); exact Kd.R_mono (rf_ (rf_ (rf_ (rf_ (rf_ (Kd.R_types HO2.out BK3.out bi3y_) k2_0 _) k2_0 _) k2_0 _) k2_0 _) (fun _ hk => hk.2) (.int .i64 (wrap64 (a0_4 + 1)))) (fun _ hk => hk.1.2), by (with_reducible repeat (first | apply ra_ | apply rn_ | apply rd_)); exact Kd.R_mono (rf_ (rf_ (rf_ (rf_ (rf_ (Kd.R_types HO_1.out BK3.out bi3y_) k2_0 _) k2_0 _) k2_0 _) k2_0 _) (fun _ hk => hk.2) (.int .i64 (wrap64 (a0_4 + 1)))) (fun _ hk => hk.1.2), b850_⟩

mutual
def laws_FnExactDoWork.j0 : Nat → Bool → Bool → Bool → Int → Bool → List Int → List Int → Int → Int → Int → Int → Int → Bool → List Int → List Int → Int → Int → Bool → List Int → List Int → Int → Int → Bool → List Int → List Int → Int → Option (Bool)
 | 0, _, _, _, _, _, _, _, _, _, _, _, _, _, _, _, _, _, _, _, _, _, _, _, _, _, _ => none
 | k + 1, x7, x10, x46, x495000, x495001, x495002, x495003, x495004, x496000, x496001, x496002, x520000, x520001, x520002, x520003, x520004, x530000, x530001, x530002, x530003, x530004, x544000, x544001, x544002, x544003, x544004 => if x46 = true then (some false) else ((laws_toHouse.f k x495000 x495001 x495002 x495003 x495004).bind fun bt545 => ((laws_eqHouse.f k x530000 x530001 x530002 x530003 x530004 bt545.1 bt545.2.1 bt545.2.2.1 bt545.2.2.2.1 bt545.2.2.2.2).bind fun t554 => (if t554 = true then ((laws_markHouse.f k x530000 x530001 x530002 x530003 x530004 1).bind fun bt555 => (if bt555.1 < 0 then (laws_FnExactDoWork.j1 k x7 true x495000 x495001 x495002 x495003 x495004 x496000 x496001 x496002 x520000 x520001 x520002 x520003 x520004 x544000 x544001 x544002 x544003 x544004) else ((laws_eqHouse.f k x544000 x544001 x544002 x544003 x544004 x520000 x520001 x520002 x520003 x520004).bind fun t558 => (if t558 = true then (laws_FnExactDoWork.j1 k x7 (x10 != x7) x495000 x495001 x495002 x495003 x495004 x496000 x496001 x496002 x520000 x520001 x520002 x520003 x520004 x544000 x544001 x544002 x544003 x544004) else (laws_FnExactDoWork.j1 k x7 true x495000 x495001 x495002 x495003 x495004 x496000 x496001 x496002 x520000 x520001 x520002 x520003 x520004 x544000 x544001 x544002 x544003 x544004))))) else (some false))))
def laws_FnExactDoWork.j1 : Nat → Bool → Bool → Int → Bool → List Int → List Int → Int → Int → Int → Int → Int → Bool → List Int → List Int → Int → Int → Bool → List Int → List Int → Int → Option (Bool)
 | 0, _, _, _, _, _, _, _, _, _, _, _, _, _, _, _, _, _, _, _, _ => none
 | k + 1, x7, x67, x495000, x495001, x495002, x495003, x495004, x496000, x496001, x496002, x520000, x520001, x520002, x520003, x520004, x544000, x544001, x544002, x544003, x544004 => if x67 = true then (some false) else ((laws_markHouse.f k x544000 x544001 x544002 x544003 x544004 1).bind fun bt559 => ((laws_heldHouse.f k x544000 x544001 bt559.2.1 bt559.2.2 x544004 1).bind fun t562 => (if t562 < 0 then (some false) else (if t562 = bt559.1 then ((laws_toHouse.f k x495000 x495001 x495002 x495003 x495004).bind fun bt563 => ((laws_toWork.f x496000 x496001 x496002).bind fun bt572 => ((impl_DoWork.f k bt563.1 bt563.2.1 bt563.2.2.1 bt563.2.2.2.1 bt563.2.2.2.2 bt572.1 bt572.2.1 bt572.2.2).bind fun bt575 => ((laws_eqHouse.f k bt575.1 bt575.2.1 bt575.2.2.1 bt575.2.2.2.1 bt575.2.2.2.2.1 x520000 x520001 x520002 x520003 x520004).bind fun t586 => (if t586 = true then (laws_FnExactDoWork.j2 k bt559.1 (bt575.2.2.2.2.2 != x7) x544000 x544001 bt559.2.1 bt559.2.2 x544004) else (laws_FnExactDoWork.j2 k bt559.1 true x544000 x544001 bt559.2.1 bt559.2.2 x544004)))))) else (some false)))))
def laws_FnExactDoWork.j2 : Nat → Int → Bool → Int → Bool → List Int → List Int → Int → Option (Bool)
 | 0, _, _, _, _, _, _, _ => none
 | k + 1, x12, x95, x544000, x544001, x544002, x544003, x544004 => if x95 = true then (some false) else ((laws_heldHouse.f k x544000 x544001 x544002 x544003 x544004 1).bind fun t587 => (if t587 < 0 then (some false) else (if t587 = x12 then (some true) else (some false))))
end
def laws_FnExactDoWork.f (k : Nat) (a0_0 : Int) (a0_1 : Bool) (l0_2 : List Int) (l0_3 : List Int) (a0_4 : Int) (a1_0 : Int) (a1_1 : Int) (a1_2 : Int) : Option (Bool) := (laws_szHouse.f a0_0 a0_1 l0_2 l0_3 a0_4 1048576).bind fun t496 => (if t496 < 0 then (some true) else ((laws_toHouse.f k a0_0 a0_1 l0_2 l0_3 a0_4).bind fun bt497 => ((laws_toWork.f a1_0 a1_1 a1_2).bind fun bt506 => ((spec_DoWork.f k bt497.1 bt497.2.1 bt497.2.2.1 bt497.2.2.2.1 bt497.2.2.2.2 bt506.1 bt506.2.1 bt506.2.2).bind fun bt509 => ((laws_toHouse.f k a0_0 a0_1 l0_2 l0_3 a0_4).bind fun bt520 => ((laws_toWork.f a1_0 a1_1 a1_2).bind fun bt530 => ((impl_DoWork.f k bt520.1 bt520.2.1 bt520.2.2.1 bt520.2.2.2.1 bt520.2.2.2.2 bt530.1 bt530.2.1 bt530.2.2).bind fun bt533 => ((laws_eqHouse.f k bt533.1 bt533.2.1 bt533.2.2.1 bt533.2.2.2.1 bt533.2.2.2.2.1 bt509.1 bt509.2.1 bt509.2.2.1 bt509.2.2.2.1 bt509.2.2.2.2.1).bind fun t544 => (if t544 = true then (laws_FnExactDoWork.j0 k bt509.2.2.2.2.2 bt533.2.2.2.2.2 (bt533.2.2.2.2.2 != bt509.2.2.2.2.2) a0_0 a0_1 l0_2 l0_3 a0_4 a1_0 a1_1 a1_2 bt509.1 bt509.2.1 bt509.2.2.1 bt509.2.2.2.1 bt509.2.2.2.2.1 bt520.1 bt520.2.1 bt520.2.2.1 bt520.2.2.2.1 bt520.2.2.2.2 bt533.1 bt533.2.1 bt533.2.2.1 bt533.2.2.2.1 bt533.2.2.2.2.1) else (laws_FnExactDoWork.j0 k bt509.2.2.2.2.2 bt533.2.2.2.2.2 true a0_0 a0_1 l0_2 l0_3 a0_4 a1_0 a1_1 a1_2 bt509.1 bt509.2.1 bt509.2.2.1 bt509.2.2.2.1 bt509.2.2.2.2.1 bt520.1 bt520.2.1 bt520.2.2.1 bt520.2.2.2.1 bt520.2.2.2.2 bt533.1 bt533.2.1 bt533.2.2.1 bt533.2.2.2.1 bt533.2.2.2.2.1))))))))))
theorem laws_FnExactDoWork.mono_l : ∀ k, (∀ y0 y1 y2 y3 y4 y5 y6 y7 y8 y9 y10 y11 y12 y13 y14 y15 y16 y17 y18 y19 y20 y21 y22 y23 y24 y25, LeO (laws_FnExactDoWork.j0 k y0 y1 y2 y3 y4 y5 y6 y7 y8 y9 y10 y11 y12 y13 y14 y15 y16 y17 y18 y19 y20 y21 y22 y23 y24 y25) (laws_FnExactDoWork.j0 (k + 1) y0 y1 y2 y3 y4 y5 y6 y7 y8 y9 y10 y11 y12 y13 y14 y15 y16 y17 y18 y19 y20 y21 y22 y23 y24 y25)) ∧ (∀ y0 y1 y2 y3 y4 y5 y6 y7 y8 y9 y10 y11 y12 y13 y14 y15 y16 y17 y18 y19, LeO (laws_FnExactDoWork.j1 k y0 y1 y2 y3 y4 y5 y6 y7 y8 y9 y10 y11 y12 y13 y14 y15 y16 y17 y18 y19) (laws_FnExactDoWork.j1 (k + 1) y0 y1 y2 y3 y4 y5 y6 y7 y8 y9 y10 y11 y12 y13 y14 y15 y16 y17 y18 y19)) ∧ (∀ y0 y1 y2 y3 y4 y5 y6, LeO (laws_FnExactDoWork.j2 k y0 y1 y2 y3 y4 y5 y6) (laws_FnExactDoWork.j2 (k + 1) y0 y1 y2 y3 y4 y5 y6))
 | 0 => ⟨fun _ _ _ _ _ _ _ _ _ _ _ _ _ _ _ _ _ _ _ _ _ _ _ _ _ _ r h => by simp [laws_FnExactDoWork.j0] at h, fun _ _ _ _ _ _ _ _ _ _ _ _ _ _ _ _ _ _ _ _ r h => by simp [laws_FnExactDoWork.j1] at h, fun _ _ _ _ _ _ _ r h => by simp [laws_FnExactDoWork.j2] at h⟩
 | k + 1 => by
  obtain ⟨ih0, ih1, ih2⟩ := laws_FnExactDoWork.mono_l k
  refine ⟨?_, ?_, ?_⟩
  ·intro y0 y1 y2 y3 y4 y5 y6 y7 y8 y9 y10 y11 y12 y13 y14 y15 y16 y17 y18 y19 y20 y21 y22 y23 y24 y25
   unfold laws_FnExactDoWork.j0
   repeat' with_reducible first | exact ih0 .. | exact ih1 .. | exact ih2 .. | exact impl_DoWork.mono .. | exact laws_eqHouse.mono .. | exact laws_heldHouse.mono .. | exact laws_markHouse.mono .. | exact laws_toHouse.mono .. | exact spec_DoWork.mono .. | exact LeO.refl .. | exact LeO.none .. | refine LeO.ite ?_ ?_ | refine LeO.bind ?_ (fun _ => ?_)
  ·intro y0 y1 y2 y3 y4 y5 y6 y7 y8 y9 y10 y11 y12 y13 y14 y15 y16 y17 y18 y19
   unfold laws_FnExactDoWork.j1
   repeat' with_reducible first | exact ih0 .. | exact ih1 .. | exact ih2 .. | exact impl_DoWork.mono .. | exact laws_eqHouse.mono .. | exact laws_heldHouse.mono .. | exact laws_markHouse.mono .. | exact laws_toHouse.mono .. | exact spec_DoWork.mono .. | exact LeO.refl .. | exact LeO.none .. | refine LeO.ite ?_ ?_ | refine LeO.bind ?_ (fun _ => ?_)
  ·intro y0 y1 y2 y3 y4 y5 y6
   unfold laws_FnExactDoWork.j2
   repeat' with_reducible first | exact ih0 .. | exact ih1 .. | exact ih2 .. | exact impl_DoWork.mono .. | exact laws_eqHouse.mono .. | exact laws_heldHouse.mono .. | exact laws_markHouse.mono .. | exact laws_toHouse.mono .. | exact spec_DoWork.mono .. | exact LeO.refl .. | exact LeO.none .. | refine LeO.ite ?_ ?_ | refine LeO.bind ?_ (fun _ => ?_)
theorem laws_FnExactDoWork.mono : ∀ a0 a1 a2 a3 a4 a5 a6 a7 k, LeO (laws_FnExactDoWork.f k a0 a1 a2 a3 a4 a5 a6 a7) (laws_FnExactDoWork.f (k + 1) a0 a1 a2 a3 a4 a5 a6 a7) := by
 intro a0 a1 a2 a3 a4 a5 a6 a7 k
 obtain ⟨ih0, ih1, ih2⟩ := laws_FnExactDoWork.mono_l k
 unfold laws_FnExactDoWork.f
 repeat' with_reducible first | exact ih0 .. | exact ih1 .. | exact ih2 .. | exact impl_DoWork.mono .. | exact laws_eqHouse.mono .. | exact laws_heldHouse.mono .. | exact laws_markHouse.mono .. | exact laws_toHouse.mono .. | exact spec_DoWork.mono .. | exact LeO.refl .. | exact LeO.none .. | refine LeO.ite ?_ ?_ | refine LeO.bind ?_ (fun _ => ?_)
def laws_FnExactDoWork.T5 : Bool × List (List Nat × List Nat) := (true, [([], []), ([0], [0]), ([], []), ([2, 1], [2]), ([1, 3, 3], [1, 3]), ([4], [4]), ([5], [5]), ([5], [5]), ([], []), ([8, 6, 4, 0, 1, 2, 3, 4, 5, 6, 8], [6, 8]), ([7, 9, 0, 1, 2, 3, 4, 5, 6, 7, 8, 9], [7])])
def laws_FnExactDoWork.B5 : List Nat := [0, 1, 0, 7, 15, 31, 63, 63, 0, 383, 1023]
theorem laws_FnExactDoWork.tab5 : rtab .any (opsOf Tryd.f5 5) = laws_FnExactDoWork.T5 := by kernel_rfl
theorem laws_FnExactDoWork.bits5 : waitsOk laws_FnExactDoWork.T5.2 laws_FnExactDoWork.B5 = true := by kernel_rfl
def laws_FnExactDoWork.T7 : Bool × List (List Nat × List Nat) := (true, [([], []), ([], []), ([1], [1]), ([0, 2, 2], [0, 2]), ([3], [3]), ([4], [4]), ([4], [4]), ([], []), ([7, 5, 3, 0, 1, 2, 3, 4, 5, 7], [5, 7]), ([6, 8, 0, 1, 2, 3, 4, 5, 6, 7, 8], [6])])
def laws_FnExactDoWork.B7 : List Nat := [0, 0, 2, 7, 15, 31, 31, 0, 191, 511]
theorem laws_FnExactDoWork.tab7 : rtab .any (opsOf Tryd.f5 7) = laws_FnExactDoWork.T7 := by kernel_rfl
theorem laws_FnExactDoWork.bits7 : waitsOk laws_FnExactDoWork.T7.2 laws_FnExactDoWork.B7 = true := by kernel_rfl
def laws_FnExactDoWork.T24 : Bool × List (List Nat × List Nat) := (true, [([], []), ([0], [0]), ([], []), ([2, 1], [2]), ([1, 3, 3], [1, 3]), ([4], [4]), ([5], [5]), ([5], [5]), ([], []), ([8, 6, 4, 0, 1, 2, 3, 4, 5, 6, 8], [6, 8]), ([7, 9, 0, 1, 2, 3, 4, 5, 6, 7, 8, 9], [7])])
def laws_FnExactDoWork.B24 : List Nat := [0, 1, 0, 7, 15, 31, 63, 63, 0, 383, 1023]
theorem laws_FnExactDoWork.tab24 : rtab .any (opsOf Tryd.f5 24) = laws_FnExactDoWork.T24 := by kernel_rfl
theorem laws_FnExactDoWork.bits24 : waitsOk laws_FnExactDoWork.T24.2 laws_FnExactDoWork.B24 = true := by kernel_rfl
theorem laws_FnExactDoWork.calls (k : Nat) (a0_0 : Int) (a0_1 : Bool) (A0_2 : Option Addr) (c0_2 : Nat) (l0_2 : List Int) (A0_3 : Option Addr) (c0_3 : Nat) (l0_3 : List Int) (a0_4 : Int) (a1_0 : Int) (a1_1 : Int) (a1_2 : Int) (r : Bool) (w : World) (hr0_2 : Kd.C (Kd.int .i64) w A0_2 l0_2.length l0_2) (hc0_2 : l0_2.length ≤ c0_2) (hr0_3 : Kd.C (Kd.int .i64) w A0_3 l0_3.length l0_3) (hc0_3 : l0_3.length ≤ c0_3) (hG : TabOK w) (h : laws_FnExactDoWork.f k a0_0 a0_1 l0_2 l0_3 a0_4 a1_0 a1_1 a1_2 = some r) :
  Calls Tryd.prog 5 #[.agg #[.int .i64 a0_0, .bool a0_1, .slice A0_2 l0_2.length c0_2, .slice A0_3 l0_3.length c0_3, .int .i64 a0_4], .agg #[.int .i64 a1_0, .int .i64 a1_1, .int .i64 a1_2]] w fun e w' => e = .returned (.bool r) ∧ Below w.heap.size w w' := by
 have HG0 := A0_ hG
 clear hG
 have hu34 := Tryd.underlying34
 have hu43 := Tryd.underlying43
 have hu26 := Tryd.underlying26
 have HR0_2 := A0_ hr0_2
 have HC0_2 := A0_ hc0_2
 clear hr0_2 hc0_2
 have HR0_3 := A0_ hr0_3
 have HC0_3 := A0_ hc0_3
 clear hr0_3 hc0_3
 have HB := A0_ (Below.refl w.heap.size w)
 have H : ((laws_szHouse.f a0_0 a0_1 l0_2 l0_3 a0_4 1048576).bind fun t1 => (if t1 < 0 then (some true) else ((laws_toHouse.f k a0_0 a0_1 l0_2 l0_3 a0_4).bind fun bt1 => ((laws_toWork.f a1_0 a1_1 a1_2).bind fun bt2 => ((spec_DoWork.f k bt1.1 bt1.2.1 bt1.2.2.1 bt1.2.2.2.1 bt1.2.2.2.2 bt2.1 bt2.2.1 bt2.2.2).bind fun bt3 => ((laws_toHouse.f k a0_0 a0_1 l0_2 l0_3 a0_4).bind fun bt4 => ((laws_toWork.f a1_0 a1_1 a1_2).bind fun bt5 => ((impl_DoWork.f k bt4.1 bt4.2.1 bt4.2.2.1 bt4.2.2.2.1 bt4.2.2.2.2 bt5.1 bt5.2.1 bt5.2.2).bind fun bt6 => ((laws_eqHouse.f k bt6.1 bt6.2.1 bt6.2.2.1 bt6.2.2.2.1 bt6.2.2.2.2.1 bt3.1 bt3.2.1 bt3.2.2.1 bt3.2.2.2.1 bt3.2.2.2.2.1).bind fun t2 => (if t2 = true then (laws_FnExactDoWork.j0 k bt3.2.2.2.2.2 bt6.2.2.2.2.2 (bt6.2.2.2.2.2 != bt3.2.2.2.2.2) a0_0 a0_1 l0_2 l0_3 a0_4 a1_0 a1_1 a1_2 bt3.1 bt3.2.1 bt3.2.2.1 bt3.2.2.2.1 bt3.2.2.2.2.1 bt4.1 bt4.2.1 bt4.2.2.1 bt4.2.2.2.1 bt4.2.2.2.2 bt6.1 bt6.2.1 bt6.2.2.1 bt6.2.2.2.1 bt6.2.2.2.2.1) else (laws_FnExactDoWork.j0 k bt3.2.2.2.2.2 bt6.2.2.2.2.2 true a0_0 a0_1 l0_2 l0_3 a0_4 a1_0 a1_1 a1_2 bt3.1 bt3.2.1 bt3.2.2.1 bt3.2.2.2.1 bt3.2.2.2.2.1 bt4.1 bt4.2.1 bt4.2.2.1 bt4.2.2.2.1 bt4.2.2.2.2 bt6.1 bt6.2.1 bt6.2.2.1 bt6.2.2.2.1 bt6.2.2.2.2.1))))))))))) = some r := h
 clear h
 obtain ⟨t1, A2, H⟩ := o1_ H
 by_cases c1 : t1 < 0
 ·rw [if_pos c1] at H
  have c1b0 : decide (t1 < 0) = true := dt_ c1
  clear c1
  obtain rfl := si_ H
  go_enter Tryd.func5, Tryd.ntmps5
  go_wp2_with (first | ((with_reducible refine gd_ (N := 2) rfl ?_); refine bx_ 2 #[.int .i64 a0_0, .bool a0_1, .slice A0_2 l0_2.length c0_2, .slice A0_3 l0_3.length c0_3, .int .i64 a0_4] 34 ?_; intro gb1 hg w1 BK1 hb; have GW1 := ge_ hg brt4_; have GE1 := GW1; replace HB := hb_ hb brt4_; clear hb hg) | ((with_reducible refine gd_ (N := 3) rfl ?_); refine bx_ 3 #[.int .i64 a1_0, .int .i64 a1_1, .int .i64 a1_2] 43 ?_; intro gb2 hg w2 BK2 hb; have GW2 := ge_ hg be6g_; have GE2 := GW2; replace HB := hb_ hb be6g_; have NB1_2 := nl_ hg BK1; have NB2_1 := ng_ hg BK1; replace BK1 := k1_ BK1 hb; clear hb hg; have hnb1 := NB1_2.out; have hnc1 := NB2_1.out; have hcz1 := z5_ BK1) | ((with_reducible refine gc_ (f := 12) rfl ?_); refine gl_ 18 Tryd.func12 #[.agg #[.int .i64 a0_0, .bool a0_1, .slice A0_2 l0_2.length c0_2, .slice A0_3 l0_3.length c0_3, .int .i64 a0_4], .int .i64 1048576] ?_; (with_reducible refine (laws_szHouse.calls a0_0 a0_1 _ _ l0_2 _ _ l0_3 a0_4 1048576 t1 _ ?side1 ?side2 ?side3 ?side4 A2.out).mono ?_); (case side1 => exact b6n8_); (case side2 => exact HC0_2.out); (case side3 => exact bkan_); (case side4 => exact HC0_3.out); rintro e w3 ⟨rfl, hb⟩; refine ⟨_, rfl, ?_⟩; replace BK1 := k1_ BK1 hb; replace BK2 := k1_ BK2 hb; replace HB := hb_ hb bfnq_; (try clear hb)))
  go_ret
  exact ⟨bnwh_, bfnq_⟩
 rw [if_neg c1] at H
 have c1b0 : decide (t1 < 0) = false := decide_eq_false c1
 clear c1
 obtain ⟨⟨t3, t4, t5, t6, t7⟩, A4, H⟩ := o1_ H
 obtain ⟨⟨t8, t9, t10⟩, A6, H⟩ := o1_ H
 obtain ⟨⟨t11, t12, t13, t14, t15, t16⟩, A8, H⟩ := o1_ H
 obtain ⟨⟨t17, t18, t19, t20, t21⟩, A10, H⟩ := o1_ H
 obtain ⟨⟨t22, t23, t24⟩, A12, H⟩ := o1_ H
 obtain ⟨⟨t25, t26, t27, t28, t29, t30⟩, A14, H⟩ := o1_ H
 have HC16 := A0_ H
 clear H
 go_enter Tryd.func5, Tryd.ntmps5
 try go_wp2_with (first | ((with_reducible refine gd_ (N := 2) rfl ?_); refine bx_ 2 #[.int .i64 a0_0, .bool a0_1, .slice A0_2 l0_2.length c0_2, .slice A0_3 l0_3.length c0_3, .int .i64 a0_4] 34 ?_; intro gb1 hg w1 BK1 hb; have GW1 := ge_ hg brt4_; have GE1 := GW1; replace HB := hb_ hb brt4_; clear hb hg) | ((with_reducible refine gd_ (N := 3) rfl ?_); refine bx_ 3 #[.int .i64 a1_0, .int .i64 a1_1, .int .i64 a1_2] 43 ?_; intro gb2 hg w2 BK2 hb; have GW2 := ge_ hg be6g_; have GE2 := GW2; replace HB := hb_ hb be6g_; have NB1_2 := nl_ hg BK1; have NB2_1 := ng_ hg BK1; replace BK1 := k1_ BK1 hb; clear hb hg; have hnb1 := NB1_2.out; have hnc1 := NB2_1.out; have hcz1 := z5_ BK1) | ((with_reducible refine gc_ (f := 12) rfl ?_); refine gl_ 18 Tryd.func12 #[.agg #[.int .i64 a0_0, .bool a0_1, .slice A0_2 l0_2.length c0_2, .slice A0_3 l0_3.length c0_3, .int .i64 a0_4], .int .i64 1048576] ?_; (with_reducible refine (laws_szHouse.calls a0_0 a0_1 _ _ l0_2 _ _ l0_3 a0_4 1048576 t1 _ ?side1 ?side2 ?side3 ?side4 A2.out).mono ?_); (case side1 => exact b6n8_); (case side2 => exact HC0_2.out); (case side3 => exact bkan_); (case side4 => exact HC0_3.out); rintro e w3 ⟨rfl, hb⟩; refine ⟨_, rfl, ?_⟩; replace BK1 := k1_ BK1 hb; replace BK2 := k1_ BK2 hb; replace HB := hb_ hb bfnq_; (try clear hb)))
 replace BK1 := A0_ (kd_ BK1.out)
 replace BK2 := A0_ (kd_ BK2.out)
 replace HB := A0_ (bd_ HB.out)
 refine start_ (n := 11) (S := fun w' => w'.cell? ⟨gb1, 0, none⟩ = some (.int .i64 a0_0) ∧ w'.cell? ⟨gb1, 1, none⟩ = some (.bool a0_1) ∧ w'.cell? ⟨gb1, 2, none⟩ = some (.slice A0_2 l0_2.length c0_2) ∧ w'.cell? ⟨gb1, 3, none⟩ = some (.slice A0_3 l0_3.length c0_3) ∧ w'.cell? ⟨gb1, 4, none⟩ = some (.int .i64 a0_4) ∧ w'.cell? ⟨gb2, 0, none⟩ = some (.int .i64 a1_0) ∧ w'.cell? ⟨gb2, 1, none⟩ = some (.int .i64 a1_1) ∧ w'.cell? ⟨gb2, 2, none⟩ = some (.int .i64 a1_2)) (ds := []) #[false, false, false, false, false, false, false, false, false, false, false] bfqv_ rfl rfl ⟨(kc_ BK1.out 0).trans rfl, (kc_ BK1.out 1).trans rfl, (kc_ BK1.out 2).trans rfl, (kc_ BK1.out 3).trans rfl, (kc_ BK1.out 4).trans rfl, (kc_ BK2.out 0).trans rfl, (kc_ BK2.out 1).trans rfl, (kc_ BK2.out 2).trans rfl⟩ (fun hHeld => ?_); refine with_tabW laws_FnExactDoWork.tab5 laws_FnExactDoWork.bits5 (fun HT_ HW_ => ?_)
 generalize w3.drew = w4 at BK1 BK2 HB hHeld ⊢
 refine tk_ 0 22 hHeld ?_
 refine tk_ 2 24 hHeld ?_
 refine join_ (σ := Value × Value × Value × Value × Nat) 2 #[true, true, true, true, true, true, true, true, true, false, false] (fun s_ => [(23, .agg #[.int .i64 t3, .bool t4, s_.1, s_.2.1, .int .i64 t7]), (25, .agg #[.int .i64 t8, .int .i64 t9, .int .i64 t10]), (26, .tuple #[.agg #[.int .i64 t11, .bool t12, s_.2.2.1, s_.2.2.2.1, .int .i64 t15], .bool t16]), (6, .pointer (some ⟨s_.2.2.2.2, 0, none⟩)), (21, .tuple #[.agg #[.int .i64 t11, .bool t12, s_.2.2.1, s_.2.2.2.1, .int .i64 t15], .bool t16]), (27, .agg #[.int .i64 t11, .bool t12, s_.2.2.1, s_.2.2.2.1, .int .i64 t15]), (28, .bool t16)]) (fun s_ w' => (w'.cell? ⟨gb1, 0, none⟩ = some (.int .i64 a0_0) ∧ w'.cell? ⟨gb1, 1, none⟩ = some (.bool a0_1) ∧ w'.cell? ⟨gb1, 2, none⟩ = some (.slice A0_2 l0_2.length c0_2) ∧ w'.cell? ⟨gb1, 3, none⟩ = some (.slice A0_3 l0_3.length c0_3) ∧ w'.cell? ⟨gb1, 4, none⟩ = some (.int .i64 a0_4) ∧ w'.cell? ⟨gb2, 0, none⟩ = some (.int .i64 a1_0) ∧ w'.cell? ⟨gb2, 1, none⟩ = some (.int .i64 a1_1) ∧ w'.cell? ⟨gb2, 2, none⟩ = some (.int .i64 a1_2)) ∧ (Kd.R (Kd.int .i64) 3 w' w.heap.size (fun k_ => some k_ ≠ (s_.2.1 : Value).ownBlock ∧ some k_ ≠ (s_.2.2.1 : Value).ownBlock ∧ some k_ ≠ (s_.2.2.2.1 : Value).ownBlock) s_.1 t5) ∧ (Kd.R (Kd.int .i64) 3 w' w.heap.size (fun k_ => some k_ ≠ (s_.1 : Value).ownBlock ∧ some k_ ≠ (s_.2.2.1 : Value).ownBlock ∧ some k_ ≠ (s_.2.2.2.1 : Value).ownBlock) s_.2.1 t6) ∧ (Kd.R (Kd.int .i64) 3 w' w.heap.size (fun k_ => some k_ ≠ (s_.1 : Value).ownBlock ∧ some k_ ≠ (s_.2.1 : Value).ownBlock ∧ some k_ ≠ (s_.2.2.2.1 : Value).ownBlock) s_.2.2.1 t13) ∧ (Kd.R (Kd.int .i64) 3 w' w.heap.size (fun k_ => some k_ ≠ (s_.1 : Value).ownBlock ∧ some k_ ≠ (s_.2.1 : Value).ownBlock ∧ some k_ ≠ (s_.2.2.1 : Value).ownBlock) s_.2.2.2.1 t14) ∧ (w'.heap[gb1]? = some (.cells #[.int .i64 a0_0, .bool a0_1, .slice A0_2 l0_2.length c0_2, .slice A0_3 l0_3.length c0_3, .int .i64 a0_4] 34 (0, 0))) ∧ (w'.heap[gb2]? = some (.cells #[.int .i64 a1_0, .int .i64 a1_1, .int .i64 a1_2] 43 (0, 0))) ∧ (w'.heap[s_.2.2.2.2]? = some (.cells #[.int .i64 0, .bool false, .slice none 0 0, .slice none 0 0, .int .i64 0] 26 (0, 0))) ∧ (w.heap.size ≤ s_.2.2.2.2) ∧ (w.heap.size ≤ s_.2.2.2.2) ∧ (gb1 ≠ s_.2.2.2.2) ∧ (s_.2.2.2.2 ≠ gb1) ∧ (gb2 ≠ s_.2.2.2.2) ∧ (s_.2.2.2.2 ≠ gb2) ∧ (Below w.heap.size w w')) ?_ ?_
 rotate_left
 ·intro hCont
  refine two_ (i := 1) (j := 8) (Ni := some 23) (Nj := some 6) #[true, true, true, false, false, false, false, false, false, false, false] #[true, false, true, false, false, false, false, false, true, false, false] rfl rfl rfl rfl (two_of HT_.out bfqv_) bi3y_ bi3y_ (fun K hK => ?_) (fun K hK => ?_)
  ·refine gs_ Tryd.func14 #[.agg #[.int .i64 a0_0, .bool a0_1, .slice A0_2 l0_2.length c0_2, .slice A0_3 l0_3.length c0_3, .int .i64 a0_4]] ?_
   with_reducible refine (laws_toHouse.calls k a0_0 a0_1 _ _ l0_2 _ _ l0_3 a0_4 t3 t4 t5 t6 t7 _ ?side1 ?side2 ?side3 ?side4 A4.out).mono ?_
   (case side1 => exact b6n8_)
   (case side2 => exact HC0_2.out)
   (case side3 => exact bkan_)
   (case side4 => exact HC0_3.out)
   rintro e w5 ⟨v1, v2, rfl, ho0, ho1, hb⟩
   refine ⟨_, rfl, ?_⟩
   have HO1 := A0_ (Kd.R_lower ho0 (bz_ bfnq_))
   have HO2 := A0_ (Kd.R_lower ho1 (bz_ bfnq_))
   replace BK1 := k1_ BK1 hb
   replace BK2 := k1_ BK2 hb
   replace HB := hb_ hb bfnq_
   (try clear hb); (try clear ho0); (try clear ho1)
   refine hK.out _ _ ⟨(kc_ BK1.out 0).trans rfl, (kc_ BK1.out 1).trans rfl, (kc_ BK1.out 2).trans rfl, (kc_ BK1.out 3).trans rfl, (kc_ BK1.out 4).trans rfl, (kc_ BK2.out 0).trans rfl, (kc_ BK2.out 1).trans rfl, (kc_ BK2.out 2).trans rfl⟩ (fun hHeld => ?_)
   clear hK K
   refine nm_ 23 ?_
   refine two_ (i := 3) (j := 8) (Ni := some 25) (Nj := some 6) #[true, true, true, true, false, false, false, false, false, false, false] #[true, true, true, false, false, false, false, false, true, false, false] rfl rfl rfl rfl (two_of HT_.out bfqv_) bi3y_ bi3y_ (fun K hK => ?_) (fun K hK => ?_)
   ·refine gs_ Tryd.func20 #[.agg #[.int .i64 a1_0, .int .i64 a1_1, .int .i64 a1_2]] ?_
    with_reducible refine (laws_toWork.calls a1_0 a1_1 a1_2 t8 t9 t10 _ A6.out).mono ?_
    rintro e w6 ⟨rfl, hb⟩
    refine ⟨_, rfl, ?_⟩
    replace HO1 := A0_ (Kd.R_below bsm5_ hb)
    replace HO2 := A0_ (Kd.R_below b9so_ hb)
    replace BK1 := k1_ BK1 hb
    replace BK2 := k1_ BK2 hb
    replace HB := hb_ hb bfnq_
    (try clear hb)
    obtain ⟨Ao1, co1, eo1⟩ := Kd.R_slice HO1.out
    (first | subst eo1 | (injection eo1 with f1_ f2_ f3_; have f4_ := f1_.symm; have f5_ := f3_.symm; clear f1_ f2_ f3_; subst f4_; subst f5_))
    obtain ⟨Ao2, co2, eo2⟩ := Kd.R_slice HO2.out
    (first | subst eo2 | (injection eo2 with f1_ f2_ f3_; have f4_ := f1_.symm; have f5_ := f3_.symm; clear f1_ f2_ f3_; subst f4_; subst f5_))
    refine hK.out _ _ ⟨(kc_ BK1.out 0).trans rfl, (kc_ BK1.out 1).trans rfl, (kc_ BK1.out 2).trans rfl, (kc_ BK1.out 3).trans rfl, (kc_ BK1.out 4).trans rfl, (kc_ BK2.out 0).trans rfl, (kc_ BK2.out 1).trans rfl, (kc_ BK2.out 2).trans rfl⟩ (fun hHeld => ?_)
    clear hK K
    refine nm_ 25 ?_
    refine two_ (i := 4) (j := 8) (Ni := some 26) (Nj := some 6) #[true, true, true, true, true, false, false, false, false, false, false] #[true, true, true, true, false, false, false, false, true, false, false] rfl rfl rfl rfl (two_of HT_.out bfqv_) bi3y_ bi3y_ (fun K hK => ?_) (fun K hK => ?_)
    ·refine gs_ Tryd.func19 #[.agg #[.int .i64 t3, .bool t4, .slice Ao1 t5.length co1, .slice Ao2 t6.length co2, .int .i64 t7], .agg #[.int .i64 t8, .int .i64 t9, .int .i64 t10]] ?_
     with_reducible refine (spec_DoWork.calls k t3 t4 _ _ t5 _ _ t6 t7 t8 t9 t10 t11 t12 t13 t14 t15 t16 _ ?side1 ?side2 ?side3 ?side4 A8.out).mono ?_
     (case side1 => exact bayy_)
     (case side2 => exact (rr_ HO1.out).2.1)
     (case side3 => exact ba04_)
     (case side4 => exact (rr_ HO2.out).2.1)
     rintro e w7 ⟨v3, v4, rfl, ho0, ho1, hb⟩
     refine ⟨_, rfl, ?_⟩
     have HO3 := A0_ (Kd.R_lower (Kd.R_new' (Kd.R_new' ho0 (Kd.R_lt bsm5_)) (Kd.R_lt b9so_)) (bz_ bfnq_))
     have HO4 := A0_ (Kd.R_lower (Kd.R_new' (Kd.R_new' ho1 (Kd.R_lt bsm5_)) (Kd.R_lt b9so_)) (bz_ bfnq_))
     replace HO1 := A0_ (Kd.R_mono (Kd.R_told (Kd.R_told (Kd.R_old bsm5_ hb) (Kd.R_base ho0)) (Kd.R_base ho1)) (fun _ h_ => h_.1))
     replace HO2 := A0_ (Kd.R_mono (Kd.R_told (Kd.R_told (Kd.R_old b9so_ hb) (Kd.R_base ho0)) (Kd.R_base ho1)) (fun _ h_ => h_.1))
     replace BK1 := k1_ BK1 hb
     replace BK2 := k1_ BK2 hb
     replace HB := hb_ hb bfnq_
     (try clear hb); (try clear ho0); (try clear ho1)
     refine hK.out _ _ ⟨(kc_ BK1.out 0).trans rfl, (kc_ BK1.out 1).trans rfl, (kc_ BK1.out 2).trans rfl, (kc_ BK1.out 3).trans rfl, (kc_ BK1.out 4).trans rfl, (kc_ BK2.out 0).trans rfl, (kc_ BK2.out 1).trans rfl, (kc_ BK2.out 2).trans rfl⟩ (fun hHeld => ?_)
     clear hK K
     refine nm_ 26 ?_
     refine pu_ 5 21 ?_
     refine pu_ 6 27 ?_
     refine pu_ 7 28 ?_
     refine on_ 8 (some 6) (fun K hK => ?_)
     refine bp_ 6 #[.int .i64 0, .bool false, .slice none 0 0, .slice none 0 0, .int .i64 0] 26 ?_
     intro gb3 hg w8 hbox hb
     replace HO1 := A0_ (Kd.R_below bsm5_ hb)
     replace HO2 := A0_ (Kd.R_below b9so_ hb)
     replace HO3 := A0_ (Kd.R_below buiy_ hb)
     replace HO4 := A0_ (Kd.R_below b6ip_ hb)
     have BK3 := A0_ (hbox)
     have GW3 := ge_ hg bfnq_
     have GE3 := ge_ hg bfnq_
     replace HB := hb_ hb bfnq_
     have NB1_3 := nl_ hg BK1
     have NB3_1 := ng_ hg BK1
     replace BK1 := k1_ BK1 hb
     have NB2_3 := nl_ hg BK2
     have NB3_2 := ng_ hg BK2
     replace BK2 := k1_ BK2 hb
     clear hb hbox hg
     refine hK.out _ _ ⟨(kc_ BK1.out 0).trans rfl, (kc_ BK1.out 1).trans rfl, (kc_ BK1.out 2).trans rfl, (kc_ BK1.out 3).trans rfl, (kc_ BK1.out 4).trans rfl, (kc_ BK2.out 0).trans rfl, (kc_ BK2.out 1).trans rfl, (kc_ BK2.out 2).trans rfl⟩ (fun hHeld => ?_)
     clear hK K
     refine nm_ 6 ?_
     exact norm_ bh00_ (hCont (.slice Ao1 t5.length co1, .slice Ao2 t6.length co2, v3, v4, gb3) _ ⟨hHeld, bksq_, bpmd_, brf7_, b36k_, (u1_ BK1), (u1_ BK2), (u1_ BK3), GW3.out, GE3.out, NB1_3.out, NB3_1.out, NB2_3.out, NB3_2.out, b850_⟩)
    refine bp_ 6 #[.int .i64 0, .bool false, .slice none 0 0, .slice none 0 0, .int .i64 0] 26 ?_
    intro gb3 hg w7 hbox hb
    replace HO1 := A0_ (Kd.R_below bsm5_ hb)
    replace HO2 := A0_ (Kd.R_below b9so_ hb)
    have BK3 := A0_ (hbox)
    have GW3 := ge_ hg bfnq_
    have GE3 := ge_ hg bfnq_
    replace HB := hb_ hb bfnq_
    have NB1_3 := nl_ hg BK1
    have NB3_1 := ng_ hg BK1
    replace BK1 := k1_ BK1 hb
    have NB2_3 := nl_ hg BK2
    have NB3_2 := ng_ hg BK2
    replace BK2 := k1_ BK2 hb
    clear hb hbox hg
    obtain ⟨Ao2, co2, eo2⟩ := Kd.R_slice HO1.out
    (first | subst eo2 | (injection eo2 with f1_ f2_ f3_; have f4_ := f1_.symm; have f5_ := f3_.symm; clear f1_ f2_ f3_; subst f4_; subst f5_))
    obtain ⟨Ao3, co3, eo3⟩ := Kd.R_slice HO2.out
    (first | subst eo3 | (injection eo3 with f1_ f2_ f3_; have f4_ := f1_.symm; have f5_ := f3_.symm; clear f1_ f2_ f3_; subst f4_; subst f5_))
    refine hK.out _ _ ⟨(kc_ BK1.out 0).trans rfl, (kc_ BK1.out 1).trans rfl, (kc_ BK1.out 2).trans rfl, (kc_ BK1.out 3).trans rfl, (kc_ BK1.out 4).trans rfl, (kc_ BK2.out 0).trans rfl, (kc_ BK2.out 1).trans rfl, (kc_ BK2.out 2).trans rfl⟩ (fun hHeld => ?_)
    clear hK K
    refine nm_ 6 ?_
    refine on_ 4 (some 26) (fun K hK => ?_)
    refine gs_ Tryd.func19 #[.agg #[.int .i64 t3, .bool t4, .slice Ao2 t5.length co2, .slice Ao3 t6.length co3, .int .i64 t7], .agg #[.int .i64 t8, .int .i64 t9, .int .i64 t10]] ?_
    with_reducible refine (spec_DoWork.calls k t3 t4 _ _ t5 _ _ t6 t7 t8 t9 t10 t11 t12 t13 t14 t15 t16 _ ?side1 ?side2 ?side3 ?side4 A8.out).mono ?_
    (case side1 => exact bayy_)
    (case side2 => exact (rr_ HO1.out).2.1)
    (case side3 => exact ba04_)
    (case side4 => exact (rr_ HO2.out).2.1)
    rintro e w8 ⟨v3, v4, rfl, ho0, ho1, hb⟩
    refine ⟨_, rfl, ?_⟩
    have HO3 := A0_ (Kd.R_lower (Kd.R_new' (Kd.R_new' ho0 (Kd.R_lt bsm5_)) (Kd.R_lt b9so_)) (bz_ b850_))
    have HO4 := A0_ (Kd.R_lower (Kd.R_new' (Kd.R_new' ho1 (Kd.R_lt bsm5_)) (Kd.R_lt b9so_)) (bz_ b850_))
    replace HO1 := A0_ (Kd.R_mono (Kd.R_told (Kd.R_told (Kd.R_old bsm5_ hb) (Kd.R_base ho0)) (Kd.R_base ho1)) (fun _ h_ => h_.1))
    replace HO2 := A0_ (Kd.R_mono (Kd.R_told (Kd.R_told (Kd.R_old b9so_ hb) (Kd.R_base ho0)) (Kd.R_base ho1)) (fun _ h_ => h_.1))
    replace BK1 := k1_ BK1 hb
    replace BK2 := k1_ BK2 hb
    replace BK3 := k1_ BK3 hb
    replace HB := hb_ hb b850_
    (try clear hb); (try clear ho0); (try clear ho1)
    refine hK.out _ _ ⟨(kc_ BK1.out 0).trans rfl, (kc_ BK1.out 1).trans rfl, (kc_ BK1.out 2).trans rfl, (kc_ BK1.out 3).trans rfl, (kc_ BK1.out 4).trans rfl, (kc_ BK2.out 0).trans rfl, (kc_ BK2.out 1).trans rfl, (kc_ BK2.out 2).trans rfl⟩ (fun hHeld => ?_)
    clear hK K
    refine nm_ 26 ?_
    refine pu_ 5 21 ?_
    refine pu_ 6 27 ?_
    refine pu_ 7 28 ?_
    exact norm_ bh00_ (hCont (.slice Ao2 t5.length co2, .slice Ao3 t6.length co3, v3, v4, gb3) _ ⟨hHeld, bksq_, bpmd_, brf7_, b36k_, (u1_ BK1), (u1_ BK2), (u1_ BK3), GW3.out, GE3.out, NB1_3.out, NB3_1.out, NB2_3.out, NB3_2.out, b850_⟩)
   refine bp_ 6 #[.int .i64 0, .bool false, .slice none 0 0, .slice none 0 0, .int .i64 0] 26 ?_
   intro gb3 hg w6 hbox hb
   replace HO1 := A0_ (Kd.R_below bsm5_ hb)
   replace HO2 := A0_ (Kd.R_below b9so_ hb)
   have BK3 := A0_ (hbox)
   have GW3 := ge_ hg bfnq_
   have GE3 := ge_ hg bfnq_
   replace HB := hb_ hb bfnq_
   have NB1_3 := nl_ hg BK1
   have NB3_1 := ng_ hg BK1
   replace BK1 := k1_ BK1 hb
   have NB2_3 := nl_ hg BK2
   have NB3_2 := ng_ hg BK2
   replace BK2 := k1_ BK2 hb
   clear hb hbox hg
   refine hK.out _ _ ⟨(kc_ BK1.out 0).trans rfl, (kc_ BK1.out 1).trans rfl, (kc_ BK1.out 2).trans rfl, (kc_ BK1.out 3).trans rfl, (kc_ BK1.out 4).trans rfl, (kc_ BK2.out 0).trans rfl, (kc_ BK2.out 1).trans rfl, (kc_ BK2.out 2).trans rfl⟩ (fun hHeld => ?_)
   clear hK K
   refine nm_ 6 ?_
   refine on_ 3 (some 25) (fun K hK => ?_)
   refine gs_ Tryd.func20 #[.agg #[.int .i64 a1_0, .int .i64 a1_1, .int .i64 a1_2]] ?_
   with_reducible refine (laws_toWork.calls a1_0 a1_1 a1_2 t8 t9 t10 _ A6.out).mono ?_
   rintro e w7 ⟨rfl, hb⟩
   refine ⟨_, rfl, ?_⟩
   replace HO1 := A0_ (Kd.R_below bsm5_ hb)
   replace HO2 := A0_ (Kd.R_below b9so_ hb)
   replace BK1 := k1_ BK1 hb
   replace BK2 := k1_ BK2 hb
   replace BK3 := k1_ BK3 hb
   replace HB := hb_ hb b850_
   (try clear hb)
   obtain ⟨Ao1, co1, eo1⟩ := Kd.R_slice HO1.out
   (first | subst eo1 | (injection eo1 with f1_ f2_ f3_; have f4_ := f1_.symm; have f5_ := f3_.symm; clear f1_ f2_ f3_; subst f4_; subst f5_))
   obtain ⟨Ao2, co2, eo2⟩ := Kd.R_slice HO2.out
   (first | subst eo2 | (injection eo2 with f1_ f2_ f3_; have f4_ := f1_.symm; have f5_ := f3_.symm; clear f1_ f2_ f3_; subst f4_; subst f5_))
   refine hK.out _ _ ⟨(kc_ BK1.out 0).trans rfl, (kc_ BK1.out 1).trans rfl, (kc_ BK1.out 2).trans rfl, (kc_ BK1.out 3).trans rfl, (kc_ BK1.out 4).trans rfl, (kc_ BK2.out 0).trans rfl, (kc_ BK2.out 1).trans rfl, (kc_ BK2.out 2).trans rfl⟩ (fun hHeld => ?_)
   clear hK K
   refine nm_ 25 ?_
   refine on_ 4 (some 26) (fun K hK => ?_)
   refine gs_ Tryd.func19 #[.agg #[.int .i64 t3, .bool t4, .slice Ao1 t5.length co1, .slice Ao2 t6.length co2, .int .i64 t7], .agg #[.int .i64 t8, .int .i64 t9, .int .i64 t10]] ?_
   with_reducible refine (spec_DoWork.calls k t3 t4 _ _ t5 _ _ t6 t7 t8 t9 t10 t11 t12 t13 t14 t15 t16 _ ?side1 ?side2 ?side3 ?side4 A8.out).mono ?_
   (case side1 => exact bayy_)
   (case side2 => exact (rr_ HO1.out).2.1)
   (case side3 => exact ba04_)
   (case side4 => exact (rr_ HO2.out).2.1)
   rintro e w8 ⟨v3, v4, rfl, ho0, ho1, hb⟩
   refine ⟨_, rfl, ?_⟩
   have HO3 := A0_ (Kd.R_lower (Kd.R_new' (Kd.R_new' ho0 (Kd.R_lt bsm5_)) (Kd.R_lt b9so_)) (bz_ b850_))
   have HO4 := A0_ (Kd.R_lower (Kd.R_new' (Kd.R_new' ho1 (Kd.R_lt bsm5_)) (Kd.R_lt b9so_)) (bz_ b850_))
   replace HO1 := A0_ (Kd.R_mono (Kd.R_told (Kd.R_told (Kd.R_old bsm5_ hb) (Kd.R_base ho0)) (Kd.R_base ho1)) (fun _ h_ => h_.1))
   replace HO2 := A0_ (Kd.R_mono (Kd.R_told (Kd.R_told (Kd.R_old b9so_ hb) (Kd.R_base ho0)) (Kd.R_base ho1)) (fun _ h_ => h_.1))
   replace BK1 := k1_ BK1 hb
   replace BK2 := k1_ BK2 hb
   replace BK3 := k1_ BK3 hb
   replace HB := hb_ hb b850_
   (try clear hb); (try clear ho0); (try clear ho1)
   refine hK.out _ _ ⟨(kc_ BK1.out 0).trans rfl, (kc_ BK1.out 1).trans rfl, (kc_ BK1.out 2).trans rfl, (kc_ BK1.out 3).trans rfl, (kc_ BK1.out 4).trans rfl, (kc_ BK2.out 0).trans rfl, (kc_ BK2.out 1).trans rfl, (kc_ BK2.out 2).trans rfl⟩ (fun hHeld => ?_)
   clear hK K
   refine nm_ 26 ?_
   refine pu_ 5 21 ?_
   refine pu_ 6 27 ?_
   refine pu_ 7 28 ?_
   exact norm_ bh00_ (hCont (.slice Ao1 t5.length co1, .slice Ao2 t6.length co2, v3, v4, gb3) _ ⟨hHeld, bksq_, bpmd_, brf7_, b36k_, (u1_ BK1), (u1_ BK2), (u1_ BK3), GW3.out, GE3.out, NB1_3.out, NB3_1.out, NB2_3.out, NB3_2.out, b850_⟩)
  refine bp_ 6 #[.int .i64 0, .bool false, .slice none 0 0, .slice none 0 0, .int .i64 0] 26 ?_
  intro gb3 hg w5 hbox hb
  have BK3 := A0_ (hbox)
  have GW3 := ge_ hg bfnq_
  have GE3 := ge_ hg bfnq_
  replace HB := hb_ hb bfnq_
  have NB1_3 := nl_ hg BK1
  have NB3_1 := ng_ hg BK1
  replace BK1 := k1_ BK1 hb
  have NB2_3 := nl_ hg BK2
  have NB3_2 := ng_ hg BK2
  replace BK2 := k1_ BK2 hb
  clear hb hbox hg
  refine hK.out _ _ ⟨(kc_ BK1.out 0).trans rfl, (kc_ BK1.out 1).trans rfl, (kc_ BK1.out 2).trans rfl, (kc_ BK1.out 3).trans rfl, (kc_ BK1.out 4).trans rfl, (kc_ BK2.out 0).trans rfl, (kc_ BK2.out 1).trans rfl, (kc_ BK2.out 2).trans rfl⟩ (fun hHeld => ?_)
  clear hK K
  refine nm_ 6 ?_
  refine on_ 1 (some 23) (fun K hK => ?_)
  refine gs_ Tryd.func14 #[.agg #[.int .i64 a0_0, .bool a0_1, .slice A0_2 l0_2.length c0_2, .slice A0_3 l0_3.length c0_3, .int .i64 a0_4]] ?_
  with_reducible refine (laws_toHouse.calls k a0_0 a0_1 _ _ l0_2 _ _ l0_3 a0_4 t3 t4 t5 t6 t7 _ ?side1 ?side2 ?side3 ?side4 A4.out).mono ?_
  (case side1 => exact b6n8_)
  (case side2 => exact HC0_2.out)
  (case side3 => exact bkan_)
  (case side4 => exact HC0_3.out)
  rintro e w6 ⟨v1, v2, rfl, ho0, ho1, hb⟩
  refine ⟨_, rfl, ?_⟩
  have HO1 := A0_ (Kd.R_lower ho0 (bz_ b850_))
  have HO2 := A0_ (Kd.R_lower ho1 (bz_ b850_))
  replace BK1 := k1_ BK1 hb
  replace BK2 := k1_ BK2 hb
  replace BK3 := k1_ BK3 hb
  replace HB := hb_ hb b850_
  (try clear hb); (try clear ho0); (try clear ho1)
  refine hK.out _ _ ⟨(kc_ BK1.out 0).trans rfl, (kc_ BK1.out 1).trans rfl, (kc_ BK1.out 2).trans rfl, (kc_ BK1.out 3).trans rfl, (kc_ BK1.out 4).trans rfl, (kc_ BK2.out 0).trans rfl, (kc_ BK2.out 1).trans rfl, (kc_ BK2.out 2).trans rfl⟩ (fun hHeld => ?_)
  clear hK K
  refine nm_ 23 ?_
  refine on_ 3 (some 25) (fun K hK => ?_)
  refine gs_ Tryd.func20 #[.agg #[.int .i64 a1_0, .int .i64 a1_1, .int .i64 a1_2]] ?_
  with_reducible refine (laws_toWork.calls a1_0 a1_1 a1_2 t8 t9 t10 _ A6.out).mono ?_
  rintro e w7 ⟨rfl, hb⟩
  refine ⟨_, rfl, ?_⟩
  replace HO1 := A0_ (Kd.R_below bsm5_ hb)
  replace HO2 := A0_ (Kd.R_below b9so_ hb)
  replace BK1 := k1_ BK1 hb
  replace BK2 := k1_ BK2 hb
  replace BK3 := k1_ BK3 hb
  replace HB := hb_ hb b850_
  (try clear hb)
  obtain ⟨Ao1, co1, eo1⟩ := Kd.R_slice HO1.out
  (first | subst eo1 | (injection eo1 with f1_ f2_ f3_; have f4_ := f1_.symm; have f5_ := f3_.symm; clear f1_ f2_ f3_; subst f4_; subst f5_))
  obtain ⟨Ao2, co2, eo2⟩ := Kd.R_slice HO2.out
  (first | subst eo2 | (injection eo2 with f1_ f2_ f3_; have f4_ := f1_.symm; have f5_ := f3_.symm; clear f1_ f2_ f3_; subst f4_; subst f5_))
  refine hK.out _ _ ⟨(kc_ BK1.out 0).trans rfl, (kc_ BK1.out 1).trans rfl, (kc_ BK1.out 2).trans rfl, (kc_ BK1.out 3).trans rfl, (kc_ BK1.out 4).trans rfl, (kc_ BK2.out 0).trans rfl, (kc_ BK2.out 1).trans rfl, (kc_ BK2.out 2).trans rfl⟩ (fun hHeld => ?_)
  clear hK K
  refine nm_ 25 ?_
  refine on_ 4 (some 26) (fun K hK => ?_)
  refine gs_ Tryd.func19 #[.agg #[.int .i64 t3, .bool t4, .slice Ao1 t5.length co1, .slice Ao2 t6.length co2, .int .i64 t7], .agg #[.int .i64 t8, .int .i64 t9, .int .i64 t10]] ?_
  with_reducible refine (spec_DoWork.calls k t3 t4 _ _ t5 _ _ t6 t7 t8 t9 t10 t11 t12 t13 t14 t15 t16 _ ?side1 ?side2 ?side3 ?side4 A8.out).mono ?_
  (case side1 => exact bayy_)
  (case side2 => exact (rr_ HO1.out).2.1)
  (case side3 => exact ba04_)
  (case side4 => exact (rr_ HO2.out).2.1)
  rintro e w8 ⟨v3, v4, rfl, ho0, ho1, hb⟩
  refine ⟨_, rfl, ?_⟩
  have HO3 := A0_ (Kd.R_lower (Kd.R_new' (Kd.R_new' ho0 (Kd.R_lt bsm5_)) (Kd.R_lt b9so_)) (bz_ b850_))
  have HO4 := A0_ (Kd.R_lower (Kd.R_new' (Kd.R_new' ho1 (Kd.R_lt bsm5_)) (Kd.R_lt b9so_)) (bz_ b850_))
  replace HO1 := A0_ (Kd.R_mono (Kd.R_told (Kd.R_told (Kd.R_old bsm5_ hb) (Kd.R_base ho0)) (Kd.R_base ho1)) (fun _ h_ => h_.1))
  replace HO2 := A0_ (Kd.R_mono (Kd.R_told (Kd.R_told (Kd.R_old b9so_ hb) (Kd.R_base ho0)) (Kd.R_base ho1)) (fun _ h_ => h_.1))
  replace BK1 := k1_ BK1 hb
  replace BK2 := k1_ BK2 hb
  replace BK3 := k1_ BK3 hb
  replace HB := hb_ hb b850_
  (try clear hb); (try clear ho0); (try clear ho1)
  refine hK.out _ _ ⟨(kc_ BK1.out 0).trans rfl, (kc_ BK1.out 1).trans rfl, (kc_ BK1.out 2).trans rfl, (kc_ BK1.out 3).trans rfl, (kc_ BK1.out 4).trans rfl, (kc_ BK2.out 0).trans rfl, (kc_ BK2.out 1).trans rfl, (kc_ BK2.out 2).trans rfl⟩ (fun hHeld => ?_)
  clear hK K
  refine nm_ 26 ?_
  refine pu_ 5 21 ?_
  refine pu_ 6 27 ?_
  refine pu_ 7 28 ?_
  exact norm_ bh00_ (hCont (.slice Ao1 t5.length co1, .slice Ao2 t6.length co2, v3, v4, gb3) _ ⟨hHeld, bksq_, bpmd_, brf7_, b36k_, (u1_ BK1), (u1_ BK2), (u1_ BK3), GW3.out, GE3.out, NB1_3.out, NB3_1.out, NB2_3.out, NB3_2.out, b850_⟩)
 rintro ⟨v1, v2, v3, v4, gb3⟩ w5 ⟨hS_, h0_, h1_, h2_, h3_, h4_, h5_, h6_, h7_, h8_, h9_, h10_, h11_, h12_, h13_⟩
 try dsimp only at h0_ h1_ h2_ h3_ h4_ h5_ h6_ h7_ h8_ h9_ h10_ h11_ h12_ h13_
 have HO1 := A0_ h0_
 have HO2 := A0_ h1_
 have HO3 := A0_ h2_
 have HO4 := A0_ h3_
 replace BK1 := A0_ h4_
 replace BK2 := A0_ h5_
 have BK3 := A0_ h6_
 have GW3 := A0_ h7_
 have GE3 := A0_ h8_
 have NB1_3 := A0_ h9_
 have NB3_1 := A0_ h10_
 have NB2_3 := A0_ h11_
 have NB3_2 := A0_ h12_
 replace HB := A0_ h13_
 clear h0_ h1_ h2_ h3_ h4_ h5_ h6_ h7_ h8_ h9_ h10_ h11_ h12_ h13_
 have hHeld : w5.cell? ⟨gb1, 0, none⟩ = some (.int .i64 a0_0) ∧ w5.cell? ⟨gb1, 1, none⟩ = some (.bool a0_1) ∧ w5.cell? ⟨gb1, 2, none⟩ = some (.slice A0_2 l0_2.length c0_2) ∧ w5.cell? ⟨gb1, 3, none⟩ = some (.slice A0_3 l0_3.length c0_3) ∧ w5.cell? ⟨gb1, 4, none⟩ = some (.int .i64 a0_4) ∧ w5.cell? ⟨gb2, 0, none⟩ = some (.int .i64 a1_0) ∧ w5.cell? ⟨gb2, 1, none⟩ = some (.int .i64 a1_1) ∧ w5.cell? ⟨gb2, 2, none⟩ = some (.int .i64 a1_2) := hS_
 obtain ⟨Ao1, co1, eo1⟩ := Kd.R_slice HO3.out
 (first | subst eo1 | (injection eo1 with f1_ f2_ f3_; have f4_ := f1_.symm; have f5_ := f3_.symm; clear f1_ f2_ f3_; subst f4_; subst f5_))
 obtain ⟨Ao2, co2, eo2⟩ := Kd.R_slice HO4.out
 (first | subst eo2 | (injection eo2 with f1_ f2_ f3_; have f4_ := f1_.symm; have f5_ := f3_.symm; clear f1_ f2_ f3_; subst f4_; subst f5_))
 refine nq_ ?_
 refine on_ 9 none (fun K hK => ?_)
 have hs30 : w5.cell? ⟨gb3, 0, none⟩ = some (.int .i64 0) := (kc_ BK3.out 0).trans rfl
 have hfs30 := kf_ BK3.out 0
 have hns1_0 := NB1_3.out
 have hns1_1 := NB2_3.out
 have hms1_0 := NB3_1.out
 have hms1_1 := NB3_2.out
 have hs31 : w5.cell? ⟨gb3, 1, none⟩ = some (.bool false) := (kc_ BK3.out 1).trans rfl
 have hfs31 := kf_ BK3.out 1
 have hns2_0 := NB1_3.out
 have hns2_1 := NB2_3.out
 have hms2_0 := NB3_1.out
 have hms2_1 := NB3_2.out
 have hs33 : w5.cell? ⟨gb3, 2, none⟩ = some (.slice none 0 0) := (kc_ BK3.out 2).trans rfl
 have hfs33 := kf_ BK3.out 2
 have hns3_0 := NB1_3.out
 have hns3_1 := NB2_3.out
 have hms3_0 := NB3_1.out
 have hms3_1 := NB3_2.out
 have hs35 : w5.cell? ⟨gb3, 3, none⟩ = some (.slice none 0 0) := (kc_ BK3.out 3).trans rfl
 have hfs35 := kf_ BK3.out 3
 have hns4_0 := NB1_3.out
 have hns4_1 := NB2_3.out
 have hms4_0 := NB3_1.out
 have hms4_1 := NB3_2.out
 have hs36 : w5.cell? ⟨gb3, 4, none⟩ = some (.int .i64 0) := (kc_ BK3.out 4).trans rfl
 have hfs36 := kf_ BK3.out 4
 have hns5_0 := NB1_3.out
 have hns5_1 := NB2_3.out
 have hms5_0 := NB3_1.out
 have hms5_1 := NB3_2.out
 refine skip_ (w1 := ?_) (by rfl) rfl ?_ ?_
 rotate_left
 ·go_simp
  rfl
 refine hK.out _ _ ⟨((cell_far (p := ⟨gb3, _, none⟩) NB1_3.out _).trans (((cell_far (p := ⟨gb3, _, none⟩) NB1_3.out _).trans (((cell_far (p := ⟨gb3, _, none⟩) NB1_3.out _).trans (((cell_far (p := ⟨gb3, _, none⟩) NB1_3.out _).trans (((cell_far (p := ⟨gb3, _, none⟩) NB1_3.out _).trans (hHeld.1)))))))))), ((cell_far (p := ⟨gb3, _, none⟩) NB1_3.out _).trans (((cell_far (p := ⟨gb3, _, none⟩) NB1_3.out _).trans (((cell_far (p := ⟨gb3, _, none⟩) NB1_3.out _).trans (((cell_far (p := ⟨gb3, _, none⟩) NB1_3.out _).trans (((cell_far (p := ⟨gb3, _, none⟩) NB1_3.out _).trans (hHeld.2.1)))))))))), ((cell_far (p := ⟨gb3, _, none⟩) NB1_3.out _).trans (((cell_far (p := ⟨gb3, _, none⟩) NB1_3.out _).trans (((cell_far (p := ⟨gb3, _, none⟩) NB1_3.out _).trans (((cell_far (p := ⟨gb3, _, none⟩) NB1_3.out _).trans (((cell_far (p := ⟨gb3, _, none⟩) NB1_3.out _).trans (hHeld.2.2.1)))))))))), ((cell_far (p := ⟨gb3, _, none⟩) NB1_3.out _).trans (((cell_far (p := ⟨gb3, _, none⟩) NB1_3.out _).trans (((cell_far (p := ⟨gb3, _, none⟩) NB1_3.out _).trans (((cell_far (p := ⟨gb3, _, none⟩) NB1_3.out _).trans (((cell_far (p := ⟨gb3, _, none⟩) NB1_3.out _).trans (hHeld.2.2.2.1)))))))))), ((cell_far (p := ⟨gb3, _, none⟩) NB1_3.out _).trans (((cell_far (p := ⟨gb3, _, none⟩) NB1_3.out _).trans (((cell_far (p := ⟨gb3, _, none⟩) NB1_3.out _).trans (((cell_far (p := ⟨gb3, _, none⟩) NB1_3.out _).trans (((cell_far (p := ⟨gb3, _, none⟩) NB1_3.out _).trans (hHeld.2.2.2.2.1)))))))))), ((cell_far (p := ⟨gb3, _, none⟩) NB2_3.out _).trans (((cell_far (p := ⟨gb3, _, none⟩) NB2_3.out _).trans (((cell_far (p := ⟨gb3, _, none⟩) NB2_3.out _).trans (((cell_far (p := ⟨gb3, _, none⟩) NB2_3.out _).trans (((cell_far (p := ⟨gb3, _, none⟩) NB2_3.out _).trans (hHeld.2.2.2.2.2.1)))))))))), ((cell_far (p := ⟨gb3, _, none⟩) NB2_3.out _).trans (((cell_far (p := ⟨gb3, _, none⟩) NB2_3.out _).trans (((cell_far (p := ⟨gb3, _, none⟩) NB2_3.out _).trans (((cell_far (p := ⟨gb3, _, none⟩) NB2_3.out _).trans (((cell_far (p := ⟨gb3, _, none⟩) NB2_3.out _).trans (hHeld.2.2.2.2.2.2.1)))))))))), ((cell_far (p := ⟨gb3, _, none⟩) NB2_3.out _).trans (((cell_far (p := ⟨gb3, _, none⟩) NB2_3.out _).trans (((cell_far (p := ⟨gb3, _, none⟩) NB2_3.out _).trans (((cell_far (p := ⟨gb3, _, none⟩) NB2_3.out _).trans (((cell_far (p := ⟨gb3, _, none⟩) NB2_3.out _).trans (hHeld.2.2.2.2.2.2.2))))))))))⟩ (fun hHeld => ?_)
 clear hK K
 refine pu_ 10 7 ?_
 refine dn_ ?_
 have hnb2 := NB1_3.out
 have hnc2 := NB3_1.out
 have hcz2 := z5_ BK1
 try go_wp2_with (first | ((with_reducible refine gc_ (f := 14) rfl ?_); refine gl_ 30 Tryd.func14 #[.agg #[.int .i64 a0_0, .bool a0_1, .slice A0_2 l0_2.length c0_2, .slice A0_3 l0_3.length c0_3, .int .i64 a0_4]] ?_; (with_reducible refine (laws_toHouse.calls k a0_0 a0_1 _ _ l0_2 _ _ l0_3 a0_4 t17 t18 t19 t20 t21 _ ?side1 ?side2 ?side3 ?side4 A10.out).mono ?_); (case side1 => exact cb_ HR0_2.out b850_); (case side2 => exact HC0_2.out); (case side3 => exact cb_ HR0_3.out b850_); (case side4 => exact HC0_3.out); rintro e w6 ⟨v5, v6, rfl, ho0, ho1, hb⟩; refine ⟨_, rfl, ?_⟩; have HO5 := A0_ (Kd.R_lower (Kd.R_new' (Kd.R_new' (Kd.R_new' (Kd.R_new' ho0 (Kd.R_lt bxeb_)) (Kd.R_lt bv2e_)) (Kd.R_lt bhj0_)) (Kd.R_lt bu10_)) (bz_ b850_)); have HO6 := A0_ (Kd.R_lower (Kd.R_new' (Kd.R_new' (Kd.R_new' (Kd.R_new' ho1 (Kd.R_lt bxeb_)) (Kd.R_lt bv2e_)) (Kd.R_lt bhj0_)) (Kd.R_lt bu10_)) (bz_ b850_)); replace HO1 := A0_ (Kd.R_mono (Kd.R_told (Kd.R_told (Kd.R_old bxeb_ hb) (Kd.R_base ho0)) (Kd.R_base ho1)) (fun _ h_ => h_.1)); replace HO2 := A0_ (Kd.R_mono (Kd.R_told (Kd.R_told (Kd.R_old bv2e_ hb) (Kd.R_base ho0)) (Kd.R_base ho1)) (fun _ h_ => h_.1)); replace HO3 := A0_ (Kd.R_mono (Kd.R_told (Kd.R_told (Kd.R_old bhj0_ hb) (Kd.R_base ho0)) (Kd.R_base ho1)) (fun _ h_ => h_.1)); replace HO4 := A0_ (Kd.R_mono (Kd.R_told (Kd.R_told (Kd.R_old bu10_ hb) (Kd.R_base ho0)) (Kd.R_base ho1)) (fun _ h_ => h_.1)); replace BK1 := k1_ BK1 hb; replace BK2 := k1_ BK2 hb; replace BK3 := k2_ (.cells #[.int .i64 t11, .bool t12, .slice Ao1 t13.length co1, .slice Ao2 t14.length co2, .int .i64 t15] 26 (0, 0)) BK3 hb; replace HB := hb_ hb b850_; (try clear hb); (try clear ho0); (try clear ho1)) | ((with_reducible refine gd_ (N := 8) rfl ?_); refine bx_ 8 #[.int .i64 0, .bool false, .slice none 0 0, .slice none 0 0, .int .i64 0] 26 ?_; intro gb4 hg w7 BK4 hb; replace HO1 := A0_ (Kd.R_below bsm5_ hb); replace HO2 := A0_ (Kd.R_below b9so_ hb); replace HO3 := A0_ (Kd.R_below buiy_ hb); replace HO4 := A0_ (Kd.R_below b6ip_ hb); replace HO5 := A0_ (Kd.R_below bzg4_ hb); replace HO6 := A0_ (Kd.R_below btwl_ hb); have GW4 := ge_ hg b850_; have GE4 := GW4; replace HB := hb_ hb b850_; have NB1_4 := nl_ hg BK1; have NB4_1 := ng_ hg BK1; replace BK1 := k1_ BK1 hb; have NB2_4 := nl_ hg BK2; have NB4_2 := ng_ hg BK2; replace BK2 := k1_ BK2 hb; have NB3_4 := nl_ hg BK3; have NB4_3 := ng_ hg BK3; replace BK3 := k1_ BK3 hb; clear hb hg; have hnb3 := NB4_1.out; have hnc3 := NB1_4.out; have hnb4 := NB4_2.out; have hnc4 := NB2_4.out; have hnb5 := NB4_3.out; have hnc5 := NB3_4.out; have hcz3 := z5_ BK4; obtain ⟨Ao3, co3, eo3⟩ := Kd.R_slice HO5.out; subst eo3; obtain ⟨Ao4, co4, eo4⟩ := Kd.R_slice HO6.out; subst eo4))
 have n0_ : Aside0 (Kd.R (Kd.int .i64) 3 (((((w7.setCell ⟨gb4, 0, none⟩ (.int .i64 t17)).setCell ⟨gb4, 1, none⟩ (.bool t18)).setCell ⟨gb4, 2, none⟩ (.slice Ao3 t19.length co3)).setCell ⟨gb4, 3, none⟩ (.slice Ao4 t20.length co4)).setCell ⟨gb4, 4, none⟩ (.int .i64 t21)) w.heap.size (fun k_ => no_ v2 k_ ∧ no_ (.slice Ao1 t13.length co1) k_ ∧ no_ (.slice Ao2 t14.length co2) k_ ∧ no_ (.slice Ao3 t19.length co3) k_ ∧ no_ (.slice Ao4 t20.length co4) k_) v1 t5) := ⟨by (with_reducible repeat (first | apply ra_ | apply rn_ | apply rd_)); exact Kd.R_mono (rf_ (rf_ (rf_ (rf_ (rf_ (Kd.R_types HO1.out BK4.out bi3y_) k2_0 _) k2_0 _) k2_0 _) k2_0 _) k2_0 _) cf_⟩
 have n1_ : Aside0 (Kd.R (Kd.int .i64) 3 (((((w7.setCell ⟨gb4, 0, none⟩ (.int .i64 t17)).setCell ⟨gb4, 1, none⟩ (.bool t18)).setCell ⟨gb4, 2, none⟩ (.slice Ao3 t19.length co3)).setCell ⟨gb4, 3, none⟩ (.slice Ao4 t20.length co4)).setCell ⟨gb4, 4, none⟩ (.int .i64 t21)) w.heap.size (fun k_ => no_ v1 k_ ∧ no_ (.slice Ao1 t13.length co1) k_ ∧ no_ (.slice Ao2 t14.length co2) k_ ∧ no_ (.slice Ao3 t19.length co3) k_ ∧ no_ (.slice Ao4 t20.length co4) k_) v2 t6) := ⟨by (with_reducible repeat (first | apply ra_ | apply rn_ | apply rd_)); exact Kd.R_mono (rf_ (rf_ (rf_ (rf_ (rf_ (Kd.R_types HO2.out BK4.out bi3y_) k2_0 _) k2_0 _) k2_0 _) k2_0 _) k2_0 _) cf_⟩
 have n2_ : Aside0 (Kd.R (Kd.int .i64) 3 (((((w7.setCell ⟨gb4, 0, none⟩ (.int .i64 t17)).setCell ⟨gb4, 1, none⟩ (.bool t18)).setCell ⟨gb4, 2, none⟩ (.slice Ao3 t19.length co3)).setCell ⟨gb4, 3, none⟩ (.slice Ao4 t20.length co4)).setCell ⟨gb4, 4, none⟩ (.int .i64 t21)) w.heap.size (fun k_ => no_ v1 k_ ∧ no_ v2 k_ ∧ no_ (.slice Ao2 t14.length co2) k_ ∧ no_ (.slice Ao3 t19.length co3) k_ ∧ no_ (.slice Ao4 t20.length co4) k_) (.slice Ao1 t13.length co1) t13) := ⟨by (with_reducible repeat (first | apply ra_ | apply rn_ | apply rd_)); exact Kd.R_mono (rf_ (rf_ (rf_ (rf_ (rf_ (Kd.R_types HO3.out BK4.out bi3y_) k2_0 _) k2_0 _) k2_0 _) k2_0 _) k2_0 _) cf_⟩
 have n3_ : Aside0 (Kd.R (Kd.int .i64) 3 (((((w7.setCell ⟨gb4, 0, none⟩ (.int .i64 t17)).setCell ⟨gb4, 1, none⟩ (.bool t18)).setCell ⟨gb4, 2, none⟩ (.slice Ao3 t19.length co3)).setCell ⟨gb4, 3, none⟩ (.slice Ao4 t20.length co4)).setCell ⟨gb4, 4, none⟩ (.int .i64 t21)) w.heap.size (fun k_ => no_ v1 k_ ∧ no_ v2 k_ ∧ no_ (.slice Ao1 t13.length co1) k_ ∧ no_ (.slice Ao3 t19.length co3) k_ ∧ no_ (.slice Ao4 t20.length co4) k_) (.slice Ao2 t14.length co2) t14) := ⟨by (with_reducible repeat (first | apply ra_ | apply rn_ | apply rd_)); exact Kd.R_mono (rf_ (rf_ (rf_ (rf_ (rf_ (Kd.R_types HO4.out BK4.out bi3y_) k2_0 _) k2_0 _) k2_0 _) k2_0 _) k2_0 _) cf_⟩
 have n4_ : Aside0 (Kd.R (Kd.int .i64) 3 (((((w7.setCell ⟨gb4, 0, none⟩ (.int .i64 t17)).setCell ⟨gb4, 1, none⟩ (.bool t18)).setCell ⟨gb4, 2, none⟩ (.slice Ao3 t19.length co3)).setCell ⟨gb4, 3, none⟩ (.slice Ao4 t20.length co4)).setCell ⟨gb4, 4, none⟩ (.int .i64 t21)) w.heap.size (fun k_ => no_ v1 k_ ∧ no_ v2 k_ ∧ no_ (.slice Ao1 t13.length co1) k_ ∧ no_ (.slice Ao2 t14.length co2) k_ ∧ no_ (.slice Ao4 t20.length co4) k_) (.slice Ao3 t19.length co3) t19) := ⟨by (with_reducible repeat (first | apply ra_ | apply rn_ | apply rd_)); exact Kd.R_mono (rf_ (rf_ (rf_ (rf_ (rf_ (Kd.R_types HO5.out BK4.out bi3y_) k2_0 _) k2_0 _) k2_0 _) k2_0 _) k2_0 _) cf_⟩
 have n5_ : Aside0 (Kd.R (Kd.int .i64) 3 (((((w7.setCell ⟨gb4, 0, none⟩ (.int .i64 t17)).setCell ⟨gb4, 1, none⟩ (.bool t18)).setCell ⟨gb4, 2, none⟩ (.slice Ao3 t19.length co3)).setCell ⟨gb4, 3, none⟩ (.slice Ao4 t20.length co4)).setCell ⟨gb4, 4, none⟩ (.int .i64 t21)) w.heap.size (fun k_ => no_ v1 k_ ∧ no_ v2 k_ ∧ no_ (.slice Ao1 t13.length co1) k_ ∧ no_ (.slice Ao2 t14.length co2) k_ ∧ no_ (.slice Ao3 t19.length co3) k_) (.slice Ao4 t20.length co4) t20) := ⟨by (with_reducible repeat (first | apply ra_ | apply rn_ | apply rd_)); exact Kd.R_mono (rf_ (rf_ (rf_ (rf_ (rf_ (Kd.R_types HO6.out BK4.out bi3y_) k2_0 _) k2_0 _) k2_0 _) k2_0 _) k2_0 _) cf_⟩
 have n6_ : Aside0 ((((((w7.setCell ⟨gb4, 0, none⟩ (.int .i64 t17)).setCell ⟨gb4, 1, none⟩ (.bool t18)).setCell ⟨gb4, 2, none⟩ (.slice Ao3 t19.length co3)).setCell ⟨gb4, 3, none⟩ (.slice Ao4 t20.length co4)).setCell ⟨gb4, 4, none⟩ (.int .i64 t21)).heap[gb1]? = some (.cells #[.int .i64 a0_0, .bool a0_1, .slice A0_2 l0_2.length c0_2, .slice A0_3 l0_3.length c0_3, .int .i64 a0_4] 34 (0, 0))) := ⟨u1_ BK1⟩
 have n7_ : Aside0 ((((((w7.setCell ⟨gb4, 0, none⟩ (.int .i64 t17)).setCell ⟨gb4, 1, none⟩ (.bool t18)).setCell ⟨gb4, 2, none⟩ (.slice Ao3 t19.length co3)).setCell ⟨gb4, 3, none⟩ (.slice Ao4 t20.length co4)).setCell ⟨gb4, 4, none⟩ (.int .i64 t21)).heap[gb2]? = some (.cells #[.int .i64 a1_0, .int .i64 a1_1, .int .i64 a1_2] 43 (0, 0))) := ⟨u1_ BK2⟩
 have n8_ : Aside0 ((((((w7.setCell ⟨gb4, 0, none⟩ (.int .i64 t17)).setCell ⟨gb4, 1, none⟩ (.bool t18)).setCell ⟨gb4, 2, none⟩ (.slice Ao3 t19.length co3)).setCell ⟨gb4, 3, none⟩ (.slice Ao4 t20.length co4)).setCell ⟨gb4, 4, none⟩ (.int .i64 t21)).heap[gb3]? = some (.cells #[.int .i64 t11, .bool t12, .slice Ao1 t13.length co1, .slice Ao2 t14.length co2, .int .i64 t15] 26 (0, 0))) := ⟨u1_ BK3⟩
 have n9_ : Aside0 ((((((w7.setCell ⟨gb4, 0, none⟩ (.int .i64 t17)).setCell ⟨gb4, 1, none⟩ (.bool t18)).setCell ⟨gb4, 2, none⟩ (.slice Ao3 t19.length co3)).setCell ⟨gb4, 3, none⟩ (.slice Ao4 t20.length co4)).setCell ⟨gb4, 4, none⟩ (.int .i64 t21)).heap[gb4]? = some (.cells #[.int .i64 t17, .bool t18, .slice Ao3 t19.length co3, .slice Ao4 t20.length co4, .int .i64 t21] 26 (0, 0))) := ⟨u1_ BK4⟩
 have n10_ : Aside0 (Below w.heap.size w (((((w7.setCell ⟨gb4, 0, none⟩ (.int .i64 t17)).setCell ⟨gb4, 1, none⟩ (.bool t18)).setCell ⟨gb4, 2, none⟩ (.slice Ao3 t19.length co3)).setCell ⟨gb4, 3, none⟩ (.slice Ao4 t20.length co4)).setCell ⟨gb4, 4, none⟩ (.int .i64 t21))) := ⟨b2i7_⟩
 (try clear HO1)
 (try clear HO2)
 (try clear HO3)
 (try clear HO4)
 (try clear HO5)
 (try clear HO6)
 (try clear BK1)
 (try clear BK2)
 (try clear BK3)
 (try clear BK4)
 (try clear HB)
 generalize (((((w7.setCell ⟨gb4, 0, none⟩ (.int .i64 t17)).setCell ⟨gb4, 1, none⟩ (.bool t18)).setCell ⟨gb4, 2, none⟩ (.slice Ao3 t19.length co3)).setCell ⟨gb4, 3, none⟩ (.slice Ao4 t20.length co4)).setCell ⟨gb4, 4, none⟩ (.int .i64 t21)) = w8 at n0_ n1_ n2_ n3_ n4_ n5_ n6_ n7_ n8_ n9_ n10_ ⊢
 have HO1 := n0_
 have HO2 := n1_
 have HO3 := n2_
 have HO4 := n3_
 have HO5 := n4_
 have HO6 := n5_
 have BK1 := n6_
 have BK2 := n7_
 have BK3 := n8_
 have BK4 := n9_
 have HB := n10_
 clear n0_ n1_ n2_ n3_ n4_ n5_ n6_ n7_ n8_ n9_ n10_
 replace HO1 := A0_ (rd_ HO1.out)
 replace HO2 := A0_ (rd_ HO2.out)
 replace HO3 := A0_ (rd_ HO3.out)
 replace HO4 := A0_ (rd_ HO4.out)
 replace HO5 := A0_ (rd_ HO5.out)
 replace HO6 := A0_ (rd_ HO6.out)
 replace BK1 := A0_ (kd_ BK1.out)
 replace BK2 := A0_ (kd_ BK2.out)
 replace BK3 := A0_ (kd_ BK3.out)
 replace BK4 := A0_ (kd_ BK4.out)
 replace HB := A0_ (bd_ HB.out)
 refine start_ (n := 10) (S := fun w' => w'.cell? ⟨gb4, 0, none⟩ = some (.int .i64 t17) ∧ w'.cell? ⟨gb4, 1, none⟩ = some (.bool t18) ∧ w'.cell? ⟨gb4, 2, none⟩ = some (.slice Ao3 t19.length co3) ∧ w'.cell? ⟨gb4, 3, none⟩ = some (.slice Ao4 t20.length co4) ∧ w'.cell? ⟨gb4, 4, none⟩ = some (.int .i64 t21) ∧ w'.cell? ⟨gb2, 0, none⟩ = some (.int .i64 a1_0) ∧ w'.cell? ⟨gb2, 1, none⟩ = some (.int .i64 a1_1) ∧ w'.cell? ⟨gb2, 2, none⟩ = some (.int .i64 a1_2)) (ds := []) #[false, false, false, false, false, false, false, false, false, false] bfqv_ rfl rfl ⟨(kc_ BK4.out 0).trans rfl, (kc_ BK4.out 1).trans rfl, (kc_ BK4.out 2).trans rfl, (kc_ BK4.out 3).trans rfl, (kc_ BK4.out 4).trans rfl, (kc_ BK2.out 0).trans rfl, (kc_ BK2.out 1).trans rfl, (kc_ BK2.out 2).trans rfl⟩ (fun hHeld => ?_); refine with_tabW laws_FnExactDoWork.tab7 laws_FnExactDoWork.bits7 (fun HT_ HW_ => ?_)
 generalize w8.drew = w9 at HO1 HO2 HO3 HO4 HO5 HO6 BK1 BK2 BK3 BK4 HB hHeld ⊢
 refine tk_ 0 32 hHeld ?_
 refine tk_ 1 33 hHeld ?_
 refine join_ (σ := Value × Value × Nat) 2 #[true, true, true, true, true, true, true, true, false, false] (fun s_ => [(34, .agg #[.int .i64 t22, .int .i64 t23, .int .i64 t24]), (35, .tuple #[.agg #[.int .i64 t25, .bool t26, s_.1, s_.2.1, .int .i64 t29], .bool t30]), (9, .pointer (some ⟨s_.2.2, 0, none⟩)), (31, .tuple #[.agg #[.int .i64 t25, .bool t26, s_.1, s_.2.1, .int .i64 t29], .bool t30]), (36, .agg #[.int .i64 t25, .bool t26, s_.1, s_.2.1, .int .i64 t29]), (37, .bool t30)]) (fun s_ w' => (w'.cell? ⟨gb4, 0, none⟩ = some (.int .i64 t17) ∧ w'.cell? ⟨gb4, 1, none⟩ = some (.bool t18) ∧ w'.cell? ⟨gb4, 2, none⟩ = some (.slice Ao3 t19.length co3) ∧ w'.cell? ⟨gb4, 3, none⟩ = some (.slice Ao4 t20.length co4) ∧ w'.cell? ⟨gb4, 4, none⟩ = some (.int .i64 t21) ∧ w'.cell? ⟨gb2, 0, none⟩ = some (.int .i64 a1_0) ∧ w'.cell? ⟨gb2, 1, none⟩ = some (.int .i64 a1_1) ∧ w'.cell? ⟨gb2, 2, none⟩ = some (.int .i64 a1_2)) ∧ (Kd.R (Kd.int .i64) 3 w' w.heap.size (fun k_ => no_ v2 k_ ∧ no_ (.slice Ao1 t13.length co1) k_ ∧ no_ (.slice Ao2 t14.length co2) k_ ∧ no_ (.slice Ao3 t19.length co3) k_ ∧ no_ (.slice Ao4 t20.length co4) k_ ∧ some k_ ≠ (s_.1 : Value).ownBlock ∧ some k_ ≠ (s_.2.1 : Value).ownBlock) v1 t5) ∧ (Kd.R (Kd.int .i64) 3 w' w.heap.size (fun k_ => no_ v1 k_ ∧ no_ (.slice Ao1 t13.length co1) k_ ∧ no_ (.slice Ao2 t14.length co2) k_ ∧ no_ (.slice Ao3 t19.length co3) k_ ∧ no_ (.slice Ao4 t20.length co4) k_ ∧ some k_ ≠ (s_.1 : Value).ownBlock ∧ some k_ ≠ (s_.2.1 : Value).ownBlock) v2 t6) ∧ (Kd.R (Kd.int .i64) 3 w' w.heap.size (fun k_ => no_ v1 k_ ∧ no_ v2 k_ ∧ no_ (.slice Ao2 t14.length co2) k_ ∧ no_ (.slice Ao3 t19.length co3) k_ ∧ no_ (.slice Ao4 t20.length co4) k_ ∧ some k_ ≠ (s_.1 : Value).ownBlock ∧ some k_ ≠ (s_.2.1 : Value).ownBlock) (.slice Ao1 t13.length co1) t13) ∧ (Kd.R (Kd.int .i64) 3 w' w.heap.size (fun k_ => no_ v1 k_ ∧ no_ v2 k_ ∧ no_ (.slice Ao1 t13.length co1) k_ ∧ no_ (.slice Ao3 t19.length co3) k_ ∧ no_ (.slice Ao4 t20.length co4) k_ ∧ some k_ ≠ (s_.1 : Value).ownBlock ∧ some k_ ≠ (s_.2.1 : Value).ownBlock) (.slice Ao2 t14.length co2) t14) ∧ (Kd.R (Kd.int .i64) 3 w' w.heap.size (fun k_ => no_ v1 k_ ∧ no_ v2 k_ ∧ no_ (.slice Ao1 t13.length co1) k_ ∧ no_ (.slice Ao2 t14.length co2) k_ ∧ no_ (.slice Ao4 t20.length co4) k_ ∧ some k_ ≠ (s_.1 : Value).ownBlock ∧ some k_ ≠ (s_.2.1 : Value).ownBlock) (.slice Ao3 t19.length co3) t19) ∧ (Kd.R (Kd.int .i64) 3 w' w.heap.size (fun k_ => no_ v1 k_ ∧ no_ v2 k_ ∧ no_ (.slice Ao1 t13.length co1) k_ ∧ no_ (.slice Ao2 t14.length co2) k_ ∧ no_ (.slice Ao3 t19.length co3) k_ ∧ some k_ ≠ (s_.1 : Value).ownBlock ∧ some k_ ≠ (s_.2.1 : Value).ownBlock) (.slice Ao4 t20.length co4) t20) ∧ (Kd.R (Kd.int .i64) 3 w' w.heap.size (fun k_ => no_ v1 k_ ∧ no_ v2 k_ ∧ no_ (.slice Ao1 t13.length co1) k_ ∧ no_ (.slice Ao2 t14.length co2) k_ ∧ no_ (.slice Ao3 t19.length co3) k_ ∧ no_ (.slice Ao4 t20.length co4) k_ ∧ some k_ ≠ (s_.2.1 : Value).ownBlock) s_.1 t27) ∧ (Kd.R (Kd.int .i64) 3 w' w.heap.size (fun k_ => no_ v1 k_ ∧ no_ v2 k_ ∧ no_ (.slice Ao1 t13.length co1) k_ ∧ no_ (.slice Ao2 t14.length co2) k_ ∧ no_ (.slice Ao3 t19.length co3) k_ ∧ no_ (.slice Ao4 t20.length co4) k_ ∧ some k_ ≠ (s_.1 : Value).ownBlock) s_.2.1 t28) ∧ (w'.heap[gb1]? = some (.cells #[.int .i64 a0_0, .bool a0_1, .slice A0_2 l0_2.length c0_2, .slice A0_3 l0_3.length c0_3, .int .i64 a0_4] 34 (0, 0))) ∧ (w'.heap[gb2]? = some (.cells #[.int .i64 a1_0, .int .i64 a1_1, .int .i64 a1_2] 43 (0, 0))) ∧ (w'.heap[gb3]? = some (.cells #[.int .i64 t11, .bool t12, .slice Ao1 t13.length co1, .slice Ao2 t14.length co2, .int .i64 t15] 26 (0, 0))) ∧ (w'.heap[gb4]? = some (.cells #[.int .i64 t17, .bool t18, .slice Ao3 t19.length co3, .slice Ao4 t20.length co4, .int .i64 t21] 26 (0, 0))) ∧ (w'.heap[s_.2.2]? = some (.cells #[.int .i64 0, .bool false, .slice none 0 0, .slice none 0 0, .int .i64 0] 26 (0, 0))) ∧ (w.heap.size ≤ s_.2.2) ∧ (w.heap.size ≤ s_.2.2) ∧ (gb1 ≠ s_.2.2) ∧ (s_.2.2 ≠ gb1) ∧ (gb2 ≠ s_.2.2) ∧ (s_.2.2 ≠ gb2) ∧ (gb3 ≠ s_.2.2) ∧ (s_.2.2 ≠ gb3) ∧ (gb4 ≠ s_.2.2) ∧ (s_.2.2 ≠ gb4) ∧ (Below w.heap.size w w')) ?_ ?_
 rotate_left
 ·intro hCont
  refine two_ (i := 2) (j := 7) (Ni := some 34) (Nj := some 9) #[true, true, true, false, false, false, false, false, false, false] #[true, true, false, false, false, false, false, true, false, false] rfl rfl rfl rfl (two_of HT_.out bfqv_) bi3y_ bi3y_ (fun K hK => ?_) (fun K hK => ?_)
  ·refine gs_ Tryd.func20 #[.agg #[.int .i64 a1_0, .int .i64 a1_1, .int .i64 a1_2]] ?_
   with_reducible refine (laws_toWork.calls a1_0 a1_1 a1_2 t22 t23 t24 _ A12.out).mono ?_
   rintro e w10 ⟨rfl, hb⟩
   refine ⟨_, rfl, ?_⟩
   replace HO1 := A0_ (Kd.R_below bsm5_ hb)
   replace HO2 := A0_ (Kd.R_below b9so_ hb)
   replace HO3 := A0_ (Kd.R_below buiy_ hb)
   replace HO4 := A0_ (Kd.R_below b6ip_ hb)
   replace HO5 := A0_ (Kd.R_below bzg4_ hb)
   replace HO6 := A0_ (Kd.R_below btwl_ hb)
   replace BK1 := k1_ BK1 hb
   replace BK2 := k1_ BK2 hb
   replace BK3 := k1_ BK3 hb
   replace BK4 := k1_ BK4 hb
   replace HB := hb_ hb b2i7_
   (try clear hb)
   refine hK.out _ _ ⟨(kc_ BK4.out 0).trans rfl, (kc_ BK4.out 1).trans rfl, (kc_ BK4.out 2).trans rfl, (kc_ BK4.out 3).trans rfl, (kc_ BK4.out 4).trans rfl, (kc_ BK2.out 0).trans rfl, (kc_ BK2.out 1).trans rfl, (kc_ BK2.out 2).trans rfl⟩ (fun hHeld => ?_)
   clear hK K
   refine nm_ 34 ?_
   refine two_ (i := 3) (j := 7) (Ni := some 35) (Nj := some 9) #[true, true, true, true, false, false, false, false, false, false] #[true, true, true, false, false, false, false, true, false, false] rfl rfl rfl rfl (two_of HT_.out bfqv_) bi3y_ bi3y_ (fun K hK => ?_) (fun K hK => ?_)
   ·refine gs_ Tryd.func21 #[.agg #[.int .i64 t17, .bool t18, .slice Ao3 t19.length co3, .slice Ao4 t20.length co4, .int .i64 t21], .agg #[.int .i64 t22, .int .i64 t23, .int .i64 t24]] ?_
    with_reducible refine (impl_DoWork.calls k t17 t18 _ _ t19 _ _ t20 t21 t22 t23 t24 t25 t26 t27 t28 t29 t30 _ ?side1 ?side2 ?side3 ?side4 bd55_ A14.out).mono ?_
    (case side1 => exact beqy_)
    (case side2 => exact (rr_ HO5.out).2.1)
    (case side3 => exact b80k_)
    (case side4 => exact (rr_ HO6.out).2.1)
    rintro e w11 ⟨v7, v8, rfl, ho0, ho1, hb⟩
    refine ⟨_, rfl, ?_⟩
    have HO7 := A0_ (Kd.R_lower (Kd.R_new' (Kd.R_new' (Kd.R_new' (Kd.R_new' (Kd.R_new' (Kd.R_new' ho0 (Kd.R_lt bsm5_)) (Kd.R_lt b9so_)) (Kd.R_lt buiy_)) (Kd.R_lt b6ip_)) (Kd.R_lt bzg4_)) (Kd.R_lt btwl_)) (bz_ b2i7_))
    have HO8 := A0_ (Kd.R_lower (Kd.R_new' (Kd.R_new' (Kd.R_new' (Kd.R_new' (Kd.R_new' (Kd.R_new' ho1 (Kd.R_lt bsm5_)) (Kd.R_lt b9so_)) (Kd.R_lt buiy_)) (Kd.R_lt b6ip_)) (Kd.R_lt bzg4_)) (Kd.R_lt btwl_)) (bz_ b2i7_))
    replace HO1 := A0_ (Kd.R_mono (Kd.R_told (Kd.R_told (Kd.R_old bsm5_ hb) (Kd.R_base ho0)) (Kd.R_base ho1)) (fun _ h_ => h_.1))
    replace HO2 := A0_ (Kd.R_mono (Kd.R_told (Kd.R_told (Kd.R_old b9so_ hb) (Kd.R_base ho0)) (Kd.R_base ho1)) (fun _ h_ => h_.1))
    replace HO3 := A0_ (Kd.R_mono (Kd.R_told (Kd.R_told (Kd.R_old buiy_ hb) (Kd.R_base ho0)) (Kd.R_base ho1)) (fun _ h_ => h_.1))
    replace HO4 := A0_ (Kd.R_mono (Kd.R_told (Kd.R_told (Kd.R_old b6ip_ hb) (Kd.R_base ho0)) (Kd.R_base ho1)) (fun _ h_ => h_.1))
    replace HO5 := A0_ (Kd.R_mono (Kd.R_told (Kd.R_told (Kd.R_old bzg4_ hb) (Kd.R_base ho0)) (Kd.R_base ho1)) (fun _ h_ => h_.1))
    replace HO6 := A0_ (Kd.R_mono (Kd.R_told (Kd.R_told (Kd.R_old btwl_ hb) (Kd.R_base ho0)) (Kd.R_base ho1)) (fun _ h_ => h_.1))
    replace BK1 := k1_ BK1 hb
    replace BK2 := k1_ BK2 hb
    replace BK3 := k1_ BK3 hb
    replace BK4 := k1_ BK4 hb
    replace HB := hb_ hb b2i7_
    (try clear hb); (try clear ho0); (try clear ho1)
    refine hK.out _ _ ⟨(kc_ BK4.out 0).trans rfl, (kc_ BK4.out 1).trans rfl, (kc_ BK4.out 2).trans rfl, (kc_ BK4.out 3).trans rfl, (kc_ BK4.out 4).trans rfl, (kc_ BK2.out 0).trans rfl, (kc_ BK2.out 1).trans rfl, (kc_ BK2.out 2).trans rfl⟩ (fun hHeld => ?_)
    clear hK K
    refine nm_ 35 ?_
    refine pu_ 4 31 ?_
    refine pu_ 5 36 ?_
    refine pu_ 6 37 ?_
    refine on_ 7 (some 9) (fun K hK => ?_)
    refine bp_ 9 #[.int .i64 0, .bool false, .slice none 0 0, .slice none 0 0, .int .i64 0] 26 ?_
    intro gb5 hg w12 hbox hb
    replace HO1 := A0_ (Kd.R_below bsm5_ hb)
    replace HO2 := A0_ (Kd.R_below b9so_ hb)
    replace HO3 := A0_ (Kd.R_below buiy_ hb)
    replace HO4 := A0_ (Kd.R_below b6ip_ hb)
    replace HO5 := A0_ (Kd.R_below bzg4_ hb)
    replace HO6 := A0_ (Kd.R_below btwl_ hb)
    replace HO7 := A0_ (Kd.R_below (by (with_reducible repeat (first | apply ra_ | apply rn_ | apply rd_)); exact HO7.out) hb)
    replace HO8 := A0_ (Kd.R_below (by (with_reducible repeat (first | apply ra_ | apply rn_ | apply rd_)); exact HO8.out) hb)
    have BK5 := A0_ (hbox)
    have GW5 := ge_ hg b2i7_
    have GE5 := ge_ hg b2i7_
    replace HB := hb_ hb b2i7_
    have NB1_5 := nl_ hg BK1
    have NB5_1 := ng_ hg BK1
    replace BK1 := k1_ BK1 hb
    have NB2_5 := nl_ hg BK2
    have NB5_2 := ng_ hg BK2
    replace BK2 := k1_ BK2 hb
    have NB3_5 := nl_ hg BK3
    have NB5_3 := ng_ hg BK3
    replace BK3 := k1_ BK3 hb
    have NB4_5 := nl_ hg BK4
    have NB5_4 := ng_ hg BK4
    replace BK4 := k1_ BK4 hb
    clear hb hbox hg
    refine hK.out _ _ ⟨(kc_ BK4.out 0).trans rfl, (kc_ BK4.out 1).trans rfl, (kc_ BK4.out 2).trans rfl, (kc_ BK4.out 3).trans rfl, (kc_ BK4.out 4).trans rfl, (kc_ BK2.out 0).trans rfl, (kc_ BK2.out 1).trans rfl, (kc_ BK2.out 2).trans rfl⟩ (fun hHeld => ?_)
    clear hK K
    refine nm_ 9 ?_
    exact norm_ bh00_ (hCont (v7, v8, gb5) _ ⟨hHeld, bksq_, bpmd_, brf7_, b36k_, bs7h_, bf7q_, b174_, bn9e_, (u1_ BK1), (u1_ BK2), (u1_ BK3), (u1_ BK4), (u1_ BK5), GW5.out, GE5.out, NB1_5.out, NB5_1.out, NB2_5.out, NB5_2.out, NB3_5.out, NB5_3.out, NB4_5.out, NB5_4.out, b5zo_⟩)
   refine bp_ 9 #[.int .i64 0, .bool false, .slice none 0 0, .slice none 0 0, .int .i64 0] 26 ?_
   intro gb5 hg w11 hbox hb
   replace HO1 := A0_ (Kd.R_below bsm5_ hb)
   replace HO2 := A0_ (Kd.R_below b9so_ hb)
   replace HO3 := A0_ (Kd.R_below buiy_ hb)
   replace HO4 := A0_ (Kd.R_below b6ip_ hb)
   replace HO5 := A0_ (Kd.R_below bzg4_ hb)
   replace HO6 := A0_ (Kd.R_below btwl_ hb)
   have BK5 := A0_ (hbox)
   have GW5 := ge_ hg b2i7_
   have GE5 := ge_ hg b2i7_
   replace HB := hb_ hb b2i7_
   have NB1_5 := nl_ hg BK1
   have NB5_1 := ng_ hg BK1
   replace BK1 := k1_ BK1 hb
   have NB2_5 := nl_ hg BK2
   have NB5_2 := ng_ hg BK2
   replace BK2 := k1_ BK2 hb
   have NB3_5 := nl_ hg BK3
   have NB5_3 := ng_ hg BK3
   replace BK3 := k1_ BK3 hb
   have NB4_5 := nl_ hg BK4
   have NB5_4 := ng_ hg BK4
   replace BK4 := k1_ BK4 hb
   clear hb hbox hg
   refine hK.out _ _ ⟨(kc_ BK4.out 0).trans rfl, (kc_ BK4.out 1).trans rfl, (kc_ BK4.out 2).trans rfl, (kc_ BK4.out 3).trans rfl, (kc_ BK4.out 4).trans rfl, (kc_ BK2.out 0).trans rfl, (kc_ BK2.out 1).trans rfl, (kc_ BK2.out 2).trans rfl⟩ (fun hHeld => ?_)
   clear hK K
   refine nm_ 9 ?_
   refine on_ 3 (some 35) (fun K hK => ?_)
   refine gs_ Tryd.func21 #[.agg #[.int .i64 t17, .bool t18, .slice Ao3 t19.length co3, .slice Ao4 t20.length co4, .int .i64 t21], .agg #[.int .i64 t22, .int .i64 t23, .int .i64 t24]] ?_
   with_reducible refine (impl_DoWork.calls k t17 t18 _ _ t19 _ _ t20 t21 t22 t23 t24 t25 t26 t27 t28 t29 t30 _ ?side1 ?side2 ?side3 ?side4 bd55_ A14.out).mono ?_
   (case side1 => exact beqy_)
   (case side2 => exact (rr_ HO5.out).2.1)
   (case side3 => exact b80k_)
   (case side4 => exact (rr_ HO6.out).2.1)
   rintro e w12 ⟨v7, v8, rfl, ho0, ho1, hb⟩
   refine ⟨_, rfl, ?_⟩
   have HO7 := A0_ (Kd.R_lower (Kd.R_new' (Kd.R_new' (Kd.R_new' (Kd.R_new' (Kd.R_new' (Kd.R_new' ho0 (Kd.R_lt bsm5_)) (Kd.R_lt b9so_)) (Kd.R_lt buiy_)) (Kd.R_lt b6ip_)) (Kd.R_lt bzg4_)) (Kd.R_lt btwl_)) (bz_ b5zo_))
   have HO8 := A0_ (Kd.R_lower (Kd.R_new' (Kd.R_new' (Kd.R_new' (Kd.R_new' (Kd.R_new' (Kd.R_new' ho1 (Kd.R_lt bsm5_)) (Kd.R_lt b9so_)) (Kd.R_lt buiy_)) (Kd.R_lt b6ip_)) (Kd.R_lt bzg4_)) (Kd.R_lt btwl_)) (bz_ b5zo_))
   replace HO1 := A0_ (Kd.R_mono (Kd.R_told (Kd.R_told (Kd.R_old bsm5_ hb) (Kd.R_base ho0)) (Kd.R_base ho1)) (fun _ h_ => h_.1))
   replace HO2 := A0_ (Kd.R_mono (Kd.R_told (Kd.R_told (Kd.R_old b9so_ hb) (Kd.R_base ho0)) (Kd.R_base ho1)) (fun _ h_ => h_.1))
   replace HO3 := A0_ (Kd.R_mono (Kd.R_told (Kd.R_told (Kd.R_old buiy_ hb) (Kd.R_base ho0)) (Kd.R_base ho1)) (fun _ h_ => h_.1))
   replace HO4 := A0_ (Kd.R_mono (Kd.R_told (Kd.R_told (Kd.R_old b6ip_ hb) (Kd.R_base ho0)) (Kd.R_base ho1)) (fun _ h_ => h_.1))
   replace HO5 := A0_ (Kd.R_mono (Kd.R_told (Kd.R_told (Kd.R_old bzg4_ hb) (Kd.R_base ho0)) (Kd.R_base ho1)) (fun _ h_ => h_.1))
   replace HO6 := A0_ (Kd.R_mono (Kd.R_told (Kd.R_told (Kd.R_old btwl_ hb) (Kd.R_base ho0)) (Kd.R_base ho1)) (fun _ h_ => h_.1))
   replace BK1 := k1_ BK1 hb
   replace BK2 := k1_ BK2 hb
   replace BK3 := k1_ BK3 hb
   replace BK4 := k1_ BK4 hb
   replace BK5 := k1_ BK5 hb
   replace HB := hb_ hb b5zo_
   (try clear hb); (try clear ho0); (try clear ho1)
   refine hK.out _ _ ⟨(kc_ BK4.out 0).trans rfl, (kc_ BK4.out 1).trans rfl, (kc_ BK4.out 2).trans rfl, (kc_ BK4.out 3).trans rfl, (kc_ BK4.out 4).trans rfl, (kc_ BK2.out 0).trans rfl, (kc_ BK2.out 1).trans rfl, (kc_ BK2.out 2).trans rfl⟩ (fun hHeld => ?_)
   clear hK K
   refine nm_ 35 ?_
   refine pu_ 4 31 ?_
   refine pu_ 5 36 ?_
   refine pu_ 6 37 ?_
   exact norm_ bh00_ (hCont (v7, v8, gb5) _ ⟨hHeld, bksq_, bpmd_, brf7_, b36k_, bs7h_, bf7q_, b174_, bn9e_, (u1_ BK1), (u1_ BK2), (u1_ BK3), (u1_ BK4), (u1_ BK5), GW5.out, GE5.out, NB1_5.out, NB5_1.out, NB2_5.out, NB5_2.out, NB3_5.out, NB5_3.out, NB4_5.out, NB5_4.out, b5zo_⟩)
  refine bp_ 9 #[.int .i64 0, .bool false, .slice none 0 0, .slice none 0 0, .int .i64 0] 26 ?_
  intro gb5 hg w10 hbox hb
  replace HO1 := A0_ (Kd.R_below bsm5_ hb)
  replace HO2 := A0_ (Kd.R_below b9so_ hb)
  replace HO3 := A0_ (Kd.R_below buiy_ hb)
  replace HO4 := A0_ (Kd.R_below b6ip_ hb)
  replace HO5 := A0_ (Kd.R_below bzg4_ hb)
  replace HO6 := A0_ (Kd.R_below btwl_ hb)
  have BK5 := A0_ (hbox)
  have GW5 := ge_ hg b2i7_
  have GE5 := ge_ hg b2i7_
  replace HB := hb_ hb b2i7_
  have NB1_5 := nl_ hg BK1
  have NB5_1 := ng_ hg BK1
  replace BK1 := k1_ BK1 hb
  have NB2_5 := nl_ hg BK2
  have NB5_2 := ng_ hg BK2
  replace BK2 := k1_ BK2 hb
  have NB3_5 := nl_ hg BK3
  have NB5_3 := ng_ hg BK3
  replace BK3 := k1_ BK3 hb
  have NB4_5 := nl_ hg BK4
  have NB5_4 := ng_ hg BK4
  replace BK4 := k1_ BK4 hb
  clear hb hbox hg
  refine hK.out _ _ ⟨(kc_ BK4.out 0).trans rfl, (kc_ BK4.out 1).trans rfl, (kc_ BK4.out 2).trans rfl, (kc_ BK4.out 3).trans rfl, (kc_ BK4.out 4).trans rfl, (kc_ BK2.out 0).trans rfl, (kc_ BK2.out 1).trans rfl, (kc_ BK2.out 2).trans rfl⟩ (fun hHeld => ?_)
  clear hK K
  refine nm_ 9 ?_
  refine on_ 2 (some 34) (fun K hK => ?_)
  refine gs_ Tryd.func20 #[.agg #[.int .i64 a1_0, .int .i64 a1_1, .int .i64 a1_2]] ?_
  with_reducible refine (laws_toWork.calls a1_0 a1_1 a1_2 t22 t23 t24 _ A12.out).mono ?_
  rintro e w11 ⟨rfl, hb⟩
  refine ⟨_, rfl, ?_⟩
  replace HO1 := A0_ (Kd.R_below bsm5_ hb)
  replace HO2 := A0_ (Kd.R_below b9so_ hb)
  replace HO3 := A0_ (Kd.R_below buiy_ hb)
  replace HO4 := A0_ (Kd.R_below b6ip_ hb)
  replace HO5 := A0_ (Kd.R_below bzg4_ hb)
  replace HO6 := A0_ (Kd.R_below btwl_ hb)
  replace BK1 := k1_ BK1 hb
  replace BK2 := k1_ BK2 hb
  replace BK3 := k1_ BK3 hb
  replace BK4 := k1_ BK4 hb
  replace BK5 := k1_ BK5 hb
  replace HB := hb_ hb b5zo_
  (try clear hb)
  refine hK.out _ _ ⟨(kc_ BK4.out 0).trans rfl, (kc_ BK4.out 1).trans rfl, (kc_ BK4.out 2).trans rfl, (kc_ BK4.out 3).trans rfl, (kc_ BK4.out 4).trans rfl, (kc_ BK2.out 0).trans rfl, (kc_ BK2.out 1).trans rfl, (kc_ BK2.out 2).trans rfl⟩ (fun hHeld => ?_)
  clear hK K
  refine nm_ 34 ?_
  refine on_ 3 (some 35) (fun K hK => ?_)
  refine gs_ Tryd.func21 #[.agg #[.int .i64 t17, .bool t18, .slice Ao3 t19.length co3, .slice Ao4 t20.length co4, .int .i64 t21], .agg #[.int .i64 t22, .int .i64 t23, .int .i64 t24]] ?_
  with_reducible refine (impl_DoWork.calls k t17 t18 _ _ t19 _ _ t20 t21 t22 t23 t24 t25 t26 t27 t28 t29 t30 _ ?side1 ?side2 ?side3 ?side4 bd55_ A14.out).mono ?_
  (case side1 => exact beqy_)
  (case side2 => exact (rr_ HO5.out).2.1)
  (case side3 => exact b80k_)
  (case side4 => exact (rr_ HO6.out).2.1)
  rintro e w12 ⟨v7, v8, rfl, ho0, ho1, hb⟩
  refine ⟨_, rfl, ?_⟩
  have HO7 := A0_ (Kd.R_lower (Kd.R_new' (Kd.R_new' (Kd.R_new' (Kd.R_new' (Kd.R_new' (Kd.R_new' ho0 (Kd.R_lt bsm5_)) (Kd.R_lt b9so_)) (Kd.R_lt buiy_)) (Kd.R_lt b6ip_)) (Kd.R_lt bzg4_)) (Kd.R_lt btwl_)) (bz_ b5zo_))
  have HO8 := A0_ (Kd.R_lower (Kd.R_new' (Kd.R_new' (Kd.R_new' (Kd.R_new' (Kd.R_new' (Kd.R_new' ho1 (Kd.R_lt bsm5_)) (Kd.R_lt b9so_)) (Kd.R_lt buiy_)) (Kd.R_lt b6ip_)) (Kd.R_lt bzg4_)) (Kd.R_lt btwl_)) (bz_ b5zo_))
  replace HO1 := A0_ (Kd.R_mono (Kd.R_told (Kd.R_told (Kd.R_old bsm5_ hb) (Kd.R_base ho0)) (Kd.R_base ho1)) (fun _ h_ => h_.1))
  replace HO2 := A0_ (Kd.R_mono (Kd.R_told (Kd.R_told (Kd.R_old b9so_ hb) (Kd.R_base ho0)) (Kd.R_base ho1)) (fun _ h_ => h_.1))
  replace HO3 := A0_ (Kd.R_mono (Kd.R_told (Kd.R_told (Kd.R_old buiy_ hb) (Kd.R_base ho0)) (Kd.R_base ho1)) (fun _ h_ => h_.1))
  replace HO4 := A0_ (Kd.R_mono (Kd.R_told (Kd.R_told (Kd.R_old b6ip_ hb) (Kd.R_base ho0)) (Kd.R_base ho1)) (fun _ h_ => h_.1))
  replace HO5 := A0_ (Kd.R_mono (Kd.R_told (Kd.R_told (Kd.R_old bzg4_ hb) (Kd.R_base ho0)) (Kd.R_base ho1)) (fun _ h_ => h_.1))
  replace HO6 := A0_ (Kd.R_mono (Kd.R_told (Kd.R_told (Kd.R_old btwl_ hb) (Kd.R_base ho0)) (Kd.R_base ho1)) (fun _ h_ => h_.1))
  replace BK1 := k1_ BK1 hb
  replace BK2 := k1_ BK2 hb
  replace BK3 := k1_ BK3 hb
  replace BK4 := k1_ BK4 hb
  replace BK5 := k1_ BK5 hb
  replace HB := hb_ hb b5zo_
  (try clear hb); (try clear ho0); (try clear ho1)
  refine hK.out _ _ ⟨(kc_ BK4.out 0).trans rfl, (kc_ BK4.out 1).trans rfl, (kc_ BK4.out 2).trans rfl, (kc_ BK4.out 3).trans rfl, (kc_ BK4.out 4).trans rfl, (kc_ BK2.out 0).trans rfl, (kc_ BK2.out 1).trans rfl, (kc_ BK2.out 2).trans rfl⟩ (fun hHeld => ?_)
  clear hK K
  refine nm_ 35 ?_
  refine pu_ 4 31 ?_
  refine pu_ 5 36 ?_
  refine pu_ 6 37 ?_
  exact norm_ bh00_ (hCont (v7, v8, gb5) _ ⟨hHeld, bksq_, bpmd_, brf7_, b36k_, bs7h_, bf7q_, b174_, bn9e_, (u1_ BK1), (u1_ BK2), (u1_ BK3), (u1_ BK4), (u1_ BK5), GW5.out, GE5.out, NB1_5.out, NB5_1.out, NB2_5.out, NB5_2.out, NB3_5.out, NB5_3.out, NB4_5.out, NB5_4.out, b5zo_⟩)
 rintro ⟨v7, v8, gb5⟩ w10 ⟨hS_, h0_, h1_, h2_, h3_, h4_, h5_, h6_, h7_, h8_, h9_, h10_, h11_, h12_, h13_, h14_, h15_, h16_, h17_, h18_, h19_, h20_, h21_, h22_, h23_⟩
 try dsimp only at h0_ h1_ h2_ h3_ h4_ h5_ h6_ h7_ h8_ h9_ h10_ h11_ h12_ h13_ h14_ h15_ h16_ h17_ h18_ h19_ h20_ h21_ h22_ h23_
 replace HO1 := A0_ h0_
 replace HO2 := A0_ h1_
 replace HO3 := A0_ h2_
 replace HO4 := A0_ h3_
 replace HO5 := A0_ h4_
 replace HO6 := A0_ h5_
 have HO7 := A0_ h6_
 have HO8 := A0_ h7_
 replace BK1 := A0_ h8_
 replace BK2 := A0_ h9_
 replace BK3 := A0_ h10_
 replace BK4 := A0_ h11_
 have BK5 := A0_ h12_
 have GW5 := A0_ h13_
 have GE5 := A0_ h14_
 have NB1_5 := A0_ h15_
 have NB5_1 := A0_ h16_
 have NB2_5 := A0_ h17_
 have NB5_2 := A0_ h18_
 have NB3_5 := A0_ h19_
 have NB5_3 := A0_ h20_
 have NB4_5 := A0_ h21_
 have NB5_4 := A0_ h22_
 replace HB := A0_ h23_
 clear h0_ h1_ h2_ h3_ h4_ h5_ h6_ h7_ h8_ h9_ h10_ h11_ h12_ h13_ h14_ h15_ h16_ h17_ h18_ h19_ h20_ h21_ h22_ h23_
 have hHeld : w10.cell? ⟨gb4, 0, none⟩ = some (.int .i64 t17) ∧ w10.cell? ⟨gb4, 1, none⟩ = some (.bool t18) ∧ w10.cell? ⟨gb4, 2, none⟩ = some (.slice Ao3 t19.length co3) ∧ w10.cell? ⟨gb4, 3, none⟩ = some (.slice Ao4 t20.length co4) ∧ w10.cell? ⟨gb4, 4, none⟩ = some (.int .i64 t21) ∧ w10.cell? ⟨gb2, 0, none⟩ = some (.int .i64 a1_0) ∧ w10.cell? ⟨gb2, 1, none⟩ = some (.int .i64 a1_1) ∧ w10.cell? ⟨gb2, 2, none⟩ = some (.int .i64 a1_2) := hS_
 obtain ⟨Ao5, co5, eo5⟩ := Kd.R_slice HO7.out
 (first | subst eo5 | (injection eo5 with f1_ f2_ f3_; have f4_ := f1_.symm; have f5_ := f3_.symm; clear f1_ f2_ f3_; subst f4_; subst f5_))
 obtain ⟨Ao6, co6, eo6⟩ := Kd.R_slice HO8.out
 (first | subst eo6 | (injection eo6 with f1_ f2_ f3_; have f4_ := f1_.symm; have f5_ := f3_.symm; clear f1_ f2_ f3_; subst f4_; subst f5_))
 refine nq_ ?_
 refine on_ 8 none (fun K hK => ?_)
 have hs53 : w10.cell? ⟨gb5, 0, none⟩ = some (.int .i64 0) := (kc_ BK5.out 0).trans rfl
 have hfs53 := kf_ BK5.out 0
 have hns6_0 := NB1_5.out
 have hns6_1 := NB2_5.out
 have hns6_2 := NB3_5.out
 have hns6_3 := NB4_5.out
 have hms6_0 := NB5_1.out
 have hms6_1 := NB5_2.out
 have hms6_2 := NB5_3.out
 have hms6_3 := NB5_4.out
 have hs54 : w10.cell? ⟨gb5, 1, none⟩ = some (.bool false) := (kc_ BK5.out 1).trans rfl
 have hfs54 := kf_ BK5.out 1
 have hns7_0 := NB1_5.out
 have hns7_1 := NB2_5.out
 have hns7_2 := NB3_5.out
 have hns7_3 := NB4_5.out
 have hms7_0 := NB5_1.out
 have hms7_1 := NB5_2.out
 have hms7_2 := NB5_3.out
 have hms7_3 := NB5_4.out
 have hs56 : w10.cell? ⟨gb5, 2, none⟩ = some (.slice none 0 0) := (kc_ BK5.out 2).trans rfl
 have hfs56 := kf_ BK5.out 2
 have hns8_0 := NB1_5.out
 have hns8_1 := NB2_5.out
 have hns8_2 := NB3_5.out
 have hns8_3 := NB4_5.out
 have hms8_0 := NB5_1.out
 have hms8_1 := NB5_2.out
 have hms8_2 := NB5_3.out
 have hms8_3 := NB5_4.out
 have hs58 : w10.cell? ⟨gb5, 3, none⟩ = some (.slice none 0 0) := (kc_ BK5.out 3).trans rfl
 have hfs58 := kf_ BK5.out 3
 have hns9_0 := NB1_5.out
 have hns9_1 := NB2_5.out
 have hns9_2 := NB3_5.out
 have hns9_3 := NB4_5.out
 have hms9_0 := NB5_1.out
 have hms9_1 := NB5_2.out
 have hms9_2 := NB5_3.out
 have hms9_3 := NB5_4.out
 have hs59 : w10.cell? ⟨gb5, 4, none⟩ = some (.int .i64 0) := (kc_ BK5.out 4).trans rfl
 have hfs59 := kf_ BK5.out 4
 have hns10_0 := NB1_5.out
 have hns10_1 := NB2_5.out
 have hns10_2 := NB3_5.out
 have hns10_3 := NB4_5.out
 have hms10_0 := NB5_1.out
 have hms10_1 := NB5_2.out
 have hms10_2 := NB5_3.out
 have hms10_3 := NB5_4.out
 refine skip_ (w1 := ?_) (by rfl) rfl ?_ ?_
 rotate_left
 ·go_simp
  rfl
 refine hK.out _ _ ⟨((cell_far (p := ⟨gb5, _, none⟩) NB4_5.out _).trans (((cell_far (p := ⟨gb5, _, none⟩) NB4_5.out _).trans (((cell_far (p := ⟨gb5, _, none⟩) NB4_5.out _).trans (((cell_far (p := ⟨gb5, _, none⟩) NB4_5.out _).trans (((cell_far (p := ⟨gb5, _, none⟩) NB4_5.out _).trans (hHeld.1)))))))))), ((cell_far (p := ⟨gb5, _, none⟩) NB4_5.out _).trans (((cell_far (p := ⟨gb5, _, none⟩) NB4_5.out _).trans (((cell_far (p := ⟨gb5, _, none⟩) NB4_5.out _).trans (((cell_far (p := ⟨gb5, _, none⟩) NB4_5.out _).trans (((cell_far (p := ⟨gb5, _, none⟩) NB4_5.out _).trans (hHeld.2.1)))))))))), ((cell_far (p := ⟨gb5, _, none⟩) NB4_5.out _).trans (((cell_far (p := ⟨gb5, _, none⟩) NB4_5.out _).trans (((cell_far (p := ⟨gb5, _, none⟩) NB4_5.out _).trans (((cell_far (p := ⟨gb5, _, none⟩) NB4_5.out _).trans (((cell_far (p := ⟨gb5, _, none⟩) NB4_5.out _).trans (hHeld.2.2.1)))))))))), ((cell_far (p := ⟨gb5, _, none⟩) NB4_5.out _).trans (((cell_far (p := ⟨gb5, _, none⟩) NB4_5.out _).trans (((cell_far (p := ⟨gb5, _, none⟩) NB4_5.out _).trans (((cell_far (p := ⟨gb5, _, none⟩) NB4_5.out _).trans (((cell_far (p := ⟨gb5, _, none⟩) NB4_5.out _).trans (hHeld.2.2.2.1)))))))))), ((cell_far (p := ⟨gb5, _, none⟩) NB4_5.out _).trans (((cell_far (p := ⟨gb5, _, none⟩) NB4_5.out _).trans (((cell_far (p := ⟨gb5, _, none⟩) NB4_5.out _).trans (((cell_far (p := ⟨gb5, _, none⟩) NB4_5.out _).trans (((cell_far (p := ⟨gb5, _, none⟩) NB4_5.out _).trans (hHeld.2.2.2.2.1)))))))))), ((cell_far (p := ⟨gb5, _, none⟩) NB2_5.out _).trans (((cell_far (p := ⟨gb5, _, none⟩) NB2_5.out _).trans (((cell_far (p := ⟨gb5, _, none⟩) NB2_5.out _).trans (((cell_far (p := ⟨gb5, _, none⟩) NB2_5.out _).trans (((cell_far (p := ⟨gb5, _, none⟩) NB2_5.out _).trans (hHeld.2.2.2.2.2.1)))))))))), ((cell_far (p := ⟨gb5, _, none⟩) NB2_5.out _).trans (((cell_far (p := ⟨gb5, _, none⟩) NB2_5.out _).trans (((cell_far (p := ⟨gb5, _, none⟩) NB2_5.out _).trans (((cell_far (p := ⟨gb5, _, none⟩) NB2_5.out _).trans (((cell_far (p := ⟨gb5, _, none⟩) NB2_5.out _).trans (hHeld.2.2.2.2.2.2.1)))))))))), ((cell_far (p := ⟨gb5, _, none⟩) NB2_5.out _).trans (((cell_far (p := ⟨gb5, _, none⟩) NB2_5.out _).trans (((cell_far (p := ⟨gb5, _, none⟩) NB2_5.out _).trans (((cell_far (p := ⟨gb5, _, none⟩) NB2_5.out _).trans (((cell_far (p := ⟨gb5, _, none⟩) NB2_5.out _).trans (hHeld.2.2.2.2.2.2.2))))))))))⟩ (fun hHeld => ?_)
 clear hK K
 refine pu_ 9 10 ?_
 refine dn_ ?_
 go_upto_region 8 with (fail)
 go_cut [46] from 16 to 46 (fun v9 wc => ∃ (kq : Nat) (x46_15 : Bool), v9 = .bool x46_15 ∧ Aside0 (laws_FnExactDoWork.j0 kq t16 t30 x46_15 a0_0 a0_1 l0_2 l0_3 a0_4 a1_0 a1_1 a1_2 t11 t12 t13 t14 t15 t17 t18 t19 t20 t21 t25 t26 t27 t28 t29 = some r) ∧ Aside0 (kq ≤ k) ∧ Aside0 (Kd.R (Kd.int .i64) 3 wc w.heap.size (fun k_ => no_ (.slice Ao2 t14.length co2) k_ ∧ no_ (.slice Ao3 t19.length co3) k_ ∧ no_ (.slice Ao4 t20.length co4) k_ ∧ no_ (.slice Ao5 t27.length co5) k_ ∧ no_ (.slice Ao6 t28.length co6) k_) (.slice Ao1 t13.length co1) t13) ∧ Aside0 (Kd.R (Kd.int .i64) 3 wc w.heap.size (fun k_ => no_ (.slice Ao1 t13.length co1) k_ ∧ no_ (.slice Ao3 t19.length co3) k_ ∧ no_ (.slice Ao4 t20.length co4) k_ ∧ no_ (.slice Ao5 t27.length co5) k_ ∧ no_ (.slice Ao6 t28.length co6) k_) (.slice Ao2 t14.length co2) t14) ∧ Aside0 (Kd.R (Kd.int .i64) 3 wc w.heap.size (fun k_ => no_ (.slice Ao1 t13.length co1) k_ ∧ no_ (.slice Ao2 t14.length co2) k_ ∧ no_ (.slice Ao4 t20.length co4) k_ ∧ no_ (.slice Ao5 t27.length co5) k_ ∧ no_ (.slice Ao6 t28.length co6) k_) (.slice Ao3 t19.length co3) t19) ∧ Aside0 (Kd.R (Kd.int .i64) 3 wc w.heap.size (fun k_ => no_ (.slice Ao1 t13.length co1) k_ ∧ no_ (.slice Ao2 t14.length co2) k_ ∧ no_ (.slice Ao3 t19.length co3) k_ ∧ no_ (.slice Ao5 t27.length co5) k_ ∧ no_ (.slice Ao6 t28.length co6) k_) (.slice Ao4 t20.length co4) t20) ∧ Aside0 (Kd.R (Kd.int .i64) 3 wc w.heap.size (fun k_ => no_ (.slice Ao1 t13.length co1) k_ ∧ no_ (.slice Ao2 t14.length co2) k_ ∧ no_ (.slice Ao3 t19.length co3) k_ ∧ no_ (.slice Ao4 t20.length co4) k_ ∧ no_ (.slice Ao6 t28.length co6) k_) (.slice Ao5 t27.length co5) t27) ∧ Aside0 (Kd.R (Kd.int .i64) 3 wc w.heap.size (fun k_ => no_ (.slice Ao1 t13.length co1) k_ ∧ no_ (.slice Ao2 t14.length co2) k_ ∧ no_ (.slice Ao3 t19.length co3) k_ ∧ no_ (.slice Ao4 t20.length co4) k_ ∧ no_ (.slice Ao5 t27.length co5) k_) (.slice Ao6 t28.length co6) t28) ∧ Aside0 (wc.heap[gb1]? = some (.cells #[.int .i64 a0_0, .bool a0_1, (.slice A0_2 l0_2.length c0_2), (.slice A0_3 l0_3.length c0_3), .int .i64 a0_4] 34 (0, 0))) ∧ Aside0 (wc.heap[gb2]? = some (.cells #[.int .i64 a1_0, .int .i64 a1_1, .int .i64 a1_2] 43 (0, 0))) ∧ Aside0 (wc.heap[gb3]? = some (.cells #[.int .i64 t11, .bool t12, (.slice Ao1 t13.length co1), (.slice Ao2 t14.length co2), .int .i64 t15] 26 (0, 0))) ∧ Aside0 (wc.heap[gb4]? = some (.cells #[.int .i64 t17, .bool t18, (.slice Ao3 t19.length co3), (.slice Ao4 t20.length co4), .int .i64 t21] 26 (0, 0))) ∧ Aside0 (wc.heap[gb5]? = some (.cells #[.int .i64 t25, .bool t26, (.slice Ao5 t27.length co5), (.slice Ao6 t28.length co6), .int .i64 t29] 26 (0, 0))) ∧ Aside0 (Below w.heap.size w wc))
 case first =>
  have H := HC16.out
  clear HC16
  obtain ⟨t2, A16, H⟩ := o1_ H
  by_cases c2 : t2 = true
  ·subst c2
   rw [if_pos rfl] at H
   have H' := A0_ H
   clear H
   have hnb6 := NB5_1.out
   have hnc6 := NB1_5.out
   have hnb7 := NB5_2.out
   have hnc7 := NB2_5.out
   have hnb8 := NB5_3.out
   have hnc8 := NB3_5.out
   have hnb9 := NB5_4.out
   have hnc9 := NB4_5.out
   have hcz4 := z5_ BK5
   have hnb10 := NB3_1.out
   have hnc10 := NB1_3.out
   have hnb11 := NB3_2.out
   have hnc11 := NB2_3.out
   have hnb12 := NB3_4.out
   have hnc12 := NB4_3.out
   have hcz5 := z5_ BK3
   go_wp2_with (first | ((with_reducible refine gc_ (f := 9) rfl ?_); refine gl_ 40 Tryd.func9 #[.agg #[.int .i64 t25, .bool t26, .slice Ao5 t27.length co5, .slice Ao6 t28.length co6, .int .i64 t29], .agg #[.int .i64 t11, .bool t12, .slice Ao1 t13.length co1, .slice Ao2 t14.length co2, .int .i64 t15]] ?_; (with_reducible refine (laws_eqHouse.calls k t25 t26 _ _ t27 _ _ t28 t29 t11 t12 _ _ t13 _ _ t14 t15 true _ ?side1 ?side2 ?side3 ?side4 ?side5 ?side6 ?side7 ?side8 A16.out).mono ?_); (case side1 => refine (rr_ (e := 3) (base := w.heap.size) (ok := fun k_ => (no_ v1 k_ ∧ (no_ v2 k_ ∧ (no_ (.slice Ao1 t13.length co1) k_ ∧ (no_ (.slice Ao2 t14.length co2) k_ ∧ (no_ (.slice Ao3 t19.length co3) k_ ∧ (no_ (.slice Ao4 t20.length co4) k_ ∧ no_ (.slice Ao6 t28.length co6) k_))))))) (n := t27.length) (c := co5) ?_).2.2; exact b7z0_); (case side2 => exact (rr_ HO7.out).2.1); (case side3 => refine (rr_ (e := 3) (base := w.heap.size) (ok := fun k_ => (no_ v1 k_ ∧ (no_ v2 k_ ∧ (no_ (.slice Ao1 t13.length co1) k_ ∧ (no_ (.slice Ao2 t14.length co2) k_ ∧ (no_ (.slice Ao3 t19.length co3) k_ ∧ (no_ (.slice Ao4 t20.length co4) k_ ∧ no_ (.slice Ao5 t27.length co5) k_))))))) (n := t28.length) (c := co6) ?_).2.2; exact b8kt_); (case side4 => exact (rr_ HO8.out).2.1); (case side5 => refine (rr_ (e := 3) (base := w.heap.size) (ok := fun k_ => (no_ v1 k_ ∧ (no_ v2 k_ ∧ (no_ (.slice Ao2 t14.length co2) k_ ∧ (no_ (.slice Ao3 t19.length co3) k_ ∧ (no_ (.slice Ao4 t20.length co4) k_ ∧ (no_ (.slice Ao5 t27.length co5) k_ ∧ no_ (.slice Ao6 t28.length co6) k_))))))) (n := t13.length) (c := co1) ?_).2.2; exact brk4_); (case side6 => exact (rr_ HO3.out).2.1); (case side7 => refine (rr_ (e := 3) (base := w.heap.size) (ok := fun k_ => (no_ v1 k_ ∧ (no_ v2 k_ ∧ (no_ (.slice Ao1 t13.length co1) k_ ∧ (no_ (.slice Ao3 t19.length co3) k_ ∧ (no_ (.slice Ao4 t20.length co4) k_ ∧ (no_ (.slice Ao5 t27.length co5) k_ ∧ no_ (.slice Ao6 t28.length co6) k_))))))) (n := t14.length) (c := co2) ?_).2.2; exact bn4c_); (case side8 => exact (rr_ HO4.out).2.1); rintro e w11 ⟨rfl, hb⟩; refine ⟨_, rfl, ?_⟩; replace HO1 := A0_ (Kd.R_below bn4l_ hb); replace HO2 := A0_ (Kd.R_below bsm6_ hb); replace HO3 := A0_ (Kd.R_below brk4_ hb); replace HO4 := A0_ (Kd.R_below bn4c_ hb); replace HO5 := A0_ (Kd.R_below bg2h_ hb); replace HO6 := A0_ (Kd.R_below baf4_ hb); replace HO7 := A0_ (Kd.R_below b7z0_ hb); replace HO8 := A0_ (Kd.R_below b8kt_ hb); replace BK1 := k1_ BK1 hb; replace BK2 := k1_ BK2 hb; replace BK3 := k1_ BK3 hb; replace BK4 := k1_ BK4 hb; replace BK5 := k2_ (.cells #[.int .i64 t25, .bool t26, .slice Ao5 t27.length co5, .slice Ao6 t28.length co6, .int .i64 t29] 26 (0, 0)) BK5 hb; replace HB := hb_ hb b5zo_; (try clear hb)))
   go_meet
   exact ⟨_, ((t30 != t16)), b2ew_, H', ⟨bbn0_⟩, ⟨brf7_⟩, ⟨b36k_⟩, ⟨bs7h_⟩, ⟨bf7q_⟩, ⟨b174_⟩, ⟨bn9e_⟩, ⟨u1_ BK1⟩, ⟨u1_ BK2⟩, ⟨u1_ BK3⟩, ⟨u1_ BK4⟩, ⟨u1_ BK5⟩, ⟨b5zo_⟩⟩
  obtain rfl := bf_.mpr c2
  rw [if_neg ft_] at H
  have H' := A0_ H
  clear H
  have hnb6 := NB5_1.out
  have hnc6 := NB1_5.out
  have hnb7 := NB5_2.out
  have hnc7 := NB2_5.out
  have hnb8 := NB5_3.out
  have hnc8 := NB3_5.out
  have hnb9 := NB5_4.out
  have hnc9 := NB4_5.out
  have hcz4 := z5_ BK5
  have hnb10 := NB3_1.out
  have hnc10 := NB1_3.out
  have hnb11 := NB3_2.out
  have hnc11 := NB2_3.out
  have hnb12 := NB3_4.out
  have hnc12 := NB4_3.out
  have hcz5 := z5_ BK3
  go_wp2_with (first | ((with_reducible refine gc_ (f := 9) rfl ?_); refine gl_ 40 Tryd.func9 #[.agg #[.int .i64 t25, .bool t26, .slice Ao5 t27.length co5, .slice Ao6 t28.length co6, .int .i64 t29], .agg #[.int .i64 t11, .bool t12, .slice Ao1 t13.length co1, .slice Ao2 t14.length co2, .int .i64 t15]] ?_; (with_reducible refine (laws_eqHouse.calls k t25 t26 _ _ t27 _ _ t28 t29 t11 t12 _ _ t13 _ _ t14 t15 false _ ?side1 ?side2 ?side3 ?side4 ?side5 ?side6 ?side7 ?side8 A16.out).mono ?_); (case side1 => refine (rr_ (e := 3) (base := w.heap.size) (ok := fun k_ => (no_ v1 k_ ∧ (no_ v2 k_ ∧ (no_ (.slice Ao1 t13.length co1) k_ ∧ (no_ (.slice Ao2 t14.length co2) k_ ∧ (no_ (.slice Ao3 t19.length co3) k_ ∧ (no_ (.slice Ao4 t20.length co4) k_ ∧ no_ (.slice Ao6 t28.length co6) k_))))))) (n := t27.length) (c := co5) ?_).2.2; exact b7z0_); (case side2 => exact (rr_ HO7.out).2.1); (case side3 => refine (rr_ (e := 3) (base := w.heap.size) (ok := fun k_ => (no_ v1 k_ ∧ (no_ v2 k_ ∧ (no_ (.slice Ao1 t13.length co1) k_ ∧ (no_ (.slice Ao2 t14.length co2) k_ ∧ (no_ (.slice Ao3 t19.length co3) k_ ∧ (no_ (.slice Ao4 t20.length co4) k_ ∧ no_ (.slice Ao5 t27.length co5) k_))))))) (n := t28.length) (c := co6) ?_).2.2; exact b8kt_); (case side4 => exact (rr_ HO8.out).2.1); (case side5 => refine (rr_ (e := 3) (base := w.heap.size) (ok := fun k_ => (no_ v1 k_ ∧ (no_ v2 k_ ∧ (no_ (.slice Ao2 t14.length co2) k_ ∧ (no_ (.slice Ao3 t19.length co3) k_ ∧ (no_ (.slice Ao4 t20.length co4) k_ ∧ (no_ (.slice Ao5 t27.length co5) k_ ∧ no_ (.slice Ao6 t28.length co6) k_))))))) (n := t13.length) (c := co1) ?_).2.2; exact brk4_); (case side6 => exact (rr_ HO3.out).2.1); (case side7 => refine (rr_ (e := 3) (base := w.heap.size) (ok := fun k_ => (no_ v1 k_ ∧ (no_ v2 k_ ∧ (no_ (.slice Ao1 t13.length co1) k_ ∧ (no_ (.slice Ao3 t19.length co3) k_ ∧ (no_ (.slice Ao4 t20.length co4) k_ ∧ (no_ (.slice Ao5 t27.length co5) k_ ∧ no_ (.slice Ao6 t28.length co6) k_))))))) (n := t14.length) (c := co2) ?_).2.2; exact bn4c_); (case side8 => exact (rr_ HO4.out).2.1); rintro e w11 ⟨rfl, hb⟩; refine ⟨_, rfl, ?_⟩; replace HO1 := A0_ (Kd.R_below bn4l_ hb); replace HO2 := A0_ (Kd.R_below bsm6_ hb); replace HO3 := A0_ (Kd.R_below brk4_ hb); replace HO4 := A0_ (Kd.R_below bn4c_ hb); replace HO5 := A0_ (Kd.R_below bg2h_ hb); replace HO6 := A0_ (Kd.R_below baf4_ hb); replace HO7 := A0_ (Kd.R_below b7z0_ hb); replace HO8 := A0_ (Kd.R_below b8kt_ hb); replace BK1 := k1_ BK1 hb; replace BK2 := k1_ BK2 hb; replace BK3 := k1_ BK3 hb; replace BK4 := k1_ BK4 hb; replace BK5 := k2_ (.cells #[.int .i64 t25, .bool t26, .slice Ao5 t27.length co5, .slice Ao6 t28.length co6, .int .i64 t29] 26 (0, 0)) BK5 hb; replace HB := hb_ hb b5zo_; (try clear hb)))
  go_meet
  exact ⟨_, (true), b2ew_, H', ⟨bbn0_⟩, ⟨brf7_⟩, ⟨b36k_⟩, ⟨bs7h_⟩, ⟨bf7q_⟩, ⟨b174_⟩, ⟨bn9e_⟩, ⟨u1_ BK1⟩, ⟨u1_ BK2⟩, ⟨u1_ BK3⟩, ⟨u1_ BK4⟩, ⟨u1_ BK5⟩, ⟨b5zo_⟩⟩
 clear HC16
 obtain ⟨kq, x46_15, rfl, HA, HJ1, HO_1, HO_2, HO_3, HO_4, HO_5, HO_6, BK1, BK2, BK3, BK4, BK5, HB⟩ := hcut
 cases kq with | zero => exact absurd HA.out (by simp [laws_FnExactDoWork.j0]) | succ kj1 => ?_
 as_aux_lemma =>
 have H := HA.out
 clear HA
 simp only [laws_FnExactDoWork.j0] at H
 by_cases c2 : x46_15 = true
 ·subst c2
  rw [if_pos rfl] at H
  obtain rfl := si_ H
  go_wp2
  go_ret
  exact ⟨bnwh_, b5zo_⟩
 obtain rfl := bf_.mpr c2
 rw [if_neg ft_] at H
 obtain ⟨⟨t31, t32, t33, t34, t35⟩, A16, H⟩ := o1_ H
 obtain ⟨t36, A18, H⟩ := o1_ H
 by_cases c3 : t36 = true
 case neg =>
  obtain rfl := bf_.mpr c3
  rw [if_neg ft_] at H
  obtain rfl := si_ H
  try go_wp2
  replace HO_1 := A0_ (rd_ HO_1.out)
  replace HO_2 := A0_ (rd_ HO_2.out)
  replace HO_3 := A0_ (rd_ HO_3.out)
  replace HO_4 := A0_ (rd_ HO_4.out)
  replace HO_5 := A0_ (rd_ HO_5.out)
  replace HO_6 := A0_ (rd_ HO_6.out)
  replace BK1 := A0_ (kd_ BK1.out)
  replace BK2 := A0_ (kd_ BK2.out)
  replace BK3 := A0_ (kd_ BK3.out)
  replace BK4 := A0_ (kd_ BK4.out)
  replace BK5 := A0_ (kd_ BK5.out)
  replace HB := A0_ (bd_ HB.out)
  refine start_ (n := 5) (S := fun w' => w'.cell? ⟨gb4, 0, none⟩ = some (.int .i64 t17) ∧ w'.cell? ⟨gb4, 1, none⟩ = some (.bool t18) ∧ w'.cell? ⟨gb4, 2, none⟩ = some (.slice Ao3 t19.length co3) ∧ w'.cell? ⟨gb4, 3, none⟩ = some (.slice Ao4 t20.length co4) ∧ w'.cell? ⟨gb4, 4, none⟩ = some (.int .i64 t21) ∧ w'.cell? ⟨gb1, 0, none⟩ = some (.int .i64 a0_0) ∧ w'.cell? ⟨gb1, 1, none⟩ = some (.bool a0_1) ∧ w'.cell? ⟨gb1, 2, none⟩ = some (.slice A0_2 l0_2.length c0_2) ∧ w'.cell? ⟨gb1, 3, none⟩ = some (.slice A0_3 l0_3.length c0_3) ∧ w'.cell? ⟨gb1, 4, none⟩ = some (.int .i64 a0_4)) (ds := []) #[false, false, false, false, false] bfqv_ rfl rfl ⟨(kc_ BK4.out 0).trans rfl, (kc_ BK4.out 1).trans rfl, (kc_ BK4.out 2).trans rfl, (kc_ BK4.out 3).trans rfl, (kc_ BK4.out 4).trans rfl, (kc_ BK1.out 0).trans rfl, (kc_ BK1.out 1).trans rfl, (kc_ BK1.out 2).trans rfl, (kc_ BK1.out 3).trans rfl, (kc_ BK1.out 4).trans rfl⟩ (fun hHeld => ?_)
  generalize wc.drew = w11 at HO_1 HO_2 HO_3 HO_4 HO_5 HO_6 BK1 BK2 BK3 BK4 BK5 HB hHeld ⊢
  refine tk_ 0 47 hHeld ?_
  refine tk_ 1 48 hHeld ?_
  refine on_ 2 (some 49) (fun K hK => ?_)
  refine gs_ Tryd.func14 #[.agg #[.int .i64 a0_0, .bool a0_1, .slice A0_2 l0_2.length c0_2, .slice A0_3 l0_3.length c0_3, .int .i64 a0_4]] ?_
  with_reducible refine (laws_toHouse.calls kj1 a0_0 a0_1 _ _ l0_2 _ _ l0_3 a0_4 t31 t32 t33 t34 t35 _ ?side1 ?side2 ?side3 ?side4 A16.out).mono ?_
  (case side1 => exact b6n8_)
  (case side2 => exact HC0_2.out)
  (case side3 => exact bkan_)
  (case side4 => exact HC0_3.out)
  rintro e w12 ⟨v10, v11, rfl, ho0, ho1, hb⟩
  refine ⟨_, rfl, ?_⟩
  have HO9 := A0_ (Kd.R_lower (Kd.R_new' (Kd.R_new' (Kd.R_new' (Kd.R_new' (Kd.R_new' (Kd.R_new' ho0 (Kd.R_lt bwik_)) (Kd.R_lt b7sq_)) (Kd.R_lt bzfm_)) (Kd.R_lt b0mw_)) (Kd.R_lt bqlr_)) (Kd.R_lt bj2s_)) (bz_ b5zo_))
  have HO10 := A0_ (Kd.R_lower (Kd.R_new' (Kd.R_new' (Kd.R_new' (Kd.R_new' (Kd.R_new' (Kd.R_new' ho1 (Kd.R_lt bwik_)) (Kd.R_lt b7sq_)) (Kd.R_lt bzfm_)) (Kd.R_lt b0mw_)) (Kd.R_lt bqlr_)) (Kd.R_lt bj2s_)) (bz_ b5zo_))
  replace HO_1 := A0_ (Kd.R_mono (Kd.R_told (Kd.R_told (Kd.R_old bwik_ hb) (Kd.R_base ho0)) (Kd.R_base ho1)) (fun _ h_ => h_.1))
  replace HO_2 := A0_ (Kd.R_mono (Kd.R_told (Kd.R_told (Kd.R_old b7sq_ hb) (Kd.R_base ho0)) (Kd.R_base ho1)) (fun _ h_ => h_.1))
  replace HO_3 := A0_ (Kd.R_mono (Kd.R_told (Kd.R_told (Kd.R_old bzfm_ hb) (Kd.R_base ho0)) (Kd.R_base ho1)) (fun _ h_ => h_.1))
  replace HO_4 := A0_ (Kd.R_mono (Kd.R_told (Kd.R_told (Kd.R_old b0mw_ hb) (Kd.R_base ho0)) (Kd.R_base ho1)) (fun _ h_ => h_.1))
  replace HO_5 := A0_ (Kd.R_mono (Kd.R_told (Kd.R_told (Kd.R_old bqlr_ hb) (Kd.R_base ho0)) (Kd.R_base ho1)) (fun _ h_ => h_.1))
  replace HO_6 := A0_ (Kd.R_mono (Kd.R_told (Kd.R_told (Kd.R_old bj2s_ hb) (Kd.R_base ho0)) (Kd.R_base ho1)) (fun _ h_ => h_.1))
  replace BK1 := k1_ BK1 hb
  replace BK2 := k1_ BK2 hb
  replace BK3 := k1_ BK3 hb
  replace BK4 := k1_ BK4 hb
  replace BK5 := k1_ BK5 hb
  replace HB := hb_ hb b5zo_
  (try clear hb); (try clear ho0); (try clear ho1)
  obtain ⟨Ao7, co7, eo7⟩ := Kd.R_slice HO9.out
  (first | subst eo7 | (injection eo7 with f1_ f2_ f3_; have f4_ := f1_.symm; have f5_ := f3_.symm; clear f1_ f2_ f3_; subst f4_; subst f5_))
  obtain ⟨Ao8, co8, eo8⟩ := Kd.R_slice HO10.out
  (first | subst eo8 | (injection eo8 with f1_ f2_ f3_; have f4_ := f1_.symm; have f5_ := f3_.symm; clear f1_ f2_ f3_; subst f4_; subst f5_))
  refine hK.out _ _ ⟨(kc_ BK4.out 0).trans rfl, (kc_ BK4.out 1).trans rfl, (kc_ BK4.out 2).trans rfl, (kc_ BK4.out 3).trans rfl, (kc_ BK4.out 4).trans rfl, (kc_ BK1.out 0).trans rfl, (kc_ BK1.out 1).trans rfl, (kc_ BK1.out 2).trans rfl, (kc_ BK1.out 3).trans rfl, (kc_ BK1.out 4).trans rfl⟩ (fun hHeld => ?_)
  clear hK K
  refine nm_ 49 ?_
  refine on_ 3 (some 50) (fun K hK => ?_)
  refine gs_ Tryd.func9 #[.agg #[.int .i64 t17, .bool t18, .slice Ao3 t19.length co3, .slice Ao4 t20.length co4, .int .i64 t21], .agg #[.int .i64 t31, .bool t32, .slice Ao7 t33.length co7, .slice Ao8 t34.length co8, .int .i64 t35]] ?_
  with_reducible refine (laws_eqHouse.calls kj1 t17 t18 _ _ t19 _ _ t20 t21 t31 t32 _ _ t33 _ _ t34 t35 false _ ?side1 ?side2 ?side3 ?side4 ?side5 ?side6 ?side7 ?side8 A18.out).mono ?_
  (case side1 => exact b1kt_)
  (case side2 => exact (rr_ HO_3.out).2.1)
  (case side3 => exact baxz_)
  (case side4 => exact (rr_ HO_4.out).2.1)
  (case side5 => exact bp3j_)
  (case side6 => exact (rr_ HO9.out).2.1)
  (case side7 => exact bqkm_)
  (case side8 => exact (rr_ HO10.out).2.1)
  rintro e w13 ⟨rfl, hb⟩
  refine ⟨_, rfl, ?_⟩
  replace HO_1 := A0_ (Kd.R_below bwik_ hb)
  replace HO_2 := A0_ (Kd.R_below b7sq_ hb)
  replace HO_3 := A0_ (Kd.R_below bzfm_ hb)
  replace HO_4 := A0_ (Kd.R_below b0mw_ hb)
  replace HO_5 := A0_ (Kd.R_below bqlr_ hb)
  replace HO_6 := A0_ (Kd.R_below bj2s_ hb)
  replace HO9 := A0_ (Kd.R_below bsgt_ hb)
  replace HO10 := A0_ (Kd.R_below b197_ hb)
  replace BK1 := k1_ BK1 hb
  replace BK2 := k1_ BK2 hb
  replace BK3 := k1_ BK3 hb
  replace BK4 := k1_ BK4 hb
  replace BK5 := k1_ BK5 hb
  replace HB := hb_ hb b5zo_
  (try clear hb)
  refine hK.out _ _ ⟨(kc_ BK4.out 0).trans rfl, (kc_ BK4.out 1).trans rfl, (kc_ BK4.out 2).trans rfl, (kc_ BK4.out 3).trans rfl, (kc_ BK4.out 4).trans rfl, (kc_ BK1.out 0).trans rfl, (kc_ BK1.out 1).trans rfl, (kc_ BK1.out 2).trans rfl, (kc_ BK1.out 3).trans rfl, (kc_ BK1.out 4).trans rfl⟩ (fun hHeld => ?_)
  clear hK K
  refine nm_ 50 ?_
  refine pu_ 4 51 ?_
  refine done_ bfqv_ ?_
  try go_wp2
  go_ret
  exact ⟨bnwh_, b5zo_⟩
 subst c3
 rw [if_pos rfl] at H
 obtain ⟨⟨t37, t38, t39⟩, A20, H⟩ := o1_ H
 have HC87 := A0_ H
 clear H
 try go_wp2
 replace HO_1 := A0_ (rd_ HO_1.out)
 replace HO_2 := A0_ (rd_ HO_2.out)
 replace HO_3 := A0_ (rd_ HO_3.out)
 replace HO_4 := A0_ (rd_ HO_4.out)
 replace HO_5 := A0_ (rd_ HO_5.out)
 replace HO_6 := A0_ (rd_ HO_6.out)
 replace BK1 := A0_ (kd_ BK1.out)
 replace BK2 := A0_ (kd_ BK2.out)
 replace BK3 := A0_ (kd_ BK3.out)
 replace BK4 := A0_ (kd_ BK4.out)
 replace BK5 := A0_ (kd_ BK5.out)
 replace HB := A0_ (bd_ HB.out)
 refine start_ (n := 5) (S := fun w' => w'.cell? ⟨gb4, 0, none⟩ = some (.int .i64 t17) ∧ w'.cell? ⟨gb4, 1, none⟩ = some (.bool t18) ∧ w'.cell? ⟨gb4, 2, none⟩ = some (.slice Ao3 t19.length co3) ∧ w'.cell? ⟨gb4, 3, none⟩ = some (.slice Ao4 t20.length co4) ∧ w'.cell? ⟨gb4, 4, none⟩ = some (.int .i64 t21) ∧ w'.cell? ⟨gb1, 0, none⟩ = some (.int .i64 a0_0) ∧ w'.cell? ⟨gb1, 1, none⟩ = some (.bool a0_1) ∧ w'.cell? ⟨gb1, 2, none⟩ = some (.slice A0_2 l0_2.length c0_2) ∧ w'.cell? ⟨gb1, 3, none⟩ = some (.slice A0_3 l0_3.length c0_3) ∧ w'.cell? ⟨gb1, 4, none⟩ = some (.int .i64 a0_4)) (ds := []) #[false, false, false, false, false] bfqv_ rfl rfl ⟨(kc_ BK4.out 0).trans rfl, (kc_ BK4.out 1).trans rfl, (kc_ BK4.out 2).trans rfl, (kc_ BK4.out 3).trans rfl, (kc_ BK4.out 4).trans rfl, (kc_ BK1.out 0).trans rfl, (kc_ BK1.out 1).trans rfl, (kc_ BK1.out 2).trans rfl, (kc_ BK1.out 3).trans rfl, (kc_ BK1.out 4).trans rfl⟩ (fun hHeld => ?_)
 generalize wc.drew = w11 at HO_1 HO_2 HO_3 HO_4 HO_5 HO_6 BK1 BK2 BK3 BK4 BK5 HB hHeld ⊢
 refine tk_ 0 47 hHeld ?_
 refine tk_ 1 48 hHeld ?_
 refine on_ 2 (some 49) (fun K hK => ?_)
 refine gs_ Tryd.func14 #[.agg #[.int .i64 a0_0, .bool a0_1, .slice A0_2 l0_2.length c0_2, .slice A0_3 l0_3.length c0_3, .int .i64 a0_4]] ?_
 with_reducible refine (laws_toHouse.calls kj1 a0_0 a0_1 _ _ l0_2 _ _ l0_3 a0_4 t31 t32 t33 t34 t35 _ ?side1 ?side2 ?side3 ?side4 A16.out).mono ?_
 (case side1 => exact b6n8_)
 (case side2 => exact HC0_2.out)
 (case side3 => exact bkan_)
 (case side4 => exact HC0_3.out)
 rintro e w12 ⟨v10, v11, rfl, ho0, ho1, hb⟩
 refine ⟨_, rfl, ?_⟩
 have HO9 := A0_ (Kd.R_lower (Kd.R_new' (Kd.R_new' (Kd.R_new' (Kd.R_new' (Kd.R_new' (Kd.R_new' ho0 (Kd.R_lt bwik_)) (Kd.R_lt b7sq_)) (Kd.R_lt bzfm_)) (Kd.R_lt b0mw_)) (Kd.R_lt bqlr_)) (Kd.R_lt bj2s_)) (bz_ b5zo_))
 have HO10 := A0_ (Kd.R_lower (Kd.R_new' (Kd.R_new' (Kd.R_new' (Kd.R_new' (Kd.R_new' (Kd.R_new' ho1 (Kd.R_lt bwik_)) (Kd.R_lt b7sq_)) (Kd.R_lt bzfm_)) (Kd.R_lt b0mw_)) (Kd.R_lt bqlr_)) (Kd.R_lt bj2s_)) (bz_ b5zo_))
 replace HO_1 := A0_ (Kd.R_mono (Kd.R_told (Kd.R_told (Kd.R_old bwik_ hb) (Kd.R_base ho0)) (Kd.R_base ho1)) (fun _ h_ => h_.1))
 replace HO_2 := A0_ (Kd.R_mono (Kd.R_told (Kd.R_told (Kd.R_old b7sq_ hb) (Kd.R_base ho0)) (Kd.R_base ho1)) (fun _ h_ => h_.1))
 replace HO_3 := A0_ (Kd.R_mono (Kd.R_told (Kd.R_told (Kd.R_old bzfm_ hb) (Kd.R_base ho0)) (Kd.R_base ho1)) (fun _ h_ => h_.1))
 replace HO_4 := A0_ (Kd.R_mono (Kd.R_told (Kd.R_told (Kd.R_old b0mw_ hb) (Kd.R_base ho0)) (Kd.R_base ho1)) (fun _ h_ => h_.1))
 replace HO_5 := A0_ (Kd.R_mono (Kd.R_told (Kd.R_told (Kd.R_old bqlr_ hb) (Kd.R_base ho0)) (Kd.R_base ho1)) (fun _ h_ => h_.1))
 replace HO_6 := A0_ (Kd.R_mono (Kd.R_told (Kd.R_told (Kd.R_old bj2s_ hb) (Kd.R_base ho0)) (Kd.R_base ho1)) (fun _ h_ => h_.1))
 replace BK1 := k1_ BK1 hb
 replace BK2 := k1_ BK2 hb
 replace BK3 := k1_ BK3 hb
 replace BK4 := k1_ BK4 hb
 replace BK5 := k1_ BK5 hb
 replace HB := hb_ hb b5zo_
 (try clear hb); (try clear ho0); (try clear ho1)
 obtain ⟨Ao7, co7, eo7⟩ := Kd.R_slice HO9.out
 (first | subst eo7 | (injection eo7 with f1_ f2_ f3_; have f4_ := f1_.symm; have f5_ := f3_.symm; clear f1_ f2_ f3_; subst f4_; subst f5_))
 obtain ⟨Ao8, co8, eo8⟩ := Kd.R_slice HO10.out
 (first | subst eo8 | (injection eo8 with f1_ f2_ f3_; have f4_ := f1_.symm; have f5_ := f3_.symm; clear f1_ f2_ f3_; subst f4_; subst f5_))
 refine hK.out _ _ ⟨(kc_ BK4.out 0).trans rfl, (kc_ BK4.out 1).trans rfl, (kc_ BK4.out 2).trans rfl, (kc_ BK4.out 3).trans rfl, (kc_ BK4.out 4).trans rfl, (kc_ BK1.out 0).trans rfl, (kc_ BK1.out 1).trans rfl, (kc_ BK1.out 2).trans rfl, (kc_ BK1.out 3).trans rfl, (kc_ BK1.out 4).trans rfl⟩ (fun hHeld => ?_)
 clear hK K
 refine nm_ 49 ?_
 refine on_ 3 (some 50) (fun K hK => ?_)
 refine gs_ Tryd.func9 #[.agg #[.int .i64 t17, .bool t18, .slice Ao3 t19.length co3, .slice Ao4 t20.length co4, .int .i64 t21], .agg #[.int .i64 t31, .bool t32, .slice Ao7 t33.length co7, .slice Ao8 t34.length co8, .int .i64 t35]] ?_
 with_reducible refine (laws_eqHouse.calls kj1 t17 t18 _ _ t19 _ _ t20 t21 t31 t32 _ _ t33 _ _ t34 t35 true _ ?side1 ?side2 ?side3 ?side4 ?side5 ?side6 ?side7 ?side8 A18.out).mono ?_
 (case side1 => exact b1kt_)
 (case side2 => exact (rr_ HO_3.out).2.1)
 (case side3 => exact baxz_)
 (case side4 => exact (rr_ HO_4.out).2.1)
 (case side5 => exact bp3j_)
 (case side6 => exact (rr_ HO9.out).2.1)
 (case side7 => exact bqkm_)
 (case side8 => exact (rr_ HO10.out).2.1)
 rintro e w13 ⟨rfl, hb⟩
 refine ⟨_, rfl, ?_⟩
 replace HO_1 := A0_ (Kd.R_below bwik_ hb)
 replace HO_2 := A0_ (Kd.R_below b7sq_ hb)
 replace HO_3 := A0_ (Kd.R_below bzfm_ hb)
 replace HO_4 := A0_ (Kd.R_below b0mw_ hb)
 replace HO_5 := A0_ (Kd.R_below bqlr_ hb)
 replace HO_6 := A0_ (Kd.R_below bj2s_ hb)
 replace HO9 := A0_ (Kd.R_below bsgt_ hb)
 replace HO10 := A0_ (Kd.R_below b197_ hb)
 replace BK1 := k1_ BK1 hb
 replace BK2 := k1_ BK2 hb
 replace BK3 := k1_ BK3 hb
 replace BK4 := k1_ BK4 hb
 replace BK5 := k1_ BK5 hb
 replace HB := hb_ hb b5zo_
 (try clear hb)
 refine hK.out _ _ ⟨(kc_ BK4.out 0).trans rfl, (kc_ BK4.out 1).trans rfl, (kc_ BK4.out 2).trans rfl, (kc_ BK4.out 3).trans rfl, (kc_ BK4.out 4).trans rfl, (kc_ BK1.out 0).trans rfl, (kc_ BK1.out 1).trans rfl, (kc_ BK1.out 2).trans rfl, (kc_ BK1.out 3).trans rfl, (kc_ BK1.out 4).trans rfl⟩ (fun hHeld => ?_)
 clear hK K
 refine nm_ 50 ?_
 refine pu_ 4 51 ?_
 refine done_ bfqv_ ?_
 have hnb6 := NB4_1.out
 have hnc6 := NB1_4.out
 have hnb7 := NB4_2.out
 have hnc7 := NB2_4.out
 have hnb8 := NB4_3.out
 have hnc8 := NB3_4.out
 have hnb9 := NB4_5.out
 have hnc9 := NB5_4.out
 have hcz4 := z5_ BK4
 go_upto_region 14 with (first | ((with_reducible refine gc_ (f := 10) rfl ?_); refine gl_ 54 Tryd.func10 #[.agg #[.int .i64 t17, .bool t18, .slice Ao3 t19.length co3, .slice Ao4 t20.length co4, .int .i64 t21], .int .i64 1] ?_; (with_reducible refine (laws_markHouse.calls kj1 t17 t18 (fun k_ => some k_ = (.slice Ao3 t19.length co3 : Value).ownBlock) (.slice Ao3 t19.length co3) t19 (fun k_ => some k_ = (.slice Ao4 t20.length co4 : Value).ownBlock) (.slice Ao4 t20.length co4) t20 t21 1 t37 t38 t39 w _ ?side1 ?side2 ?side3 ?side4 ?side5 A20.out).mono ?_); (case side1 => exact b5zo_); (case side2 => exact Kd.R_tight rfl HO_3.out); (case side3 => exact fun k_ e_ => (HO_3.out.1 k_ e_.symm).1.1.2.2.1); (case side4 => exact Kd.R_tight rfl HO_4.out); (case side5 => exact fun k_ e_ => (HO_4.out.1 k_ e_.symm).1.1.2.2.1); rintro e w14 ⟨rfl, hy1, hy2, hb, hkp⟩; refine ⟨_, rfl, ?_⟩; replace HO_1 := A0_ (Kd.R_mono (ok' := fun k_ => no_ (.slice Ao2 t14.length co2) k_ ∧ no_ (.slice Ao3 t19.length co3) k_ ∧ no_ (.slice Ao4 t20.length co4) k_ ∧ no_ (.slice Ao5 t27.length co5) k_ ∧ no_ (.slice Ao6 t28.length co6) k_ ∧ no_ (.slice Ao7 t33.length co7) k_ ∧ no_ (.slice Ao8 t34.length co8) k_) (Kd.R_keptB (HO_1.out) hkp (fun k_ hk_ hs_ => Or.elim hs_ (fun e_ => (hk_.1.1.2.1) e_) (fun e_ => (hk_.1.1.2.2.1) e_))) (fun k_ hk_ => ⟨hk_.1.1.1.1, hk_.1.1.1.2.1, hk_.1.1.1.2.2.1, hk_.1.1.1.2.2.2.1, hk_.1.1.1.2.2.2.2, hk_.1.1.2, hk_.1.2⟩)); replace HO_2 := A0_ (Kd.R_mono (ok' := fun k_ => no_ (.slice Ao1 t13.length co1) k_ ∧ no_ (.slice Ao3 t19.length co3) k_ ∧ no_ (.slice Ao4 t20.length co4) k_ ∧ no_ (.slice Ao5 t27.length co5) k_ ∧ no_ (.slice Ao6 t28.length co6) k_ ∧ no_ (.slice Ao7 t33.length co7) k_ ∧ no_ (.slice Ao8 t34.length co8) k_) (Kd.R_keptB (HO_2.out) hkp (fun k_ hk_ hs_ => Or.elim hs_ (fun e_ => (hk_.1.1.2.1) e_) (fun e_ => (hk_.1.1.2.2.1) e_))) (fun k_ hk_ => ⟨hk_.1.1.1.1, hk_.1.1.1.2.1, hk_.1.1.1.2.2.1, hk_.1.1.1.2.2.2.1, hk_.1.1.1.2.2.2.2, hk_.1.1.2, hk_.1.2⟩)); replace HO_5 := A0_ (Kd.R_mono (ok' := fun k_ => no_ (.slice Ao1 t13.length co1) k_ ∧ no_ (.slice Ao2 t14.length co2) k_ ∧ no_ (.slice Ao3 t19.length co3) k_ ∧ no_ (.slice Ao4 t20.length co4) k_ ∧ no_ (.slice Ao6 t28.length co6) k_ ∧ no_ (.slice Ao7 t33.length co7) k_ ∧ no_ (.slice Ao8 t34.length co8) k_) (Kd.R_keptB (HO_5.out) hkp (fun k_ hk_ hs_ => Or.elim hs_ (fun e_ => (hk_.1.1.2.2.1) e_) (fun e_ => (hk_.1.1.2.2.2.1) e_))) (fun k_ hk_ => ⟨hk_.1.1.1.1, hk_.1.1.1.2.1, hk_.1.1.1.2.2.1, hk_.1.1.1.2.2.2.1, hk_.1.1.1.2.2.2.2, hk_.1.1.2, hk_.1.2⟩)); replace HO_6 := A0_ (Kd.R_mono (ok' := fun k_ => no_ (.slice Ao1 t13.length co1) k_ ∧ no_ (.slice Ao2 t14.length co2) k_ ∧ no_ (.slice Ao3 t19.length co3) k_ ∧ no_ (.slice Ao4 t20.length co4) k_ ∧ no_ (.slice Ao5 t27.length co5) k_ ∧ no_ (.slice Ao7 t33.length co7) k_ ∧ no_ (.slice Ao8 t34.length co8) k_) (Kd.R_keptB (HO_6.out) hkp (fun k_ hk_ hs_ => Or.elim hs_ (fun e_ => (hk_.1.1.2.2.1) e_) (fun e_ => (hk_.1.1.2.2.2.1) e_))) (fun k_ hk_ => ⟨hk_.1.1.1.1, hk_.1.1.1.2.1, hk_.1.1.1.2.2.1, hk_.1.1.1.2.2.2.1, hk_.1.1.1.2.2.2.2, hk_.1.1.2, hk_.1.2⟩)); replace BK1 := A0_ (blk_kept (u1_ BK1) hkp (fun hs_ => Or.elim hs_ (fun e_ => (fun e_ => (Kd.R_ne HO_3.out BK1.out bi3y_) e_) e_) (fun e_ => (fun e_ => (Kd.R_ne HO_4.out BK1.out bi3y_) e_) e_))); replace BK2 := A0_ (blk_kept (u1_ BK2) hkp (fun hs_ => Or.elim hs_ (fun e_ => (fun e_ => (Kd.R_ne HO_3.out BK2.out bi3y_) e_) e_) (fun e_ => (fun e_ => (Kd.R_ne HO_4.out BK2.out bi3y_) e_) e_))); replace BK3 := A0_ (blk_kept (u1_ BK3) hkp (fun hs_ => Or.elim hs_ (fun e_ => (fun e_ => (Kd.R_ne HO_3.out BK3.out bi3y_) e_) e_) (fun e_ => (fun e_ => (Kd.R_ne HO_4.out BK3.out bi3y_) e_) e_))); replace BK4 := A0_ (blk_kept (u1_ BK4) hkp (fun hs_ => Or.elim hs_ (fun e_ => (fun e_ => (Kd.R_ne HO_3.out BK4.out bi3y_) e_) e_) (fun e_ => (fun e_ => (Kd.R_ne HO_4.out BK4.out bi3y_) e_) e_))); replace BK5 := A0_ (blk_kept (u1_ BK5) hkp (fun hs_ => Or.elim hs_ (fun e_ => (fun e_ => (Kd.R_ne HO_3.out BK5.out bi3y_) e_) e_) (fun e_ => (fun e_ => (Kd.R_ne HO_4.out BK5.out bi3y_) e_) e_))); replace HO_3 := A0_ (Kd.R_reok rfl hy1 (fun k_ e_ => HO_3.out.1 k_ e_)); replace HO_4 := A0_ (Kd.R_reok rfl hy2 (fun k_ e_ => HO_4.out.1 k_ e_)); replace HO9 := A0_ (Kd.R_mono (ok' := fun k_ => no_ (.slice Ao1 t13.length co1) k_ ∧ no_ (.slice Ao2 t14.length co2) k_ ∧ no_ (.slice Ao3 t19.length co3) k_ ∧ no_ (.slice Ao4 t20.length co4) k_ ∧ no_ (.slice Ao5 t27.length co5) k_ ∧ no_ (.slice Ao6 t28.length co6) k_ ∧ no_ (.slice Ao8 t34.length co8) k_) (Kd.R_keptB (HO9.out) hkp (fun k_ hk_ hs_ => Or.elim hs_ (fun e_ => (hk_.1.1.1.2) e_) (fun e_ => (hk_.1.1.2) e_))) (fun k_ hk_ => ⟨hk_.1.1.1.1.1.1.2, hk_.1.1.1.1.1.2, hk_.1.1.1.1.2, hk_.1.1.1.2, hk_.1.1.2, hk_.1.2, hk_.1.1.1.1.1.1.1⟩)); replace HO10 := A0_ (Kd.R_mono (ok' := fun k_ => no_ (.slice Ao1 t13.length co1) k_ ∧ no_ (.slice Ao2 t14.length co2) k_ ∧ no_ (.slice Ao3 t19.length co3) k_ ∧ no_ (.slice Ao4 t20.length co4) k_ ∧ no_ (.slice Ao5 t27.length co5) k_ ∧ no_ (.slice Ao6 t28.length co6) k_ ∧ no_ (.slice Ao7 t33.length co7) k_) (Kd.R_keptB (HO10.out) hkp (fun k_ hk_ hs_ => Or.elim hs_ (fun e_ => (hk_.1.1.1.2) e_) (fun e_ => (hk_.1.1.2) e_))) (fun k_ hk_ => ⟨hk_.1.1.1.1.1.1.2, hk_.1.1.1.1.1.2, hk_.1.1.1.1.2, hk_.1.1.1.2, hk_.1.1.2, hk_.1.2, hk_.1.1.1.1.1.1.1⟩)); replace HB := A0_ (hb); (try clear hb); (try clear hkp); (try clear hy1); (try clear hy2)))
 (try simp only [Act.put, sa_, sz_, ss_])
 go_cut [67] from 47 to 67 (fun v12 wc => ∃ (kq : Nat) (x67_86 : Bool), v12 = .bool x67_86 ∧ Aside0 (laws_FnExactDoWork.j1 kq t16 x67_86 a0_0 a0_1 l0_2 l0_3 a0_4 a1_0 a1_1 a1_2 t11 t12 t13 t14 t15 t25 t26 t27 t28 t29 = some r) ∧ Aside0 (kq ≤ kj1) ∧ Aside0 (Kd.R (Kd.int .i64) 3 wc w.heap.size (fun k_ => no_ (.slice Ao2 t14.length co2) k_ ∧ no_ (.slice Ao3 t19.length co3) k_ ∧ no_ (.slice Ao4 t20.length co4) k_ ∧ no_ (.slice Ao5 t27.length co5) k_ ∧ no_ (.slice Ao6 t28.length co6) k_) (.slice Ao1 t13.length co1) t13) ∧ Aside0 (Kd.R (Kd.int .i64) 3 wc w.heap.size (fun k_ => no_ (.slice Ao1 t13.length co1) k_ ∧ no_ (.slice Ao3 t19.length co3) k_ ∧ no_ (.slice Ao4 t20.length co4) k_ ∧ no_ (.slice Ao5 t27.length co5) k_ ∧ no_ (.slice Ao6 t28.length co6) k_) (.slice Ao2 t14.length co2) t14) ∧ Aside0 (Kd.R (Kd.int .i64) 3 wc w.heap.size (fun k_ => no_ (.slice Ao1 t13.length co1) k_ ∧ no_ (.slice Ao2 t14.length co2) k_ ∧ no_ (.slice Ao4 t20.length co4) k_ ∧ no_ (.slice Ao5 t27.length co5) k_ ∧ no_ (.slice Ao6 t28.length co6) k_) (.slice Ao3 t19.length co3) t38) ∧ Aside0 (Kd.R (Kd.int .i64) 3 wc w.heap.size (fun k_ => no_ (.slice Ao1 t13.length co1) k_ ∧ no_ (.slice Ao2 t14.length co2) k_ ∧ no_ (.slice Ao3 t19.length co3) k_ ∧ no_ (.slice Ao5 t27.length co5) k_ ∧ no_ (.slice Ao6 t28.length co6) k_) (.slice Ao4 t20.length co4) t39) ∧ Aside0 (Kd.R (Kd.int .i64) 3 wc w.heap.size (fun k_ => no_ (.slice Ao1 t13.length co1) k_ ∧ no_ (.slice Ao2 t14.length co2) k_ ∧ no_ (.slice Ao3 t19.length co3) k_ ∧ no_ (.slice Ao4 t20.length co4) k_ ∧ no_ (.slice Ao6 t28.length co6) k_) (.slice Ao5 t27.length co5) t27) ∧ Aside0 (Kd.R (Kd.int .i64) 3 wc w.heap.size (fun k_ => no_ (.slice Ao1 t13.length co1) k_ ∧ no_ (.slice Ao2 t14.length co2) k_ ∧ no_ (.slice Ao3 t19.length co3) k_ ∧ no_ (.slice Ao4 t20.length co4) k_ ∧ no_ (.slice Ao5 t27.length co5) k_) (.slice Ao6 t28.length co6) t28) ∧ Aside0 (wc.heap[gb1]? = some (.cells #[.int .i64 a0_0, .bool a0_1, (.slice A0_2 l0_2.length c0_2), (.slice A0_3 l0_3.length c0_3), .int .i64 a0_4] 34 (0, 0))) ∧ Aside0 (wc.heap[gb2]? = some (.cells #[.int .i64 a1_0, .int .i64 a1_1, .int .i64 a1_2] 43 (0, 0))) ∧ Aside0 (wc.heap[gb3]? = some (.cells #[.int .i64 t11, .bool t12, (.slice Ao1 t13.length co1), (.slice Ao2 t14.length co2), .int .i64 t15] 26 (0, 0))) ∧ Aside0 (wc.heap[gb4]? = some (.cells #[.int .i64 t17, .bool t18, (.slice Ao3 t19.length co3), (.slice Ao4 t20.length co4), .int .i64 t21] 26 (0, 0))) ∧ Aside0 (wc.heap[gb5]? = some (.cells #[.int .i64 t25, .bool t26, (.slice Ao5 t27.length co5), (.slice Ao6 t28.length co6), .int .i64 t29] 26 (0, 0))) ∧ Aside0 (Below w.heap.size w wc))
 case first =>
  have H := HC87.out
  clear HC87
  by_cases c4 : t37 < 0
  ·rw [if_pos c4] at H
   have c4b0 : decide (t37 < 0) = true := dt_ c4
   clear c4
   (first | rw [c4b0] | (simp only [i64_w, i32_w]; rw [c4b0]) | skip)
   have H' := A0_ H
   clear H
   go_wp2
   go_meet
   exact ⟨_, (true), b2ew_, H', ⟨by have := HJ1.out; first | omega | exact Nat.le_refl _⟩, ⟨b9dr_⟩, ⟨bfb7_⟩, ⟨bsf8_⟩, ⟨b4w4_⟩, ⟨b9hw_⟩, ⟨bo6m_⟩, ⟨u1_ BK1⟩, ⟨u1_ BK2⟩, ⟨u1_ BK3⟩, ⟨u1_ BK4⟩, ⟨u1_ BK5⟩, ⟨b5zo_⟩⟩
  rw [if_neg c4] at H
  have c4b0 : decide (t37 < 0) = false := decide_eq_false c4
  clear c4
  (first | rw [c4b0] | (simp only [i64_w, i32_w]; rw [c4b0]) | skip)
  obtain ⟨t40, A3, H⟩ := o1_ H
  by_cases c5 : t40 = true
  ·subst c5
   rw [if_pos rfl] at H
   have H' := A0_ H
   clear H
   have hnb10 := NB5_1.out
   have hnc10 := NB1_5.out
   have hnb11 := NB5_2.out
   have hnc11 := NB2_5.out
   have hnb12 := NB5_3.out
   have hnc12 := NB3_5.out
   have hnb13 := NB5_4.out
   have hnc13 := NB4_5.out
   have hcz5 := z5_ BK5
   have hnb14 := NB3_1.out
   have hnc14 := NB1_3.out
   have hnb15 := NB3_2.out
   have hnc15 := NB2_3.out
   have hnb16 := NB3_4.out
   have hnc16 := NB4_3.out
   have hcz6 := z5_ BK3
   go_wp2_with (first | (go_at_call 9; (with_reducible refine (laws_eqHouse.calls kj1 t25 t26 _ _ t27 _ _ t28 t29 t11 t12 _ _ t13 _ _ t14 t15 true _ ?side1 ?side2 ?side3 ?side4 ?side5 ?side6 ?side7 ?side8 A3.out).mono ?_); (case side1 => exact btqf_); (case side2 => exact (rr_ HO_5.out).2.1); (case side3 => exact blpa_); (case side4 => exact (rr_ HO_6.out).2.1); (case side5 => exact btcf_); (case side6 => exact (rr_ HO_1.out).2.1); (case side7 => exact bqlu_); (case side8 => exact (rr_ HO_2.out).2.1); rintro e w15 ⟨rfl, hb⟩; replace HO_1 := A0_ (Kd.R_below bwik_ hb); replace HO_2 := A0_ (Kd.R_below b7sq_ hb); replace HO_3 := A0_ (Kd.R_below bzfm_ hb); replace HO_4 := A0_ (Kd.R_below b0mw_ hb); replace HO_5 := A0_ (Kd.R_below bqlr_ hb); replace HO_6 := A0_ (Kd.R_below bj2s_ hb); replace HO9 := A0_ (Kd.R_below bsgt_ hb); replace HO10 := A0_ (Kd.R_below b197_ hb); replace BK1 := k1_ BK1 hb; replace BK2 := k1_ BK2 hb; replace BK3 := k1_ BK3 hb; replace BK4 := k1_ BK4 hb; replace BK5 := k1_ BK5 hb; replace HB := hb_ hb b5zo_; (try clear hb)))
   go_meet
   exact ⟨_, ((t30 != t16)), b2ew_, H', ⟨by have := HJ1.out; first | omega | exact Nat.le_refl _⟩, ⟨b9dr_⟩, ⟨bfb7_⟩, ⟨bsf8_⟩, ⟨b4w4_⟩, ⟨b9hw_⟩, ⟨bo6m_⟩, ⟨u1_ BK1⟩, ⟨u1_ BK2⟩, ⟨u1_ BK3⟩, ⟨u1_ BK4⟩, ⟨u1_ BK5⟩, ⟨b5zo_⟩⟩
  obtain rfl := bf_.mpr c5
  rw [if_neg ft_] at H
  have H' := A0_ H
  clear H
  have hnb10 := NB5_1.out
  have hnc10 := NB1_5.out
  have hnb11 := NB5_2.out
  have hnc11 := NB2_5.out
  have hnb12 := NB5_3.out
  have hnc12 := NB3_5.out
  have hnb13 := NB5_4.out
  have hnc13 := NB4_5.out
  have hcz5 := z5_ BK5
  have hnb14 := NB3_1.out
  have hnc14 := NB1_3.out
  have hnb15 := NB3_2.out
  have hnc15 := NB2_3.out
  have hnb16 := NB3_4.out
  have hnc16 := NB4_3.out
  have hcz6 := z5_ BK3
  go_wp2_with (first | (go_at_call 9; (with_reducible refine (laws_eqHouse.calls kj1 t25 t26 _ _ t27 _ _ t28 t29 t11 t12 _ _ t13 _ _ t14 t15 false _ ?side1 ?side2 ?side3 ?side4 ?side5 ?side6 ?side7 ?side8 A3.out).mono ?_); (case side1 => exact btqf_); (case side2 => exact (rr_ HO_5.out).2.1); (case side3 => exact blpa_); (case side4 => exact (rr_ HO_6.out).2.1); (case side5 => exact btcf_); (case side6 => exact (rr_ HO_1.out).2.1); (case side7 => exact bqlu_); (case side8 => exact (rr_ HO_2.out).2.1); rintro e w15 ⟨rfl, hb⟩; replace HO_1 := A0_ (Kd.R_below bwik_ hb); replace HO_2 := A0_ (Kd.R_below b7sq_ hb); replace HO_3 := A0_ (Kd.R_below bzfm_ hb); replace HO_4 := A0_ (Kd.R_below b0mw_ hb); replace HO_5 := A0_ (Kd.R_below bqlr_ hb); replace HO_6 := A0_ (Kd.R_below bj2s_ hb); replace HO9 := A0_ (Kd.R_below bsgt_ hb); replace HO10 := A0_ (Kd.R_below b197_ hb); replace BK1 := k1_ BK1 hb; replace BK2 := k1_ BK2 hb; replace BK3 := k1_ BK3 hb; replace BK4 := k1_ BK4 hb; replace BK5 := k1_ BK5 hb; replace HB := hb_ hb b5zo_; (try clear hb)))
  go_meet
  exact ⟨_, (true), b2ew_, H', ⟨by have := HJ1.out; first | omega | exact Nat.le_refl _⟩, ⟨b9dr_⟩, ⟨bfb7_⟩, ⟨bsf8_⟩, ⟨b4w4_⟩, ⟨b9hw_⟩, ⟨bo6m_⟩, ⟨u1_ BK1⟩, ⟨u1_ BK2⟩, ⟨u1_ BK3⟩, ⟨u1_ BK4⟩, ⟨u1_ BK5⟩, ⟨b5zo_⟩⟩
 clear HC87
 try clear c2
 try clear c3
 (try clear hcz4); (try clear hfz4)
 obtain ⟨kq, x67_86, rfl, HA, HJ2, HO_1, HO_2, HO_3, HO_4, HO_5, HO_6, BK1, BK2, BK3, BK4, BK5, HB⟩ := hcut
 have hl530002_86 := (rr_ HO_3.out).1
 rw [hl530002_86] at HO_3
 (try simp only [hl530002_86])
 (try simp only [hl530002_86] at BK1)
 (try simp only [hl530002_86] at BK2)
 (try simp only [hl530002_86] at BK3)
 (try simp only [hl530002_86] at BK4)
 (try simp only [hl530002_86] at BK5)
 (try simp only [hl530002_86] at HO_1)
 (try simp only [hl530002_86] at HO_2)
 (try simp only [hl530002_86] at HO_4)
 (try simp only [hl530002_86] at HO_5)
 (try simp only [hl530002_86] at HO_6)
 have hl530003_86 := (rr_ HO_4.out).1
 rw [hl530003_86] at HO_4
 (try simp only [hl530003_86])
 (try simp only [hl530003_86] at BK1)
 (try simp only [hl530003_86] at BK2)
 (try simp only [hl530003_86] at BK3)
 (try simp only [hl530003_86] at BK4)
 (try simp only [hl530003_86] at BK5)
 (try simp only [hl530003_86] at HO_1)
 (try simp only [hl530003_86] at HO_2)
 (try simp only [hl530003_86] at HO_3)
 (try simp only [hl530003_86] at HO_5)
 (try simp only [hl530003_86] at HO_6)
 cases kq with | zero => exact absurd HA.out (by simp [laws_FnExactDoWork.j1]) | succ kj2 => ?_
 as_aux_lemma =>
 have H := HA.out
 clear HA
 simp only [laws_FnExactDoWork.j1] at H
 by_cases c4 : x67_86 = true
 ·subst c4
  rw [if_pos rfl] at H
  obtain rfl := si_ H
  go_wp2
  go_ret
  exact ⟨bnwh_, b5zo_⟩
 obtain rfl := bf_.mpr c4
 rw [if_neg ft_] at H
 obtain ⟨⟨t40, t41, t42⟩, A22, H⟩ := o1_ H
 obtain ⟨t43, A24, H⟩ := o1_ H
 by_cases c5 : t43 < 0
 ·rw [if_pos c5] at H
  have c5b0 : decide (t43 < 0) = true := dt_ c5
  clear c5
  obtain rfl := si_ H
  have hnb10 := NB5_1.out
  have hnc10 := NB1_5.out
  have hnb11 := NB5_2.out
  have hnc11 := NB2_5.out
  have hnb12 := NB5_3.out
  have hnc12 := NB3_5.out
  have hnb13 := NB5_4.out
  have hnc13 := NB4_5.out
  have hcz5 := z5_ BK5
  go_wp2_with (first | ((with_reducible refine gc_ (f := 10) rfl ?_); refine gl_ 70 Tryd.func10 #[.agg #[.int .i64 t25, .bool t26, .slice Ao5 t27.length co5, .slice Ao6 t28.length co6, .int .i64 t29], .int .i64 1] ?_; (with_reducible refine (laws_markHouse.calls kj2 t25 t26 (fun k_ => some k_ = (.slice Ao5 t27.length co5 : Value).ownBlock) (.slice Ao5 t27.length co5) t27 (fun k_ => some k_ = (.slice Ao6 t28.length co6 : Value).ownBlock) (.slice Ao6 t28.length co6) t28 t29 1 t40 t41 t42 w _ ?side1 ?side2 ?side3 ?side4 ?side5 A22.out).mono ?_); (case side1 => exact b5zo_); (case side2 => exact Kd.R_tight rfl HO_5.out); (case side3 => exact fun k_ e_ => (HO_5.out.1 k_ e_.symm).2.2.2.2); (case side4 => exact Kd.R_tight rfl HO_6.out); (case side5 => exact fun k_ e_ => (HO_6.out.1 k_ e_.symm).2.2.2.2); rintro e w15 ⟨rfl, hy1, hy2, hb, hkp⟩; refine ⟨_, rfl, ?_⟩; replace HO_1 := A0_ (Kd.R_mono (ok' := fun k_ => no_ (.slice Ao2 t14.length co2) k_ ∧ no_ (.slice Ao3 t38.length co3) k_ ∧ no_ (.slice Ao4 t39.length co4) k_ ∧ no_ (.slice Ao5 t27.length co5) k_ ∧ no_ (.slice Ao6 t28.length co6) k_) (Kd.R_keptB (HO_1.out) hkp (fun k_ hk_ hs_ => Or.elim hs_ (fun e_ => (hk_.2.2.2.1) e_) (fun e_ => (hk_.2.2.2.2) e_))) (fun k_ hk_ => ⟨hk_.1.1, hk_.1.2.1, hk_.1.2.2.1, hk_.1.2.2.2.1, hk_.1.2.2.2.2⟩)); replace HO_2 := A0_ (Kd.R_mono (ok' := fun k_ => no_ (.slice Ao1 t13.length co1) k_ ∧ no_ (.slice Ao3 t38.length co3) k_ ∧ no_ (.slice Ao4 t39.length co4) k_ ∧ no_ (.slice Ao5 t27.length co5) k_ ∧ no_ (.slice Ao6 t28.length co6) k_) (Kd.R_keptB (HO_2.out) hkp (fun k_ hk_ hs_ => Or.elim hs_ (fun e_ => (hk_.2.2.2.1) e_) (fun e_ => (hk_.2.2.2.2) e_))) (fun k_ hk_ => ⟨hk_.1.1, hk_.1.2.1, hk_.1.2.2.1, hk_.1.2.2.2.1, hk_.1.2.2.2.2⟩)); replace HO_3 := A0_ (Kd.R_mono (ok' := fun k_ => no_ (.slice Ao1 t13.length co1) k_ ∧ no_ (.slice Ao2 t14.length co2) k_ ∧ no_ (.slice Ao4 t39.length co4) k_ ∧ no_ (.slice Ao5 t27.length co5) k_ ∧ no_ (.slice Ao6 t28.length co6) k_) (Kd.R_keptB (HO_3.out) hkp (fun k_ hk_ hs_ => Or.elim hs_ (fun e_ => (hk_.2.2.2.1) e_) (fun e_ => (hk_.2.2.2.2) e_))) (fun k_ hk_ => ⟨hk_.1.1, hk_.1.2.1, hk_.1.2.2.1, hk_.1.2.2.2.1, hk_.1.2.2.2.2⟩)); replace HO_4 := A0_ (Kd.R_mono (ok' := fun k_ => no_ (.slice Ao1 t13.length co1) k_ ∧ no_ (.slice Ao2 t14.length co2) k_ ∧ no_ (.slice Ao3 t38.length co3) k_ ∧ no_ (.slice Ao5 t27.length co5) k_ ∧ no_ (.slice Ao6 t28.length co6) k_) (Kd.R_keptB (HO_4.out) hkp (fun k_ hk_ hs_ => Or.elim hs_ (fun e_ => (hk_.2.2.2.1) e_) (fun e_ => (hk_.2.2.2.2) e_))) (fun k_ hk_ => ⟨hk_.1.1, hk_.1.2.1, hk_.1.2.2.1, hk_.1.2.2.2.1, hk_.1.2.2.2.2⟩)); replace BK1 := A0_ (blk_kept (u1_ BK1) hkp (fun hs_ => Or.elim hs_ (fun e_ => (fun e_ => (Kd.R_ne HO_5.out BK1.out bi3y_) e_) e_) (fun e_ => (fun e_ => (Kd.R_ne HO_6.out BK1.out bi3y_) e_) e_))); replace BK2 := A0_ (blk_kept (u1_ BK2) hkp (fun hs_ => Or.elim hs_ (fun e_ => (fun e_ => (Kd.R_ne HO_5.out BK2.out bi3y_) e_) e_) (fun e_ => (fun e_ => (Kd.R_ne HO_6.out BK2.out bi3y_) e_) e_))); replace BK3 := A0_ (blk_kept (u1_ BK3) hkp (fun hs_ => Or.elim hs_ (fun e_ => (fun e_ => (Kd.R_ne HO_5.out BK3.out bi3y_) e_) e_) (fun e_ => (fun e_ => (Kd.R_ne HO_6.out BK3.out bi3y_) e_) e_))); replace BK4 := A0_ (blk_kept (u1_ BK4) hkp (fun hs_ => Or.elim hs_ (fun e_ => (fun e_ => (Kd.R_ne HO_5.out BK4.out bi3y_) e_) e_) (fun e_ => (fun e_ => (Kd.R_ne HO_6.out BK4.out bi3y_) e_) e_))); replace BK5 := A0_ (blk_kept (u1_ BK5) hkp (fun hs_ => Or.elim hs_ (fun e_ => (fun e_ => (Kd.R_ne HO_5.out BK5.out bi3y_) e_) e_) (fun e_ => (fun e_ => (Kd.R_ne HO_6.out BK5.out bi3y_) e_) e_))); replace HO_5 := A0_ (Kd.R_reok rfl hy1 (fun k_ e_ => HO_5.out.1 k_ e_)); replace HO_6 := A0_ (Kd.R_reok rfl hy2 (fun k_ e_ => HO_6.out.1 k_ e_)); replace HB := A0_ (hb); (try clear hb); (try clear hkp); (try clear hy1); (try clear hy2); have hcz6 := z5_ BK5) | ((with_reducible refine gc_ (f := 11) rfl ?_); refine goesL_ (some 73) rfl rfl Tryd.func11 bfqv_ rfl #[.agg #[.int .i64 t25, .bool t26, .slice Ao5 t41.length co5, .slice Ao6 t42.length co6, .int .i64 t29], .int .i64 1] rfl btgf_ ?_; (with_reducible refine (laws_heldHouse.calls kj2 t25 t26 _ _ t41 _ _ t42 t29 1 t43 _ ?side1 ?side2 ?side3 ?side4 A24.out).mono ?_); (case side1 => exact btqf_); (case side2 => rw [show t41.length = t27.length from (rr_ HO_5.out).1.symm]; exact (rr_ HO_5.out).2.1); (case side3 => exact blpa_); (case side4 => rw [show t42.length = t28.length from (rr_ HO_6.out).1.symm]; exact (rr_ HO_6.out).2.1); rintro e w16 ⟨rfl, hb⟩; refine ⟨_, rfl, ?_⟩; replace HO_1 := A0_ (Kd.R_below bwik_ hb); replace HO_2 := A0_ (Kd.R_below b7sq_ hb); replace HO_3 := A0_ (Kd.R_below bzfm_ hb); replace HO_4 := A0_ (Kd.R_below b0mw_ hb); replace HO_5 := A0_ (Kd.R_below bqlr_ hb); replace HO_6 := A0_ (Kd.R_below bj2s_ hb); replace BK1 := k1_ BK1 hb; replace BK2 := k1_ BK2 hb; replace BK3 := k1_ BK3 hb; replace BK4 := k1_ BK4 hb; replace BK5 := k1_ BK5 hb; replace HB := hb_ hb b5zo_; (try clear hb)))
  go_ret
  exact ⟨bnwh_, b5zo_⟩
 rw [if_neg c5] at H
 have c5b0 : decide (t43 < 0) = false := decide_eq_false c5
 clear c5
 by_cases c6 : t43 = t40
 case neg =>
  rw [if_neg c6] at H
  obtain ⟨c6b0, c6b1⟩ := ef_ c6
  obtain rfl := si_ H
  have hnb10 := NB5_1.out
  have hnc10 := NB1_5.out
  have hnb11 := NB5_2.out
  have hnc11 := NB2_5.out
  have hnb12 := NB5_3.out
  have hnc12 := NB3_5.out
  have hnb13 := NB5_4.out
  have hnc13 := NB4_5.out
  have hcz5 := z5_ BK5
  go_wp2_with (first | ((with_reducible refine gc_ (f := 10) rfl ?_); refine gl_ 70 Tryd.func10 #[.agg #[.int .i64 t25, .bool t26, .slice Ao5 t27.length co5, .slice Ao6 t28.length co6, .int .i64 t29], .int .i64 1] ?_; (with_reducible refine (laws_markHouse.calls kj2 t25 t26 (fun k_ => some k_ = (.slice Ao5 t27.length co5 : Value).ownBlock) (.slice Ao5 t27.length co5) t27 (fun k_ => some k_ = (.slice Ao6 t28.length co6 : Value).ownBlock) (.slice Ao6 t28.length co6) t28 t29 1 t40 t41 t42 w _ ?side1 ?side2 ?side3 ?side4 ?side5 A22.out).mono ?_); (case side1 => exact b5zo_); (case side2 => exact Kd.R_tight rfl HO_5.out); (case side3 => exact fun k_ e_ => (HO_5.out.1 k_ e_.symm).2.2.2.2); (case side4 => exact Kd.R_tight rfl HO_6.out); (case side5 => exact fun k_ e_ => (HO_6.out.1 k_ e_.symm).2.2.2.2); rintro e w15 ⟨rfl, hy1, hy2, hb, hkp⟩; refine ⟨_, rfl, ?_⟩; replace HO_1 := A0_ (Kd.R_mono (ok' := fun k_ => no_ (.slice Ao2 t14.length co2) k_ ∧ no_ (.slice Ao3 t38.length co3) k_ ∧ no_ (.slice Ao4 t39.length co4) k_ ∧ no_ (.slice Ao5 t27.length co5) k_ ∧ no_ (.slice Ao6 t28.length co6) k_) (Kd.R_keptB (HO_1.out) hkp (fun k_ hk_ hs_ => Or.elim hs_ (fun e_ => (hk_.2.2.2.1) e_) (fun e_ => (hk_.2.2.2.2) e_))) (fun k_ hk_ => ⟨hk_.1.1, hk_.1.2.1, hk_.1.2.2.1, hk_.1.2.2.2.1, hk_.1.2.2.2.2⟩)); replace HO_2 := A0_ (Kd.R_mono (ok' := fun k_ => no_ (.slice Ao1 t13.length co1) k_ ∧ no_ (.slice Ao3 t38.length co3) k_ ∧ no_ (.slice Ao4 t39.length co4) k_ ∧ no_ (.slice Ao5 t27.length co5) k_ ∧ no_ (.slice Ao6 t28.length co6) k_) (Kd.R_keptB (HO_2.out) hkp (fun k_ hk_ hs_ => Or.elim hs_ (fun e_ => (hk_.2.2.2.1) e_) (fun e_ => (hk_.2.2.2.2) e_))) (fun k_ hk_ => ⟨hk_.1.1, hk_.1.2.1, hk_.1.2.2.1, hk_.1.2.2.2.1, hk_.1.2.2.2.2⟩)); replace HO_3 := A0_ (Kd.R_mono (ok' := fun k_ => no_ (.slice Ao1 t13.length co1) k_ ∧ no_ (.slice Ao2 t14.length co2) k_ ∧ no_ (.slice Ao4 t39.length co4) k_ ∧ no_ (.slice Ao5 t27.length co5) k_ ∧ no_ (.slice Ao6 t28.length co6) k_) (Kd.R_keptB (HO_3.out) hkp (fun k_ hk_ hs_ => Or.elim hs_ (fun e_ => (hk_.2.2.2.1) e_) (fun e_ => (hk_.2.2.2.2) e_))) (fun k_ hk_ => ⟨hk_.1.1, hk_.1.2.1, hk_.1.2.2.1, hk_.1.2.2.2.1, hk_.1.2.2.2.2⟩)); replace HO_4 := A0_ (Kd.R_mono (ok' := fun k_ => no_ (.slice Ao1 t13.length co1) k_ ∧ no_ (.slice Ao2 t14.length co2) k_ ∧ no_ (.slice Ao3 t38.length co3) k_ ∧ no_ (.slice Ao5 t27.length co5) k_ ∧ no_ (.slice Ao6 t28.length co6) k_) (Kd.R_keptB (HO_4.out) hkp (fun k_ hk_ hs_ => Or.elim hs_ (fun e_ => (hk_.2.2.2.1) e_) (fun e_ => (hk_.2.2.2.2) e_))) (fun k_ hk_ => ⟨hk_.1.1, hk_.1.2.1, hk_.1.2.2.1, hk_.1.2.2.2.1, hk_.1.2.2.2.2⟩)); replace BK1 := A0_ (blk_kept (u1_ BK1) hkp (fun hs_ => Or.elim hs_ (fun e_ => (fun e_ => (Kd.R_ne HO_5.out BK1.out bi3y_) e_) e_) (fun e_ => (fun e_ => (Kd.R_ne HO_6.out BK1.out bi3y_) e_) e_))); replace BK2 := A0_ (blk_kept (u1_ BK2) hkp (fun hs_ => Or.elim hs_ (fun e_ => (fun e_ => (Kd.R_ne HO_5.out BK2.out bi3y_) e_) e_) (fun e_ => (fun e_ => (Kd.R_ne HO_6.out BK2.out bi3y_) e_) e_))); replace BK3 := A0_ (blk_kept (u1_ BK3) hkp (fun hs_ => Or.elim hs_ (fun e_ => (fun e_ => (Kd.R_ne HO_5.out BK3.out bi3y_) e_) e_) (fun e_ => (fun e_ => (Kd.R_ne HO_6.out BK3.out bi3y_) e_) e_))); replace BK4 := A0_ (blk_kept (u1_ BK4) hkp (fun hs_ => Or.elim hs_ (fun e_ => (fun e_ => (Kd.R_ne HO_5.out BK4.out bi3y_) e_) e_) (fun e_ => (fun e_ => (Kd.R_ne HO_6.out BK4.out bi3y_) e_) e_))); replace BK5 := A0_ (blk_kept (u1_ BK5) hkp (fun hs_ => Or.elim hs_ (fun e_ => (fun e_ => (Kd.R_ne HO_5.out BK5.out bi3y_) e_) e_) (fun e_ => (fun e_ => (Kd.R_ne HO_6.out BK5.out bi3y_) e_) e_))); replace HO_5 := A0_ (Kd.R_reok rfl hy1 (fun k_ e_ => HO_5.out.1 k_ e_)); replace HO_6 := A0_ (Kd.R_reok rfl hy2 (fun k_ e_ => HO_6.out.1 k_ e_)); replace HB := A0_ (hb); (try clear hb); (try clear hkp); (try clear hy1); (try clear hy2); have hcz6 := z5_ BK5) | ((with_reducible refine gc_ (f := 11) rfl ?_); refine goesL_ (some 73) rfl rfl Tryd.func11 bfqv_ rfl #[.agg #[.int .i64 t25, .bool t26, .slice Ao5 t41.length co5, .slice Ao6 t42.length co6, .int .i64 t29], .int .i64 1] rfl btgf_ ?_; (with_reducible refine (laws_heldHouse.calls kj2 t25 t26 _ _ t41 _ _ t42 t29 1 t43 _ ?side1 ?side2 ?side3 ?side4 A24.out).mono ?_); (case side1 => exact btqf_); (case side2 => rw [show t41.length = t27.length from (rr_ HO_5.out).1.symm]; exact (rr_ HO_5.out).2.1); (case side3 => exact blpa_); (case side4 => rw [show t42.length = t28.length from (rr_ HO_6.out).1.symm]; exact (rr_ HO_6.out).2.1); rintro e w16 ⟨rfl, hb⟩; refine ⟨_, rfl, ?_⟩; replace HO_1 := A0_ (Kd.R_below bwik_ hb); replace HO_2 := A0_ (Kd.R_below b7sq_ hb); replace HO_3 := A0_ (Kd.R_below bzfm_ hb); replace HO_4 := A0_ (Kd.R_below b0mw_ hb); replace HO_5 := A0_ (Kd.R_below bqlr_ hb); replace HO_6 := A0_ (Kd.R_below bj2s_ hb); replace BK1 := k1_ BK1 hb; replace BK2 := k1_ BK2 hb; replace BK3 := k1_ BK3 hb; replace BK4 := k1_ BK4 hb; replace BK5 := k1_ BK5 hb; replace HB := hb_ hb b5zo_; (try clear hb)))
  go_ret
  exact ⟨bnwh_, b5zo_⟩
 rw [if_pos c6] at H
 obtain ⟨c6b0, c6b1⟩ := et_ c6
 clear c6
 obtain ⟨⟨t44, t45, t46, t47, t48⟩, A26, H⟩ := o1_ H
 obtain ⟨⟨t49, t50, t51⟩, A28, H⟩ := o1_ H
 obtain ⟨⟨t52, t53, t54, t55, t56, t57⟩, A30, H⟩ := o1_ H
 have HC138 := A0_ H
 clear H
 have hnb10 := NB5_1.out
 have hnc10 := NB1_5.out
 have hnb11 := NB5_2.out
 have hnc11 := NB2_5.out
 have hnb12 := NB5_3.out
 have hnc12 := NB3_5.out
 have hnb13 := NB5_4.out
 have hnc13 := NB4_5.out
 have hcz5 := z5_ BK5
 try go_wp2_with (first | ((with_reducible refine gc_ (f := 10) rfl ?_); refine gl_ 70 Tryd.func10 #[.agg #[.int .i64 t25, .bool t26, .slice Ao5 t27.length co5, .slice Ao6 t28.length co6, .int .i64 t29], .int .i64 1] ?_; (with_reducible refine (laws_markHouse.calls kj2 t25 t26 (fun k_ => some k_ = (.slice Ao5 t27.length co5 : Value).ownBlock) (.slice Ao5 t27.length co5) t27 (fun k_ => some k_ = (.slice Ao6 t28.length co6 : Value).ownBlock) (.slice Ao6 t28.length co6) t28 t29 1 t40 t41 t42 w _ ?side1 ?side2 ?side3 ?side4 ?side5 A22.out).mono ?_); (case side1 => exact b5zo_); (case side2 => exact Kd.R_tight rfl HO_5.out); (case side3 => exact fun k_ e_ => (HO_5.out.1 k_ e_.symm).2.2.2.2); (case side4 => exact Kd.R_tight rfl HO_6.out); (case side5 => exact fun k_ e_ => (HO_6.out.1 k_ e_.symm).2.2.2.2); rintro e w15 ⟨rfl, hy1, hy2, hb, hkp⟩; refine ⟨_, rfl, ?_⟩; replace HO_1 := A0_ (Kd.R_mono (ok' := fun k_ => no_ (.slice Ao2 t14.length co2) k_ ∧ no_ (.slice Ao3 t38.length co3) k_ ∧ no_ (.slice Ao4 t39.length co4) k_ ∧ no_ (.slice Ao5 t27.length co5) k_ ∧ no_ (.slice Ao6 t28.length co6) k_) (Kd.R_keptB (HO_1.out) hkp (fun k_ hk_ hs_ => Or.elim hs_ (fun e_ => (hk_.2.2.2.1) e_) (fun e_ => (hk_.2.2.2.2) e_))) (fun k_ hk_ => ⟨hk_.1.1, hk_.1.2.1, hk_.1.2.2.1, hk_.1.2.2.2.1, hk_.1.2.2.2.2⟩)); replace HO_2 := A0_ (Kd.R_mono (ok' := fun k_ => no_ (.slice Ao1 t13.length co1) k_ ∧ no_ (.slice Ao3 t38.length co3) k_ ∧ no_ (.slice Ao4 t39.length co4) k_ ∧ no_ (.slice Ao5 t27.length co5) k_ ∧ no_ (.slice Ao6 t28.length co6) k_) (Kd.R_keptB (HO_2.out) hkp (fun k_ hk_ hs_ => Or.elim hs_ (fun e_ => (hk_.2.2.2.1) e_) (fun e_ => (hk_.2.2.2.2) e_))) (fun k_ hk_ => ⟨hk_.1.1, hk_.1.2.1, hk_.1.2.2.1, hk_.1.2.2.2.1, hk_.1.2.2.2.2⟩)); replace HO_3 := A0_ (Kd.R_mono (ok' := fun k_ => no_ (.slice Ao1 t13.length co1) k_ ∧ no_ (.slice Ao2 t14.length co2) k_ ∧ no_ (.slice Ao4 t39.length co4) k_ ∧ no_ (.slice Ao5 t27.length co5) k_ ∧ no_ (.slice Ao6 t28.length co6) k_) (Kd.R_keptB (HO_3.out) hkp (fun k_ hk_ hs_ => Or.elim hs_ (fun e_ => (hk_.2.2.2.1) e_) (fun e_ => (hk_.2.2.2.2) e_))) (fun k_ hk_ => ⟨hk_.1.1, hk_.1.2.1, hk_.1.2.2.1, hk_.1.2.2.2.1, hk_.1.2.2.2.2⟩)); replace HO_4 := A0_ (Kd.R_mono (ok' := fun k_ => no_ (.slice Ao1 t13.length co1) k_ ∧ no_ (.slice Ao2 t14.length co2) k_ ∧ no_ (.slice Ao3 t38.length co3) k_ ∧ no_ (.slice Ao5 t27.length co5) k_ ∧ no_ (.slice Ao6 t28.length co6) k_) (Kd.R_keptB (HO_4.out) hkp (fun k_ hk_ hs_ => Or.elim hs_ (fun e_ => (hk_.2.2.2.1) e_) (fun e_ => (hk_.2.2.2.2) e_))) (fun k_ hk_ => ⟨hk_.1.1, hk_.1.2.1, hk_.1.2.2.1, hk_.1.2.2.2.1, hk_.1.2.2.2.2⟩)); replace BK1 := A0_ (blk_kept (u1_ BK1) hkp (fun hs_ => Or.elim hs_ (fun e_ => (fun e_ => (Kd.R_ne HO_5.out BK1.out bi3y_) e_) e_) (fun e_ => (fun e_ => (Kd.R_ne HO_6.out BK1.out bi3y_) e_) e_))); replace BK2 := A0_ (blk_kept (u1_ BK2) hkp (fun hs_ => Or.elim hs_ (fun e_ => (fun e_ => (Kd.R_ne HO_5.out BK2.out bi3y_) e_) e_) (fun e_ => (fun e_ => (Kd.R_ne HO_6.out BK2.out bi3y_) e_) e_))); replace BK3 := A0_ (blk_kept (u1_ BK3) hkp (fun hs_ => Or.elim hs_ (fun e_ => (fun e_ => (Kd.R_ne HO_5.out BK3.out bi3y_) e_) e_) (fun e_ => (fun e_ => (Kd.R_ne HO_6.out BK3.out bi3y_) e_) e_))); replace BK4 := A0_ (blk_kept (u1_ BK4) hkp (fun hs_ => Or.elim hs_ (fun e_ => (fun e_ => (Kd.R_ne HO_5.out BK4.out bi3y_) e_) e_) (fun e_ => (fun e_ => (Kd.R_ne HO_6.out BK4.out bi3y_) e_) e_))); replace BK5 := A0_ (blk_kept (u1_ BK5) hkp (fun hs_ => Or.elim hs_ (fun e_ => (fun e_ => (Kd.R_ne HO_5.out BK5.out bi3y_) e_) e_) (fun e_ => (fun e_ => (Kd.R_ne HO_6.out BK5.out bi3y_) e_) e_))); replace HO_5 := A0_ (Kd.R_reok rfl hy1 (fun k_ e_ => HO_5.out.1 k_ e_)); replace HO_6 := A0_ (Kd.R_reok rfl hy2 (fun k_ e_ => HO_6.out.1 k_ e_)); replace HB := A0_ (hb); (try clear hb); (try clear hkp); (try clear hy1); (try clear hy2); have hcz6 := z5_ BK5) | ((with_reducible refine gc_ (f := 11) rfl ?_); refine goesL_ (some 73) rfl rfl Tryd.func11 bfqv_ rfl #[.agg #[.int .i64 t25, .bool t26, .slice Ao5 t41.length co5, .slice Ao6 t42.length co6, .int .i64 t29], .int .i64 1] rfl btgf_ ?_; (with_reducible refine (laws_heldHouse.calls kj2 t25 t26 _ _ t41 _ _ t42 t29 1 t43 _ ?side1 ?side2 ?side3 ?side4 A24.out).mono ?_); (case side1 => exact btqf_); (case side2 => rw [show t41.length = t27.length from (rr_ HO_5.out).1.symm]; exact (rr_ HO_5.out).2.1); (case side3 => exact blpa_); (case side4 => rw [show t42.length = t28.length from (rr_ HO_6.out).1.symm]; exact (rr_ HO_6.out).2.1); rintro e w16 ⟨rfl, hb⟩; refine ⟨_, rfl, ?_⟩; replace HO_1 := A0_ (Kd.R_below bwik_ hb); replace HO_2 := A0_ (Kd.R_below b7sq_ hb); replace HO_3 := A0_ (Kd.R_below bzfm_ hb); replace HO_4 := A0_ (Kd.R_below b0mw_ hb); replace HO_5 := A0_ (Kd.R_below bqlr_ hb); replace HO_6 := A0_ (Kd.R_below bj2s_ hb); replace BK1 := k1_ BK1 hb; replace BK2 := k1_ BK2 hb; replace BK3 := k1_ BK3 hb; replace BK4 := k1_ BK4 hb; replace BK5 := k1_ BK5 hb; replace HB := hb_ hb b5zo_; (try clear hb)))
 replace HO_1 := A0_ (rd_ HO_1.out)
 replace HO_2 := A0_ (rd_ HO_2.out)
 replace HO_3 := A0_ (rd_ HO_3.out)
 replace HO_4 := A0_ (rd_ HO_4.out)
 replace HO_5 := A0_ (rd_ HO_5.out)
 replace HO_6 := A0_ (rd_ HO_6.out)
 replace BK1 := A0_ (kd_ BK1.out)
 replace BK2 := A0_ (kd_ BK2.out)
 replace BK3 := A0_ (kd_ BK3.out)
 replace BK4 := A0_ (kd_ BK4.out)
 replace BK5 := A0_ (kd_ BK5.out)
 replace HB := A0_ (bd_ HB.out)
 refine start_ (n := 11) (S := fun w' => w'.cell? ⟨gb1, 0, none⟩ = some (.int .i64 a0_0) ∧ w'.cell? ⟨gb1, 1, none⟩ = some (.bool a0_1) ∧ w'.cell? ⟨gb1, 2, none⟩ = some (.slice A0_2 l0_2.length c0_2) ∧ w'.cell? ⟨gb1, 3, none⟩ = some (.slice A0_3 l0_3.length c0_3) ∧ w'.cell? ⟨gb1, 4, none⟩ = some (.int .i64 a0_4) ∧ w'.cell? ⟨gb2, 0, none⟩ = some (.int .i64 a1_0) ∧ w'.cell? ⟨gb2, 1, none⟩ = some (.int .i64 a1_1) ∧ w'.cell? ⟨gb2, 2, none⟩ = some (.int .i64 a1_2)) (ds := []) #[false, false, false, false, false, false, false, false, false, false, false] bfqv_ rfl rfl ⟨(kc_ BK1.out 0).trans rfl, (kc_ BK1.out 1).trans rfl, (kc_ BK1.out 2).trans rfl, (kc_ BK1.out 3).trans rfl, (kc_ BK1.out 4).trans rfl, (kc_ BK2.out 0).trans rfl, (kc_ BK2.out 1).trans rfl, (kc_ BK2.out 2).trans rfl⟩ (fun hHeld => ?_); refine with_tabW laws_FnExactDoWork.tab24 laws_FnExactDoWork.bits24 (fun HT_ HW_ => ?_)
 generalize w16.drew = w17 at HO_1 HO_2 HO_3 HO_4 HO_5 HO_6 BK1 BK2 BK3 BK4 BK5 HB hHeld ⊢
 refine tk_ 0 80 hHeld ?_
 refine tk_ 2 82 hHeld ?_
 refine join_ (σ := Value × Value × Value × Value × Nat) 2 #[true, true, true, true, true, true, true, true, true, false, false] (fun s_ => [(81, .agg #[.int .i64 t44, .bool t45, s_.1, s_.2.1, .int .i64 t48]), (83, .agg #[.int .i64 t49, .int .i64 t50, .int .i64 t51]), (84, .tuple #[.agg #[.int .i64 t52, .bool t53, s_.2.2.1, s_.2.2.2.1, .int .i64 t56], .bool t57]), (14, .pointer (some ⟨s_.2.2.2.2, 0, none⟩)), (79, .tuple #[.agg #[.int .i64 t52, .bool t53, s_.2.2.1, s_.2.2.2.1, .int .i64 t56], .bool t57]), (85, .agg #[.int .i64 t52, .bool t53, s_.2.2.1, s_.2.2.2.1, .int .i64 t56]), (86, .bool t57)]) (fun s_ w' => (w'.cell? ⟨gb1, 0, none⟩ = some (.int .i64 a0_0) ∧ w'.cell? ⟨gb1, 1, none⟩ = some (.bool a0_1) ∧ w'.cell? ⟨gb1, 2, none⟩ = some (.slice A0_2 l0_2.length c0_2) ∧ w'.cell? ⟨gb1, 3, none⟩ = some (.slice A0_3 l0_3.length c0_3) ∧ w'.cell? ⟨gb1, 4, none⟩ = some (.int .i64 a0_4) ∧ w'.cell? ⟨gb2, 0, none⟩ = some (.int .i64 a1_0) ∧ w'.cell? ⟨gb2, 1, none⟩ = some (.int .i64 a1_1) ∧ w'.cell? ⟨gb2, 2, none⟩ = some (.int .i64 a1_2)) ∧ (Kd.R (Kd.int .i64) 3 w' w.heap.size (fun k_ => some k_ ≠ (s_.2.1 : Value).ownBlock ∧ some k_ ≠ (s_.2.2.1 : Value).ownBlock ∧ some k_ ≠ (s_.2.2.2.1 : Value).ownBlock ∧ no_ (.slice Ao1 t13.length co1) k_ ∧ no_ (.slice Ao2 t14.length co2) k_ ∧ no_ (.slice Ao3 t38.length co3) k_ ∧ no_ (.slice Ao4 t39.length co4) k_ ∧ no_ (.slice Ao5 t27.length co5) k_ ∧ no_ (.slice Ao6 t28.length co6) k_) s_.1 t46) ∧ (Kd.R (Kd.int .i64) 3 w' w.heap.size (fun k_ => some k_ ≠ (s_.1 : Value).ownBlock ∧ some k_ ≠ (s_.2.2.1 : Value).ownBlock ∧ some k_ ≠ (s_.2.2.2.1 : Value).ownBlock ∧ no_ (.slice Ao1 t13.length co1) k_ ∧ no_ (.slice Ao2 t14.length co2) k_ ∧ no_ (.slice Ao3 t38.length co3) k_ ∧ no_ (.slice Ao4 t39.length co4) k_ ∧ no_ (.slice Ao5 t27.length co5) k_ ∧ no_ (.slice Ao6 t28.length co6) k_) s_.2.1 t47) ∧ (Kd.R (Kd.int .i64) 3 w' w.heap.size (fun k_ => some k_ ≠ (s_.1 : Value).ownBlock ∧ some k_ ≠ (s_.2.1 : Value).ownBlock ∧ some k_ ≠ (s_.2.2.2.1 : Value).ownBlock ∧ no_ (.slice Ao1 t13.length co1) k_ ∧ no_ (.slice Ao2 t14.length co2) k_ ∧ no_ (.slice Ao3 t38.length co3) k_ ∧ no_ (.slice Ao4 t39.length co4) k_ ∧ no_ (.slice Ao5 t27.length co5) k_ ∧ no_ (.slice Ao6 t28.length co6) k_) s_.2.2.1 t54) ∧ (Kd.R (Kd.int .i64) 3 w' w.heap.size (fun k_ => some k_ ≠ (s_.1 : Value).ownBlock ∧ some k_ ≠ (s_.2.1 : Value).ownBlock ∧ some k_ ≠ (s_.2.2.1 : Value).ownBlock ∧ no_ (.slice Ao1 t13.length co1) k_ ∧ no_ (.slice Ao2 t14.length co2) k_ ∧ no_ (.slice Ao3 t38.length co3) k_ ∧ no_ (.slice Ao4 t39.length co4) k_ ∧ no_ (.slice Ao5 t27.length co5) k_ ∧ no_ (.slice Ao6 t28.length co6) k_) s_.2.2.2.1 t55) ∧ (Kd.R (Kd.int .i64) 3 w' w.heap.size (fun k_ => some k_ ≠ (s_.1 : Value).ownBlock ∧ some k_ ≠ (s_.2.1 : Value).ownBlock ∧ some k_ ≠ (s_.2.2.1 : Value).ownBlock ∧ some k_ ≠ (s_.2.2.2.1 : Value).ownBlock ∧ no_ (.slice Ao2 t14.length co2) k_ ∧ no_ (.slice Ao3 t38.length co3) k_ ∧ no_ (.slice Ao4 t39.length co4) k_ ∧ no_ (.slice Ao5 t27.length co5) k_ ∧ no_ (.slice Ao6 t28.length co6) k_) (.slice Ao1 t13.length co1) t13) ∧ (Kd.R (Kd.int .i64) 3 w' w.heap.size (fun k_ => some k_ ≠ (s_.1 : Value).ownBlock ∧ some k_ ≠ (s_.2.1 : Value).ownBlock ∧ some k_ ≠ (s_.2.2.1 : Value).ownBlock ∧ some k_ ≠ (s_.2.2.2.1 : Value).ownBlock ∧ no_ (.slice Ao1 t13.length co1) k_ ∧ no_ (.slice Ao3 t38.length co3) k_ ∧ no_ (.slice Ao4 t39.length co4) k_ ∧ no_ (.slice Ao5 t27.length co5) k_ ∧ no_ (.slice Ao6 t28.length co6) k_) (.slice Ao2 t14.length co2) t14) ∧ (Kd.R (Kd.int .i64) 3 w' w.heap.size (fun k_ => some k_ ≠ (s_.1 : Value).ownBlock ∧ some k_ ≠ (s_.2.1 : Value).ownBlock ∧ some k_ ≠ (s_.2.2.1 : Value).ownBlock ∧ some k_ ≠ (s_.2.2.2.1 : Value).ownBlock ∧ no_ (.slice Ao1 t13.length co1) k_ ∧ no_ (.slice Ao2 t14.length co2) k_ ∧ no_ (.slice Ao4 t39.length co4) k_ ∧ no_ (.slice Ao5 t27.length co5) k_ ∧ no_ (.slice Ao6 t28.length co6) k_) (.slice Ao3 t38.length co3) t38) ∧ (Kd.R (Kd.int .i64) 3 w' w.heap.size (fun k_ => some k_ ≠ (s_.1 : Value).ownBlock ∧ some k_ ≠ (s_.2.1 : Value).ownBlock ∧ some k_ ≠ (s_.2.2.1 : Value).ownBlock ∧ some k_ ≠ (s_.2.2.2.1 : Value).ownBlock ∧ no_ (.slice Ao1 t13.length co1) k_ ∧ no_ (.slice Ao2 t14.length co2) k_ ∧ no_ (.slice Ao3 t38.length co3) k_ ∧ no_ (.slice Ao5 t27.length co5) k_ ∧ no_ (.slice Ao6 t28.length co6) k_) (.slice Ao4 t39.length co4) t39) ∧ (Kd.R (Kd.int .i64) 3 w' w.heap.size (fun k_ => some k_ ≠ (s_.1 : Value).ownBlock ∧ some k_ ≠ (s_.2.1 : Value).ownBlock ∧ some k_ ≠ (s_.2.2.1 : Value).ownBlock ∧ some k_ ≠ (s_.2.2.2.1 : Value).ownBlock ∧ no_ (.slice Ao1 t13.length co1) k_ ∧ no_ (.slice Ao2 t14.length co2) k_ ∧ no_ (.slice Ao3 t38.length co3) k_ ∧ no_ (.slice Ao4 t39.length co4) k_ ∧ no_ (.slice Ao6 t28.length co6) k_) (.slice Ao5 t27.length co5) t41) ∧ (Kd.R (Kd.int .i64) 3 w' w.heap.size (fun k_ => some k_ ≠ (s_.1 : Value).ownBlock ∧ some k_ ≠ (s_.2.1 : Value).ownBlock ∧ some k_ ≠ (s_.2.2.1 : Value).ownBlock ∧ some k_ ≠ (s_.2.2.2.1 : Value).ownBlock ∧ no_ (.slice Ao1 t13.length co1) k_ ∧ no_ (.slice Ao2 t14.length co2) k_ ∧ no_ (.slice Ao3 t38.length co3) k_ ∧ no_ (.slice Ao4 t39.length co4) k_ ∧ no_ (.slice Ao5 t27.length co5) k_) (.slice Ao6 t28.length co6) t42) ∧ (w'.heap[gb1]? = some (.cells #[.int .i64 a0_0, .bool a0_1, .slice A0_2 l0_2.length c0_2, .slice A0_3 l0_3.length c0_3, .int .i64 a0_4] 34 (0, 0))) ∧ (w'.heap[gb2]? = some (.cells #[.int .i64 a1_0, .int .i64 a1_1, .int .i64 a1_2] 43 (0, 0))) ∧ (w'.heap[gb3]? = some (.cells #[.int .i64 t11, .bool t12, .slice Ao1 t13.length co1, .slice Ao2 t14.length co2, .int .i64 t15] 26 (0, 0))) ∧ (w'.heap[gb4]? = some (.cells #[.int .i64 t17, .bool t18, .slice Ao3 t38.length co3, .slice Ao4 t39.length co4, .int .i64 t21] 26 (0, 0))) ∧ (w'.heap[gb5]? = some (.cells #[.int .i64 t25, .bool t26, .slice Ao5 t27.length co5, .slice Ao6 t28.length co6, .int .i64 t29] 26 (0, 0))) ∧ (w'.heap[s_.2.2.2.2]? = some (.cells #[.int .i64 0, .bool false, .slice none 0 0, .slice none 0 0, .int .i64 0] 26 (0, 0))) ∧ (w.heap.size ≤ s_.2.2.2.2) ∧ (w.heap.size ≤ s_.2.2.2.2) ∧ (gb1 ≠ s_.2.2.2.2) ∧ (s_.2.2.2.2 ≠ gb1) ∧ (gb2 ≠ s_.2.2.2.2) ∧ (s_.2.2.2.2 ≠ gb2) ∧ (gb3 ≠ s_.2.2.2.2) ∧ (s_.2.2.2.2 ≠ gb3) ∧ (gb4 ≠ s_.2.2.2.2) ∧ (s_.2.2.2.2 ≠ gb4) ∧ (gb5 ≠ s_.2.2.2.2) ∧ (s_.2.2.2.2 ≠ gb5) ∧ (Below w.heap.size w w')) ?_ ?_
 rotate_left
 ·intro hCont
  refine two_ (i := 1) (j := 8) (Ni := some 81) (Nj := some 14) #[true, true, true, false, false, false, false, false, false, false, false] #[true, false, true, false, false, false, false, false, true, false, false] rfl rfl rfl rfl (two_of HT_.out bfqv_) bi3y_ bi3y_ (fun K hK => ?_) (fun K hK => ?_)
  ·refine gs_ Tryd.func14 #[.agg #[.int .i64 a0_0, .bool a0_1, .slice A0_2 l0_2.length c0_2, .slice A0_3 l0_3.length c0_3, .int .i64 a0_4]] ?_
   with_reducible refine (laws_toHouse.calls kj2 a0_0 a0_1 _ _ l0_2 _ _ l0_3 a0_4 t44 t45 t46 t47 t48 _ ?side1 ?side2 ?side3 ?side4 A26.out).mono ?_
   (case side1 => exact b6n8_)
   (case side2 => exact HC0_2.out)
   (case side3 => exact bkan_)
   (case side4 => exact HC0_3.out)
   rintro e w18 ⟨v13, v14, rfl, ho0, ho1, hb⟩
   refine ⟨_, rfl, ?_⟩
   have HO11 := A0_ (Kd.R_lower (Kd.R_new' (Kd.R_new' (Kd.R_new' (Kd.R_new' (Kd.R_new' (Kd.R_new' ho0 (Kd.R_lt bwik_)) (Kd.R_lt b7sq_)) (Kd.R_lt bzfm_)) (Kd.R_lt b0mw_)) (Kd.R_lt bqlr_)) (Kd.R_lt bj2s_)) (bz_ b5zo_))
   have HO12 := A0_ (Kd.R_lower (Kd.R_new' (Kd.R_new' (Kd.R_new' (Kd.R_new' (Kd.R_new' (Kd.R_new' ho1 (Kd.R_lt bwik_)) (Kd.R_lt b7sq_)) (Kd.R_lt bzfm_)) (Kd.R_lt b0mw_)) (Kd.R_lt bqlr_)) (Kd.R_lt bj2s_)) (bz_ b5zo_))
   replace HO_1 := A0_ (Kd.R_mono (Kd.R_told (Kd.R_told (Kd.R_old bwik_ hb) (Kd.R_base ho0)) (Kd.R_base ho1)) (fun _ h_ => h_.1))
   replace HO_2 := A0_ (Kd.R_mono (Kd.R_told (Kd.R_told (Kd.R_old b7sq_ hb) (Kd.R_base ho0)) (Kd.R_base ho1)) (fun _ h_ => h_.1))
   replace HO_3 := A0_ (Kd.R_mono (Kd.R_told (Kd.R_told (Kd.R_old bzfm_ hb) (Kd.R_base ho0)) (Kd.R_base ho1)) (fun _ h_ => h_.1))
   replace HO_4 := A0_ (Kd.R_mono (Kd.R_told (Kd.R_told (Kd.R_old b0mw_ hb) (Kd.R_base ho0)) (Kd.R_base ho1)) (fun _ h_ => h_.1))
   replace HO_5 := A0_ (Kd.R_mono (Kd.R_told (Kd.R_told (Kd.R_old bqlr_ hb) (Kd.R_base ho0)) (Kd.R_base ho1)) (fun _ h_ => h_.1))
   replace HO_6 := A0_ (Kd.R_mono (Kd.R_told (Kd.R_told (Kd.R_old bj2s_ hb) (Kd.R_base ho0)) (Kd.R_base ho1)) (fun _ h_ => h_.1))
   replace BK1 := k1_ BK1 hb
   replace BK2 := k1_ BK2 hb
   replace BK3 := k1_ BK3 hb
   replace BK4 := k1_ BK4 hb
   replace BK5 := k1_ BK5 hb
   replace HB := hb_ hb b5zo_
   (try clear hb); (try clear ho0); (try clear ho1)
   refine hK.out _ _ ⟨(kc_ BK1.out 0).trans rfl, (kc_ BK1.out 1).trans rfl, (kc_ BK1.out 2).trans rfl, (kc_ BK1.out 3).trans rfl, (kc_ BK1.out 4).trans rfl, (kc_ BK2.out 0).trans rfl, (kc_ BK2.out 1).trans rfl, (kc_ BK2.out 2).trans rfl⟩ (fun hHeld => ?_)
   clear hK K
   refine nm_ 81 ?_
   refine two_ (i := 3) (j := 8) (Ni := some 83) (Nj := some 14) #[true, true, true, true, false, false, false, false, false, false, false] #[true, true, true, false, false, false, false, false, true, false, false] rfl rfl rfl rfl (two_of HT_.out bfqv_) bi3y_ bi3y_ (fun K hK => ?_) (fun K hK => ?_)
   ·refine gs_ Tryd.func20 #[.agg #[.int .i64 a1_0, .int .i64 a1_1, .int .i64 a1_2]] ?_
    with_reducible refine (laws_toWork.calls a1_0 a1_1 a1_2 t49 t50 t51 _ A28.out).mono ?_
    rintro e w19 ⟨rfl, hb⟩
    refine ⟨_, rfl, ?_⟩
    replace HO_1 := A0_ (Kd.R_below bwik_ hb)
    replace HO_2 := A0_ (Kd.R_below b7sq_ hb)
    replace HO_3 := A0_ (Kd.R_below bzfm_ hb)
    replace HO_4 := A0_ (Kd.R_below b0mw_ hb)
    replace HO_5 := A0_ (Kd.R_below bqlr_ hb)
    replace HO_6 := A0_ (Kd.R_below bj2s_ hb)
    replace HO11 := A0_ (Kd.R_below bfdn_ hb)
    replace HO12 := A0_ (Kd.R_below b8dh_ hb)
    replace BK1 := k1_ BK1 hb
    replace BK2 := k1_ BK2 hb
    replace BK3 := k1_ BK3 hb
    replace BK4 := k1_ BK4 hb
    replace BK5 := k1_ BK5 hb
    replace HB := hb_ hb b5zo_
    (try clear hb)
    obtain ⟨Ao9, co9, eo9⟩ := Kd.R_slice HO11.out
    (first | subst eo9 | (injection eo9 with f1_ f2_ f3_; have f4_ := f1_.symm; have f5_ := f3_.symm; clear f1_ f2_ f3_; subst f4_; subst f5_))
    obtain ⟨Ao10, co10, eo10⟩ := Kd.R_slice HO12.out
    (first | subst eo10 | (injection eo10 with f1_ f2_ f3_; have f4_ := f1_.symm; have f5_ := f3_.symm; clear f1_ f2_ f3_; subst f4_; subst f5_))
    refine hK.out _ _ ⟨(kc_ BK1.out 0).trans rfl, (kc_ BK1.out 1).trans rfl, (kc_ BK1.out 2).trans rfl, (kc_ BK1.out 3).trans rfl, (kc_ BK1.out 4).trans rfl, (kc_ BK2.out 0).trans rfl, (kc_ BK2.out 1).trans rfl, (kc_ BK2.out 2).trans rfl⟩ (fun hHeld => ?_)
    clear hK K
    refine nm_ 83 ?_
    refine two_ (i := 4) (j := 8) (Ni := some 84) (Nj := some 14) #[true, true, true, true, true, false, false, false, false, false, false] #[true, true, true, true, false, false, false, false, true, false, false] rfl rfl rfl rfl (two_of HT_.out bfqv_) bi3y_ bi3y_ (fun K hK => ?_) (fun K hK => ?_)
    ·refine gs_ Tryd.func21 #[.agg #[.int .i64 t44, .bool t45, .slice Ao9 t46.length co9, .slice Ao10 t47.length co10, .int .i64 t48], .agg #[.int .i64 t49, .int .i64 t50, .int .i64 t51]] ?_
     with_reducible refine (impl_DoWork.calls kj2 t44 t45 _ _ t46 _ _ t47 t48 t49 t50 t51 t52 t53 t54 t55 t56 t57 _ ?side1 ?side2 ?side3 ?side4 bd55_ A30.out).mono ?_
     (case side1 => exact btxe_)
     (case side2 => exact (rr_ HO11.out).2.1)
     (case side3 => exact bmsm_)
     (case side4 => exact (rr_ HO12.out).2.1)
     rintro e w20 ⟨v15, v16, rfl, ho0, ho1, hb⟩
     refine ⟨_, rfl, ?_⟩
     have HO13 := A0_ (Kd.R_lower (Kd.R_new' (Kd.R_new' (Kd.R_new' (Kd.R_new' (Kd.R_new' (Kd.R_new' (Kd.R_new' (Kd.R_new' ho0 (Kd.R_lt bwik_)) (Kd.R_lt b7sq_)) (Kd.R_lt bzfm_)) (Kd.R_lt b0mw_)) (Kd.R_lt bqlr_)) (Kd.R_lt bj2s_)) (Kd.R_lt bfdn_)) (Kd.R_lt b8dh_)) (bz_ b5zo_))
     have HO14 := A0_ (Kd.R_lower (Kd.R_new' (Kd.R_new' (Kd.R_new' (Kd.R_new' (Kd.R_new' (Kd.R_new' (Kd.R_new' (Kd.R_new' ho1 (Kd.R_lt bwik_)) (Kd.R_lt b7sq_)) (Kd.R_lt bzfm_)) (Kd.R_lt b0mw_)) (Kd.R_lt bqlr_)) (Kd.R_lt bj2s_)) (Kd.R_lt bfdn_)) (Kd.R_lt b8dh_)) (bz_ b5zo_))
     replace HO_1 := A0_ (Kd.R_mono (Kd.R_told (Kd.R_told (Kd.R_old bwik_ hb) (Kd.R_base ho0)) (Kd.R_base ho1)) (fun _ h_ => h_.1))
     replace HO_2 := A0_ (Kd.R_mono (Kd.R_told (Kd.R_told (Kd.R_old b7sq_ hb) (Kd.R_base ho0)) (Kd.R_base ho1)) (fun _ h_ => h_.1))
     replace HO_3 := A0_ (Kd.R_mono (Kd.R_told (Kd.R_told (Kd.R_old bzfm_ hb) (Kd.R_base ho0)) (Kd.R_base ho1)) (fun _ h_ => h_.1))
     replace HO_4 := A0_ (Kd.R_mono (Kd.R_told (Kd.R_told (Kd.R_old b0mw_ hb) (Kd.R_base ho0)) (Kd.R_base ho1)) (fun _ h_ => h_.1))
     replace HO_5 := A0_ (Kd.R_mono (Kd.R_told (Kd.R_told (Kd.R_old bqlr_ hb) (Kd.R_base ho0)) (Kd.R_base ho1)) (fun _ h_ => h_.1))
     replace HO_6 := A0_ (Kd.R_mono (Kd.R_told (Kd.R_told (Kd.R_old bj2s_ hb) (Kd.R_base ho0)) (Kd.R_base ho1)) (fun _ h_ => h_.1))
     replace HO11 := A0_ (Kd.R_mono (Kd.R_told (Kd.R_told (Kd.R_old bfdn_ hb) (Kd.R_base ho0)) (Kd.R_base ho1)) (fun _ h_ => h_.1))
     replace HO12 := A0_ (Kd.R_mono (Kd.R_told (Kd.R_told (Kd.R_old b8dh_ hb) (Kd.R_base ho0)) (Kd.R_base ho1)) (fun _ h_ => h_.1))
     replace BK1 := k1_ BK1 hb
     replace BK2 := k1_ BK2 hb
     replace BK3 := k1_ BK3 hb
     replace BK4 := k1_ BK4 hb
     replace BK5 := k1_ BK5 hb
     replace HB := hb_ hb b5zo_
     (try clear hb); (try clear ho0); (try clear ho1)
     refine hK.out _ _ ⟨(kc_ BK1.out 0).trans rfl, (kc_ BK1.out 1).trans rfl, (kc_ BK1.out 2).trans rfl, (kc_ BK1.out 3).trans rfl, (kc_ BK1.out 4).trans rfl, (kc_ BK2.out 0).trans rfl, (kc_ BK2.out 1).trans rfl, (kc_ BK2.out 2).trans rfl⟩ (fun hHeld => ?_)
     clear hK K
     refine nm_ 84 ?_
     refine pu_ 5 79 ?_
     refine pu_ 6 85 ?_
     refine pu_ 7 86 ?_
     refine on_ 8 (some 14) (fun K hK => ?_)
     refine bp_ 14 #[.int .i64 0, .bool false, .slice none 0 0, .slice none 0 0, .int .i64 0] 26 ?_
     intro gb6 hg w21 hbox hb
     replace HO_1 := A0_ (Kd.R_below bwik_ hb)
     replace HO_2 := A0_ (Kd.R_below b7sq_ hb)
     replace HO_3 := A0_ (Kd.R_below bzfm_ hb)
     replace HO_4 := A0_ (Kd.R_below b0mw_ hb)
     replace HO_5 := A0_ (Kd.R_below bqlr_ hb)
     replace HO_6 := A0_ (Kd.R_below bj2s_ hb)
     replace HO11 := A0_ (Kd.R_below bfdn_ hb)
     replace HO12 := A0_ (Kd.R_below b8dh_ hb)
     replace HO13 := A0_ (Kd.R_below (by (with_reducible repeat (first | apply ra_ | apply rn_ | apply rd_)); exact HO13.out) hb)
     replace HO14 := A0_ (Kd.R_below (by (with_reducible repeat (first | apply ra_ | apply rn_ | apply rd_)); exact HO14.out) hb)
     have BK6 := A0_ (hbox)
     have GW6 := ge_ hg b5zo_
     have GE6 := ge_ hg b5zo_
     replace HB := hb_ hb b5zo_
     have NB1_6 := nl_ hg BK1
     have NB6_1 := ng_ hg BK1
     replace BK1 := k1_ BK1 hb
     have NB2_6 := nl_ hg BK2
     have NB6_2 := ng_ hg BK2
     replace BK2 := k1_ BK2 hb
     have NB3_6 := nl_ hg BK3
     have NB6_3 := ng_ hg BK3
     replace BK3 := k1_ BK3 hb
     have NB4_6 := nl_ hg BK4
     have NB6_4 := ng_ hg BK4
     replace BK4 := k1_ BK4 hb
     have NB5_6 := nl_ hg BK5
     have NB6_5 := ng_ hg BK5
     replace BK5 := k1_ BK5 hb
     clear hb hbox hg
     refine hK.out _ _ ⟨(kc_ BK1.out 0).trans rfl, (kc_ BK1.out 1).trans rfl, (kc_ BK1.out 2).trans rfl, (kc_ BK1.out 3).trans rfl, (kc_ BK1.out 4).trans rfl, (kc_ BK2.out 0).trans rfl, (kc_ BK2.out 1).trans rfl, (kc_ BK2.out 2).trans rfl⟩ (fun hHeld => ?_)
     clear hK K
     refine nm_ 14 ?_
     exact norm_ bh00_ (hCont (.slice Ao9 t46.length co9, .slice Ao10 t47.length co10, v15, v16, gb6) _ ⟨hHeld, bua2_, bgcd_, bdvq_, bhcf_, b9dr_, bfb7_, bsf8_, b4w4_, b9hw_, bo6m_, (u1_ BK1), (u1_ BK2), (u1_ BK3), (u1_ BK4), (u1_ BK5), (u1_ BK6), GW6.out, GE6.out, NB1_6.out, NB6_1.out, NB2_6.out, NB6_2.out, NB3_6.out, NB6_3.out, NB4_6.out, NB6_4.out, NB5_6.out, NB6_5.out, b76e_⟩)
    refine bp_ 14 #[.int .i64 0, .bool false, .slice none 0 0, .slice none 0 0, .int .i64 0] 26 ?_
    intro gb6 hg w20 hbox hb
    replace HO_1 := A0_ (Kd.R_below bwik_ hb)
    replace HO_2 := A0_ (Kd.R_below b7sq_ hb)
    replace HO_3 := A0_ (Kd.R_below bzfm_ hb)
    replace HO_4 := A0_ (Kd.R_below b0mw_ hb)
    replace HO_5 := A0_ (Kd.R_below bqlr_ hb)
    replace HO_6 := A0_ (Kd.R_below bj2s_ hb)
    replace HO11 := A0_ (Kd.R_below bfdn_ hb)
    replace HO12 := A0_ (Kd.R_below b8dh_ hb)
    have BK6 := A0_ (hbox)
    have GW6 := ge_ hg b5zo_
    have GE6 := ge_ hg b5zo_
    replace HB := hb_ hb b5zo_
    have NB1_6 := nl_ hg BK1
    have NB6_1 := ng_ hg BK1
    replace BK1 := k1_ BK1 hb
    have NB2_6 := nl_ hg BK2
    have NB6_2 := ng_ hg BK2
    replace BK2 := k1_ BK2 hb
    have NB3_6 := nl_ hg BK3
    have NB6_3 := ng_ hg BK3
    replace BK3 := k1_ BK3 hb
    have NB4_6 := nl_ hg BK4
    have NB6_4 := ng_ hg BK4
    replace BK4 := k1_ BK4 hb
    have NB5_6 := nl_ hg BK5
    have NB6_5 := ng_ hg BK5
    replace BK5 := k1_ BK5 hb
    clear hb hbox hg
    obtain ⟨Ao10, co10, eo10⟩ := Kd.R_slice HO11.out
    (first | subst eo10 | (injection eo10 with f1_ f2_ f3_; have f4_ := f1_.symm; have f5_ := f3_.symm; clear f1_ f2_ f3_; subst f4_; subst f5_))
    obtain ⟨Ao11, co11, eo11⟩ := Kd.R_slice HO12.out
    (first | subst eo11 | (injection eo11 with f1_ f2_ f3_; have f4_ := f1_.symm; have f5_ := f3_.symm; clear f1_ f2_ f3_; subst f4_; subst f5_))
    refine hK.out _ _ ⟨(kc_ BK1.out 0).trans rfl, (kc_ BK1.out 1).trans rfl, (kc_ BK1.out 2).trans rfl, (kc_ BK1.out 3).trans rfl, (kc_ BK1.out 4).trans rfl, (kc_ BK2.out 0).trans rfl, (kc_ BK2.out 1).trans rfl, (kc_ BK2.out 2).trans rfl⟩ (fun hHeld => ?_)
    clear hK K
    refine nm_ 14 ?_
    refine on_ 4 (some 84) (fun K hK => ?_)
    refine gs_ Tryd.func21 #[.agg #[.int .i64 t44, .bool t45, .slice Ao10 t46.length co10, .slice Ao11 t47.length co11, .int .i64 t48], .agg #[.int .i64 t49, .int .i64 t50, .int .i64 t51]] ?_
    with_reducible refine (impl_DoWork.calls kj2 t44 t45 _ _ t46 _ _ t47 t48 t49 t50 t51 t52 t53 t54 t55 t56 t57 _ ?side1 ?side2 ?side3 ?side4 bd55_ A30.out).mono ?_
    (case side1 => exact btxe_)
    (case side2 => exact (rr_ HO11.out).2.1)
    (case side3 => exact bmsm_)
    (case side4 => exact (rr_ HO12.out).2.1)
    rintro e w21 ⟨v15, v16, rfl, ho0, ho1, hb⟩
    refine ⟨_, rfl, ?_⟩
    have HO13 := A0_ (Kd.R_lower (Kd.R_new' (Kd.R_new' (Kd.R_new' (Kd.R_new' (Kd.R_new' (Kd.R_new' (Kd.R_new' (Kd.R_new' ho0 (Kd.R_lt bwik_)) (Kd.R_lt b7sq_)) (Kd.R_lt bzfm_)) (Kd.R_lt b0mw_)) (Kd.R_lt bqlr_)) (Kd.R_lt bj2s_)) (Kd.R_lt bfdn_)) (Kd.R_lt b8dh_)) (bz_ b76e_))
    have HO14 := A0_ (Kd.R_lower (Kd.R_new' (Kd.R_new' (Kd.R_new' (Kd.R_new' (Kd.R_new' (Kd.R_new' (Kd.R_new' (Kd.R_new' ho1 (Kd.R_lt bwik_)) (Kd.R_lt b7sq_)) (Kd.R_lt bzfm_)) (Kd.R_lt b0mw_)) (Kd.R_lt bqlr_)) (Kd.R_lt bj2s_)) (Kd.R_lt bfdn_)) (Kd.R_lt b8dh_)) (bz_ b76e_))
    replace HO_1 := A0_ (Kd.R_mono (Kd.R_told (Kd.R_told (Kd.R_old bwik_ hb) (Kd.R_base ho0)) (Kd.R_base ho1)) (fun _ h_ => h_.1))
    replace HO_2 := A0_ (Kd.R_mono (Kd.R_told (Kd.R_told (Kd.R_old b7sq_ hb) (Kd.R_base ho0)) (Kd.R_base ho1)) (fun _ h_ => h_.1))
    replace HO_3 := A0_ (Kd.R_mono (Kd.R_told (Kd.R_told (Kd.R_old bzfm_ hb) (Kd.R_base ho0)) (Kd.R_base ho1)) (fun _ h_ => h_.1))
    replace HO_4 := A0_ (Kd.R_mono (Kd.R_told (Kd.R_told (Kd.R_old b0mw_ hb) (Kd.R_base ho0)) (Kd.R_base ho1)) (fun _ h_ => h_.1))
    replace HO_5 := A0_ (Kd.R_mono (Kd.R_told (Kd.R_told (Kd.R_old bqlr_ hb) (Kd.R_base ho0)) (Kd.R_base ho1)) (fun _ h_ => h_.1))
    replace HO_6 := A0_ (Kd.R_mono (Kd.R_told (Kd.R_told (Kd.R_old bj2s_ hb) (Kd.R_base ho0)) (Kd.R_base ho1)) (fun _ h_ => h_.1))
    replace HO11 := A0_ (Kd.R_mono (Kd.R_told (Kd.R_told (Kd.R_old bfdn_ hb) (Kd.R_base ho0)) (Kd.R_base ho1)) (fun _ h_ => h_.1))
    replace HO12 := A0_ (Kd.R_mono (Kd.R_told (Kd.R_told (Kd.R_old b8dh_ hb) (Kd.R_base ho0)) (Kd.R_base ho1)) (fun _ h_ => h_.1))
    replace BK1 := k1_ BK1 hb
    replace BK2 := k1_ BK2 hb
    replace BK3 := k1_ BK3 hb
    replace BK4 := k1_ BK4 hb
    replace BK5 := k1_ BK5 hb
    replace BK6 := k1_ BK6 hb
    replace HB := hb_ hb b76e_
    (try clear hb); (try clear ho0); (try clear ho1)
    refine hK.out _ _ ⟨(kc_ BK1.out 0).trans rfl, (kc_ BK1.out 1).trans rfl, (kc_ BK1.out 2).trans rfl, (kc_ BK1.out 3).trans rfl, (kc_ BK1.out 4).trans rfl, (kc_ BK2.out 0).trans rfl, (kc_ BK2.out 1).trans rfl, (kc_ BK2.out 2).trans rfl⟩ (fun hHeld => ?_)
    clear hK K
    refine nm_ 84 ?_
    refine pu_ 5 79 ?_
    refine pu_ 6 85 ?_
    refine pu_ 7 86 ?_
    exact norm_ bh00_ (hCont (.slice Ao10 t46.length co10, .slice Ao11 t47.length co11, v15, v16, gb6) _ ⟨hHeld, bua2_, bgcd_, bdvq_, bhcf_, b9dr_, bfb7_, bsf8_, b4w4_, b9hw_, bo6m_, (u1_ BK1), (u1_ BK2), (u1_ BK3), (u1_ BK4), (u1_ BK5), (u1_ BK6), GW6.out, GE6.out, NB1_6.out, NB6_1.out, NB2_6.out, NB6_2.out, NB3_6.out, NB6_3.out, NB4_6.out, NB6_4.out, NB5_6.out, NB6_5.out, b76e_⟩)
   refine bp_ 14 #[.int .i64 0, .bool false, .slice none 0 0, .slice none 0 0, .int .i64 0] 26 ?_
   intro gb6 hg w19 hbox hb
   replace HO_1 := A0_ (Kd.R_below bwik_ hb)
   replace HO_2 := A0_ (Kd.R_below b7sq_ hb)
   replace HO_3 := A0_ (Kd.R_below bzfm_ hb)
   replace HO_4 := A0_ (Kd.R_below b0mw_ hb)
   replace HO_5 := A0_ (Kd.R_below bqlr_ hb)
   replace HO_6 := A0_ (Kd.R_below bj2s_ hb)
   replace HO11 := A0_ (Kd.R_below bfdn_ hb)
   replace HO12 := A0_ (Kd.R_below b8dh_ hb)
   have BK6 := A0_ (hbox)
   have GW6 := ge_ hg b5zo_
   have GE6 := ge_ hg b5zo_
   replace HB := hb_ hb b5zo_
   have NB1_6 := nl_ hg BK1
   have NB6_1 := ng_ hg BK1
   replace BK1 := k1_ BK1 hb
   have NB2_6 := nl_ hg BK2
   have NB6_2 := ng_ hg BK2
   replace BK2 := k1_ BK2 hb
   have NB3_6 := nl_ hg BK3
   have NB6_3 := ng_ hg BK3
   replace BK3 := k1_ BK3 hb
   have NB4_6 := nl_ hg BK4
   have NB6_4 := ng_ hg BK4
   replace BK4 := k1_ BK4 hb
   have NB5_6 := nl_ hg BK5
   have NB6_5 := ng_ hg BK5
   replace BK5 := k1_ BK5 hb
   clear hb hbox hg
   refine hK.out _ _ ⟨(kc_ BK1.out 0).trans rfl, (kc_ BK1.out 1).trans rfl, (kc_ BK1.out 2).trans rfl, (kc_ BK1.out 3).trans rfl, (kc_ BK1.out 4).trans rfl, (kc_ BK2.out 0).trans rfl, (kc_ BK2.out 1).trans rfl, (kc_ BK2.out 2).trans rfl⟩ (fun hHeld => ?_)
   clear hK K
   refine nm_ 14 ?_
   refine on_ 3 (some 83) (fun K hK => ?_)
   refine gs_ Tryd.func20 #[.agg #[.int .i64 a1_0, .int .i64 a1_1, .int .i64 a1_2]] ?_
   with_reducible refine (laws_toWork.calls a1_0 a1_1 a1_2 t49 t50 t51 _ A28.out).mono ?_
   rintro e w20 ⟨rfl, hb⟩
   refine ⟨_, rfl, ?_⟩
   replace HO_1 := A0_ (Kd.R_below bwik_ hb)
   replace HO_2 := A0_ (Kd.R_below b7sq_ hb)
   replace HO_3 := A0_ (Kd.R_below bzfm_ hb)
   replace HO_4 := A0_ (Kd.R_below b0mw_ hb)
   replace HO_5 := A0_ (Kd.R_below bqlr_ hb)
   replace HO_6 := A0_ (Kd.R_below bj2s_ hb)
   replace HO11 := A0_ (Kd.R_below bfdn_ hb)
   replace HO12 := A0_ (Kd.R_below b8dh_ hb)
   replace BK1 := k1_ BK1 hb
   replace BK2 := k1_ BK2 hb
   replace BK3 := k1_ BK3 hb
   replace BK4 := k1_ BK4 hb
   replace BK5 := k1_ BK5 hb
   replace BK6 := k1_ BK6 hb
   replace HB := hb_ hb b76e_
   (try clear hb)
   obtain ⟨Ao9, co9, eo9⟩ := Kd.R_slice HO11.out
   (first | subst eo9 | (injection eo9 with f1_ f2_ f3_; have f4_ := f1_.symm; have f5_ := f3_.symm; clear f1_ f2_ f3_; subst f4_; subst f5_))
   obtain ⟨Ao10, co10, eo10⟩ := Kd.R_slice HO12.out
   (first | subst eo10 | (injection eo10 with f1_ f2_ f3_; have f4_ := f1_.symm; have f5_ := f3_.symm; clear f1_ f2_ f3_; subst f4_; subst f5_))
   refine hK.out _ _ ⟨(kc_ BK1.out 0).trans rfl, (kc_ BK1.out 1).trans rfl, (kc_ BK1.out 2).trans rfl, (kc_ BK1.out 3).trans rfl, (kc_ BK1.out 4).trans rfl, (kc_ BK2.out 0).trans rfl, (kc_ BK2.out 1).trans rfl, (kc_ BK2.out 2).trans rfl⟩ (fun hHeld => ?_)
   clear hK K
   refine nm_ 83 ?_
   refine on_ 4 (some 84) (fun K hK => ?_)
   refine gs_ Tryd.func21 #[.agg #[.int .i64 t44, .bool t45, .slice Ao9 t46.length co9, .slice Ao10 t47.length co10, .int .i64 t48], .agg #[.int .i64 t49, .int .i64 t50, .int .i64 t51]] ?_
   with_reducible refine (impl_DoWork.calls kj2 t44 t45 _ _ t46 _ _ t47 t48 t49 t50 t51 t52 t53 t54 t55 t56 t57 _ ?side1 ?side2 ?side3 ?side4 bd55_ A30.out).mono ?_
   (case side1 => exact btxe_)
   (case side2 => exact (rr_ HO11.out).2.1)
   (case side3 => exact bmsm_)
   (case side4 => exact (rr_ HO12.out).2.1)
   rintro e w21 ⟨v15, v16, rfl, ho0, ho1, hb⟩
   refine ⟨_, rfl, ?_⟩
   have HO13 := A0_ (Kd.R_lower (Kd.R_new' (Kd.R_new' (Kd.R_new' (Kd.R_new' (Kd.R_new' (Kd.R_new' (Kd.R_new' (Kd.R_new' ho0 (Kd.R_lt bwik_)) (Kd.R_lt b7sq_)) (Kd.R_lt bzfm_)) (Kd.R_lt b0mw_)) (Kd.R_lt bqlr_)) (Kd.R_lt bj2s_)) (Kd.R_lt bfdn_)) (Kd.R_lt b8dh_)) (bz_ b76e_))
   have HO14 := A0_ (Kd.R_lower (Kd.R_new' (Kd.R_new' (Kd.R_new' (Kd.R_new' (Kd.R_new' (Kd.R_new' (Kd.R_new' (Kd.R_new' ho1 (Kd.R_lt bwik_)) (Kd.R_lt b7sq_)) (Kd.R_lt bzfm_)) (Kd.R_lt b0mw_)) (Kd.R_lt bqlr_)) (Kd.R_lt bj2s_)) (Kd.R_lt bfdn_)) (Kd.R_lt b8dh_)) (bz_ b76e_))
   replace HO_1 := A0_ (Kd.R_mono (Kd.R_told (Kd.R_told (Kd.R_old bwik_ hb) (Kd.R_base ho0)) (Kd.R_base ho1)) (fun _ h_ => h_.1))
   replace HO_2 := A0_ (Kd.R_mono (Kd.R_told (Kd.R_told (Kd.R_old b7sq_ hb) (Kd.R_base ho0)) (Kd.R_base ho1)) (fun _ h_ => h_.1))
   replace HO_3 := A0_ (Kd.R_mono (Kd.R_told (Kd.R_told (Kd.R_old bzfm_ hb) (Kd.R_base ho0)) (Kd.R_base ho1)) (fun _ h_ => h_.1))
   replace HO_4 := A0_ (Kd.R_mono (Kd.R_told (Kd.R_told (Kd.R_old b0mw_ hb) (Kd.R_base ho0)) (Kd.R_base ho1)) (fun _ h_ => h_.1))
   replace HO_5 := A0_ (Kd.R_mono (Kd.R_told (Kd.R_told (Kd.R_old bqlr_ hb) (Kd.R_base ho0)) (Kd.R_base ho1)) (fun _ h_ => h_.1))
   replace HO_6 := A0_ (Kd.R_mono (Kd.R_told (Kd.R_told (Kd.R_old bj2s_ hb) (Kd.R_base ho0)) (Kd.R_base ho1)) (fun _ h_ => h_.1))
   replace HO11 := A0_ (Kd.R_mono (Kd.R_told (Kd.R_told (Kd.R_old bfdn_ hb) (Kd.R_base ho0)) (Kd.R_base ho1)) (fun _ h_ => h_.1))
   replace HO12 := A0_ (Kd.R_mono (Kd.R_told (Kd.R_told (Kd.R_old b8dh_ hb) (Kd.R_base ho0)) (Kd.R_base ho1)) (fun _ h_ => h_.1))
   replace BK1 := k1_ BK1 hb
   replace BK2 := k1_ BK2 hb
   replace BK3 := k1_ BK3 hb
   replace BK4 := k1_ BK4 hb
   replace BK5 := k1_ BK5 hb
   replace BK6 := k1_ BK6 hb
   replace HB := hb_ hb b76e_
   (try clear hb); (try clear ho0); (try clear ho1)
   refine hK.out _ _ ⟨(kc_ BK1.out 0).trans rfl, (kc_ BK1.out 1).trans rfl, (kc_ BK1.out 2).trans rfl, (kc_ BK1.out 3).trans rfl, (kc_ BK1.out 4).trans rfl, (kc_ BK2.out 0).trans rfl, (kc_ BK2.out 1).trans rfl, (kc_ BK2.out 2).trans rfl⟩ (fun hHeld => ?_)
   clear hK K
   refine nm_ 84 ?_
   refine pu_ 5 79 ?_
   refine pu_ 6 85 ?_
   refine pu_ 7 86 ?_
   exact norm_ bh00_ (hCont (.slice Ao9 t46.length co9, .slice Ao10 t47.length co10, v15, v16, gb6) _ ⟨hHeld, bua2_, bgcd_, bdvq_, bhcf_, b9dr_, bfb7_, bsf8_, b4w4_, b9hw_, bo6m_, (u1_ BK1), (u1_ BK2), (u1_ BK3), (u1_ BK4), (u1_ BK5), (u1_ BK6), GW6.out, GE6.out, NB1_6.out, NB6_1.out, NB2_6.out, NB6_2.out, NB3_6.out, NB6_3.out, NB4_6.out, NB6_4.out, NB5_6.out, NB6_5.out, b76e_⟩)
  refine bp_ 14 #[.int .i64 0, .bool false, .slice none 0 0, .slice none 0 0, .int .i64 0] 26 ?_
  intro gb6 hg w18 hbox hb
  replace HO_1 := A0_ (Kd.R_below bwik_ hb)
  replace HO_2 := A0_ (Kd.R_below b7sq_ hb)
  replace HO_3 := A0_ (Kd.R_below bzfm_ hb)
  replace HO_4 := A0_ (Kd.R_below b0mw_ hb)
  replace HO_5 := A0_ (Kd.R_below bqlr_ hb)
  replace HO_6 := A0_ (Kd.R_below bj2s_ hb)
  have BK6 := A0_ (hbox)
  have GW6 := ge_ hg b5zo_
  have GE6 := ge_ hg b5zo_
  replace HB := hb_ hb b5zo_
  have NB1_6 := nl_ hg BK1
  have NB6_1 := ng_ hg BK1
  replace BK1 := k1_ BK1 hb
  have NB2_6 := nl_ hg BK2
  have NB6_2 := ng_ hg BK2
  replace BK2 := k1_ BK2 hb
  have NB3_6 := nl_ hg BK3
  have NB6_3 := ng_ hg BK3
  replace BK3 := k1_ BK3 hb
  have NB4_6 := nl_ hg BK4
  have NB6_4 := ng_ hg BK4
  replace BK4 := k1_ BK4 hb
  have NB5_6 := nl_ hg BK5
  have NB6_5 := ng_ hg BK5
  replace BK5 := k1_ BK5 hb
  clear hb hbox hg
  refine hK.out _ _ ⟨(kc_ BK1.out 0).trans rfl, (kc_ BK1.out 1).trans rfl, (kc_ BK1.out 2).trans rfl, (kc_ BK1.out 3).trans rfl, (kc_ BK1.out 4).trans rfl, (kc_ BK2.out 0).trans rfl, (kc_ BK2.out 1).trans rfl, (kc_ BK2.out 2).trans rfl⟩ (fun hHeld => ?_)
  clear hK K
  refine nm_ 14 ?_
  refine on_ 1 (some 81) (fun K hK => ?_)
  refine gs_ Tryd.func14 #[.agg #[.int .i64 a0_0, .bool a0_1, .slice A0_2 l0_2.length c0_2, .slice A0_3 l0_3.length c0_3, .int .i64 a0_4]] ?_
  with_reducible refine (laws_toHouse.calls kj2 a0_0 a0_1 _ _ l0_2 _ _ l0_3 a0_4 t44 t45 t46 t47 t48 _ ?side1 ?side2 ?side3 ?side4 A26.out).mono ?_
  (case side1 => exact b6n8_)
  (case side2 => exact HC0_2.out)
  (case side3 => exact bkan_)
  (case side4 => exact HC0_3.out)
  rintro e w19 ⟨v13, v14, rfl, ho0, ho1, hb⟩
  refine ⟨_, rfl, ?_⟩
  have HO11 := A0_ (Kd.R_lower (Kd.R_new' (Kd.R_new' (Kd.R_new' (Kd.R_new' (Kd.R_new' (Kd.R_new' ho0 (Kd.R_lt bwik_)) (Kd.R_lt b7sq_)) (Kd.R_lt bzfm_)) (Kd.R_lt b0mw_)) (Kd.R_lt bqlr_)) (Kd.R_lt bj2s_)) (bz_ b76e_))
  have HO12 := A0_ (Kd.R_lower (Kd.R_new' (Kd.R_new' (Kd.R_new' (Kd.R_new' (Kd.R_new' (Kd.R_new' ho1 (Kd.R_lt bwik_)) (Kd.R_lt b7sq_)) (Kd.R_lt bzfm_)) (Kd.R_lt b0mw_)) (Kd.R_lt bqlr_)) (Kd.R_lt bj2s_)) (bz_ b76e_))
  replace HO_1 := A0_ (Kd.R_mono (Kd.R_told (Kd.R_told (Kd.R_old bwik_ hb) (Kd.R_base ho0)) (Kd.R_base ho1)) (fun _ h_ => h_.1))
  replace HO_2 := A0_ (Kd.R_mono (Kd.R_told (Kd.R_told (Kd.R_old b7sq_ hb) (Kd.R_base ho0)) (Kd.R_base ho1)) (fun _ h_ => h_.1))
  replace HO_3 := A0_ (Kd.R_mono (Kd.R_told (Kd.R_told (Kd.R_old bzfm_ hb) (Kd.R_base ho0)) (Kd.R_base ho1)) (fun _ h_ => h_.1))
  replace HO_4 := A0_ (Kd.R_mono (Kd.R_told (Kd.R_told (Kd.R_old b0mw_ hb) (Kd.R_base ho0)) (Kd.R_base ho1)) (fun _ h_ => h_.1))
  replace HO_5 := A0_ (Kd.R_mono (Kd.R_told (Kd.R_told (Kd.R_old bqlr_ hb) (Kd.R_base ho0)) (Kd.R_base ho1)) (fun _ h_ => h_.1))
  replace HO_6 := A0_ (Kd.R_mono (Kd.R_told (Kd.R_told (Kd.R_old bj2s_ hb) (Kd.R_base ho0)) (Kd.R_base ho1)) (fun _ h_ => h_.1))
  replace BK1 := k1_ BK1 hb
  replace BK2 := k1_ BK2 hb
  replace BK3 := k1_ BK3 hb
  replace BK4 := k1_ BK4 hb
  replace BK5 := k1_ BK5 hb
  replace BK6 := k1_ BK6 hb
  replace HB := hb_ hb b76e_
  (try clear hb); (try clear ho0); (try clear ho1)
  refine hK.out _ _ ⟨(kc_ BK1.out 0).trans rfl, (kc_ BK1.out 1).trans rfl, (kc_ BK1.out 2).trans rfl, (kc_ BK1.out 3).trans rfl, (kc_ BK1.out 4).trans rfl, (kc_ BK2.out 0).trans rfl, (kc_ BK2.out 1).trans rfl, (kc_ BK2.out 2).trans rfl⟩ (fun hHeld => ?_)
  clear hK K
  refine nm_ 81 ?_
  refine on_ 3 (some 83) (fun K hK => ?_)
  refine gs_ Tryd.func20 #[.agg #[.int .i64 a1_0, .int .i64 a1_1, .int .i64 a1_2]] ?_
  with_reducible refine (laws_toWork.calls a1_0 a1_1 a1_2 t49 t50 t51 _ A28.out).mono ?_
  rintro e w20 ⟨rfl, hb⟩
  refine ⟨_, rfl, ?_⟩
  replace HO_1 := A0_ (Kd.R_below bwik_ hb)
  replace HO_2 := A0_ (Kd.R_below b7sq_ hb)
  replace HO_3 := A0_ (Kd.R_below bzfm_ hb)
  replace HO_4 := A0_ (Kd.R_below b0mw_ hb)
  replace HO_5 := A0_ (Kd.R_below bqlr_ hb)
  replace HO_6 := A0_ (Kd.R_below bj2s_ hb)
  replace HO11 := A0_ (Kd.R_below bfdn_ hb)
  replace HO12 := A0_ (Kd.R_below b8dh_ hb)
  replace BK1 := k1_ BK1 hb
  replace BK2 := k1_ BK2 hb
  replace BK3 := k1_ BK3 hb
  replace BK4 := k1_ BK4 hb
  replace BK5 := k1_ BK5 hb
  replace BK6 := k1_ BK6 hb
  replace HB := hb_ hb b76e_
  (try clear hb)
  obtain ⟨Ao9, co9, eo9⟩ := Kd.R_slice HO11.out
  (first | subst eo9 | (injection eo9 with f1_ f2_ f3_; have f4_ := f1_.symm; have f5_ := f3_.symm; clear f1_ f2_ f3_; subst f4_; subst f5_))
  obtain ⟨Ao10, co10, eo10⟩ := Kd.R_slice HO12.out
  (first | subst eo10 | (injection eo10 with f1_ f2_ f3_; have f4_ := f1_.symm; have f5_ := f3_.symm; clear f1_ f2_ f3_; subst f4_; subst f5_))
  refine hK.out _ _ ⟨(kc_ BK1.out 0).trans rfl, (kc_ BK1.out 1).trans rfl, (kc_ BK1.out 2).trans rfl, (kc_ BK1.out 3).trans rfl, (kc_ BK1.out 4).trans rfl, (kc_ BK2.out 0).trans rfl, (kc_ BK2.out 1).trans rfl, (kc_ BK2.out 2).trans rfl⟩ (fun hHeld => ?_)
  clear hK K
  refine nm_ 83 ?_
  refine on_ 4 (some 84) (fun K hK => ?_)
  refine gs_ Tryd.func21 #[.agg #[.int .i64 t44, .bool t45, .slice Ao9 t46.length co9, .slice Ao10 t47.length co10, .int .i64 t48], .agg #[.int .i64 t49, .int .i64 t50, .int .i64 t51]] ?_
  with_reducible refine (impl_DoWork.calls kj2 t44 t45 _ _ t46 _ _ t47 t48 t49 t50 t51 t52 t53 t54 t55 t56 t57 _ ?side1 ?side2 ?side3 ?side4 bd55_ A30.out).mono ?_
  (case side1 => exact btxe_)
  (case side2 => exact (rr_ HO11.out).2.1)
  (case side3 => exact bmsm_)
  (case side4 => exact (rr_ HO12.out).2.1)
  rintro e w21 ⟨v15, v16, rfl, ho0, ho1, hb⟩
  refine ⟨_, rfl, ?_⟩
  have HO13 := A0_ (Kd.R_lower (Kd.R_new' (Kd.R_new' (Kd.R_new' (Kd.R_new' (Kd.R_new' (Kd.R_new' (Kd.R_new' (Kd.R_new' ho0 (Kd.R_lt bwik_)) (Kd.R_lt b7sq_)) (Kd.R_lt bzfm_)) (Kd.R_lt b0mw_)) (Kd.R_lt bqlr_)) (Kd.R_lt bj2s_)) (Kd.R_lt bfdn_)) (Kd.R_lt b8dh_)) (bz_ b76e_))
  have HO14 := A0_ (Kd.R_lower (Kd.R_new' (Kd.R_new' (Kd.R_new' (Kd.R_new' (Kd.R_new' (Kd.R_new' (Kd.R_new' (Kd.R_new' ho1 (Kd.R_lt bwik_)) (Kd.R_lt b7sq_)) (Kd.R_lt bzfm_)) (Kd.R_lt b0mw_)) (Kd.R_lt bqlr_)) (Kd.R_lt bj2s_)) (Kd.R_lt bfdn_)) (Kd.R_lt b8dh_)) (bz_ b76e_))
  replace HO_1 := A0_ (Kd.R_mono (Kd.R_told (Kd.R_told (Kd.R_old bwik_ hb) (Kd.R_base ho0)) (Kd.R_base ho1)) (fun _ h_ => h_.1))
  replace HO_2 := A0_ (Kd.R_mono (Kd.R_told (Kd.R_told (Kd.R_old b7sq_ hb) (Kd.R_base ho0)) (Kd.R_base ho1)) (fun _ h_ => h_.1))
  replace HO_3 := A0_ (Kd.R_mono (Kd.R_told (Kd.R_told (Kd.R_old bzfm_ hb) (Kd.R_base ho0)) (Kd.R_base ho1)) (fun _ h_ => h_.1))
  replace HO_4 := A0_ (Kd.R_mono (Kd.R_told (Kd.R_told (Kd.R_old b0mw_ hb) (Kd.R_base ho0)) (Kd.R_base ho1)) (fun _ h_ => h_.1))
  replace HO_5 := A0_ (Kd.R_mono (Kd.R_told (Kd.R_told (Kd.R_old bqlr_ hb) (Kd.R_base ho0)) (Kd.R_base ho1)) (fun _ h_ => h_.1))
  replace HO_6 := A0_ (Kd.R_mono (Kd.R_told (Kd.R_told (Kd.R_old bj2s_ hb) (Kd.R_base ho0)) (Kd.R_base ho1)) (fun _ h_ => h_.1))
  replace HO11 := A0_ (Kd.R_mono (Kd.R_told (Kd.R_told (Kd.R_old bfdn_ hb) (Kd.R_base ho0)) (Kd.R_base ho1)) (fun _ h_ => h_.1))
  replace HO12 := A0_ (Kd.R_mono (Kd.R_told (Kd.R_told (Kd.R_old b8dh_ hb) (Kd.R_base ho0)) (Kd.R_base ho1)) (fun _ h_ => h_.1))
  replace BK1 := k1_ BK1 hb
  replace BK2 := k1_ BK2 hb
  replace BK3 := k1_ BK3 hb
  replace BK4 := k1_ BK4 hb
  replace BK5 := k1_ BK5 hb
  replace BK6 := k1_ BK6 hb
  replace HB := hb_ hb b76e_
  (try clear hb); (try clear ho0); (try clear ho1)
  refine hK.out _ _ ⟨(kc_ BK1.out 0).trans rfl, (kc_ BK1.out 1).trans rfl, (kc_ BK1.out 2).trans rfl, (kc_ BK1.out 3).trans rfl, (kc_ BK1.out 4).trans rfl, (kc_ BK2.out 0).trans rfl, (kc_ BK2.out 1).trans rfl, (kc_ BK2.out 2).trans rfl⟩ (fun hHeld => ?_)
  clear hK K
  refine nm_ 84 ?_
  refine pu_ 5 79 ?_
  refine pu_ 6 85 ?_
  refine pu_ 7 86 ?_
  exact norm_ bh00_ (hCont (.slice Ao9 t46.length co9, .slice Ao10 t47.length co10, v15, v16, gb6) _ ⟨hHeld, bua2_, bgcd_, bdvq_, bhcf_, b9dr_, bfb7_, bsf8_, b4w4_, b9hw_, bo6m_, (u1_ BK1), (u1_ BK2), (u1_ BK3), (u1_ BK4), (u1_ BK5), (u1_ BK6), GW6.out, GE6.out, NB1_6.out, NB6_1.out, NB2_6.out, NB6_2.out, NB3_6.out, NB6_3.out, NB4_6.out, NB6_4.out, NB5_6.out, NB6_5.out, b76e_⟩)
 rintro ⟨v13, v14, v15, v16, gb6⟩ w18 ⟨hS_, h0_, h1_, h2_, h3_, h4_, h5_, h6_, h7_, h8_, h9_, h10_, h11_, h12_, h13_, h14_, h15_, h16_, h17_, h18_, h19_, h20_, h21_, h22_, h23_, h24_, h25_, h26_, h27_, h28_⟩
 try dsimp only at h0_ h1_ h2_ h3_ h4_ h5_ h6_ h7_ h8_ h9_ h10_ h11_ h12_ h13_ h14_ h15_ h16_ h17_ h18_ h19_ h20_ h21_ h22_ h23_ h24_ h25_ h26_ h27_ h28_
 have HO11 := A0_ h0_
 have HO12 := A0_ h1_
 have HO13 := A0_ h2_
 have HO14 := A0_ h3_
 replace HO_1 := A0_ h4_
 replace HO_2 := A0_ h5_
 replace HO_3 := A0_ h6_
 replace HO_4 := A0_ h7_
 replace HO_5 := A0_ h8_
 replace HO_6 := A0_ h9_
 replace BK1 := A0_ h10_
 replace BK2 := A0_ h11_
 replace BK3 := A0_ h12_
 replace BK4 := A0_ h13_
 replace BK5 := A0_ h14_
 have BK6 := A0_ h15_
 have GW6 := A0_ h16_
 have GE6 := A0_ h17_
 have NB1_6 := A0_ h18_
 have NB6_1 := A0_ h19_
 have NB2_6 := A0_ h20_
 have NB6_2 := A0_ h21_
 have NB3_6 := A0_ h22_
 have NB6_3 := A0_ h23_
 have NB4_6 := A0_ h24_
 have NB6_4 := A0_ h25_
 have NB5_6 := A0_ h26_
 have NB6_5 := A0_ h27_
 replace HB := A0_ h28_
 clear h0_ h1_ h2_ h3_ h4_ h5_ h6_ h7_ h8_ h9_ h10_ h11_ h12_ h13_ h14_ h15_ h16_ h17_ h18_ h19_ h20_ h21_ h22_ h23_ h24_ h25_ h26_ h27_ h28_
 have hHeld : w18.cell? ⟨gb1, 0, none⟩ = some (.int .i64 a0_0) ∧ w18.cell? ⟨gb1, 1, none⟩ = some (.bool a0_1) ∧ w18.cell? ⟨gb1, 2, none⟩ = some (.slice A0_2 l0_2.length c0_2) ∧ w18.cell? ⟨gb1, 3, none⟩ = some (.slice A0_3 l0_3.length c0_3) ∧ w18.cell? ⟨gb1, 4, none⟩ = some (.int .i64 a0_4) ∧ w18.cell? ⟨gb2, 0, none⟩ = some (.int .i64 a1_0) ∧ w18.cell? ⟨gb2, 1, none⟩ = some (.int .i64 a1_1) ∧ w18.cell? ⟨gb2, 2, none⟩ = some (.int .i64 a1_2) := hS_
 obtain ⟨Ao9, co9, eo9⟩ := Kd.R_slice HO13.out
 (first | subst eo9 | (injection eo9 with f1_ f2_ f3_; have f4_ := f1_.symm; have f5_ := f3_.symm; clear f1_ f2_ f3_; subst f4_; subst f5_))
 obtain ⟨Ao10, co10, eo10⟩ := Kd.R_slice HO14.out
 (first | subst eo10 | (injection eo10 with f1_ f2_ f3_; have f4_ := f1_.symm; have f5_ := f3_.symm; clear f1_ f2_ f3_; subst f4_; subst f5_))
 refine nq_ ?_
 refine on_ 9 none (fun K hK => ?_)
 have hs155 : w18.cell? ⟨gb6, 0, none⟩ = some (.int .i64 0) := (kc_ BK6.out 0).trans rfl
 have hfs155 := kf_ BK6.out 0
 have hns11_0 := NB1_6.out
 have hns11_1 := NB2_6.out
 have hns11_2 := NB3_6.out
 have hns11_3 := NB4_6.out
 have hns11_4 := NB5_6.out
 have hms11_0 := NB6_1.out
 have hms11_1 := NB6_2.out
 have hms11_2 := NB6_3.out
 have hms11_3 := NB6_4.out
 have hms11_4 := NB6_5.out
 have hs156 : w18.cell? ⟨gb6, 1, none⟩ = some (.bool false) := (kc_ BK6.out 1).trans rfl
 have hfs156 := kf_ BK6.out 1
 have hns12_0 := NB1_6.out
 have hns12_1 := NB2_6.out
 have hns12_2 := NB3_6.out
 have hns12_3 := NB4_6.out
 have hns12_4 := NB5_6.out
 have hms12_0 := NB6_1.out
 have hms12_1 := NB6_2.out
 have hms12_2 := NB6_3.out
 have hms12_3 := NB6_4.out
 have hms12_4 := NB6_5.out
 have hs158 : w18.cell? ⟨gb6, 2, none⟩ = some (.slice none 0 0) := (kc_ BK6.out 2).trans rfl
 have hfs158 := kf_ BK6.out 2
 have hns13_0 := NB1_6.out
 have hns13_1 := NB2_6.out
 have hns13_2 := NB3_6.out
 have hns13_3 := NB4_6.out
 have hns13_4 := NB5_6.out
 have hms13_0 := NB6_1.out
 have hms13_1 := NB6_2.out
 have hms13_2 := NB6_3.out
 have hms13_3 := NB6_4.out
 have hms13_4 := NB6_5.out
 have hs160 : w18.cell? ⟨gb6, 3, none⟩ = some (.slice none 0 0) := (kc_ BK6.out 3).trans rfl
 have hfs160 := kf_ BK6.out 3
 have hns14_0 := NB1_6.out
 have hns14_1 := NB2_6.out
 have hns14_2 := NB3_6.out
 have hns14_3 := NB4_6.out
 have hns14_4 := NB5_6.out
 have hms14_0 := NB6_1.out
 have hms14_1 := NB6_2.out
 have hms14_2 := NB6_3.out
 have hms14_3 := NB6_4.out
 have hms14_4 := NB6_5.out
 have hs161 : w18.cell? ⟨gb6, 4, none⟩ = some (.int .i64 0) := (kc_ BK6.out 4).trans rfl
 have hfs161 := kf_ BK6.out 4
 have hns15_0 := NB1_6.out
 have hns15_1 := NB2_6.out
 have hns15_2 := NB3_6.out
 have hns15_3 := NB4_6.out
 have hns15_4 := NB5_6.out
 have hms15_0 := NB6_1.out
 have hms15_1 := NB6_2.out
 have hms15_2 := NB6_3.out
 have hms15_3 := NB6_4.out
 have hms15_4 := NB6_5.out
 refine skip_ (w1 := ?_) (by rfl) rfl ?_ ?_
 rotate_left
 ·go_simp
  rfl
 refine hK.out _ _ ⟨((cell_far (p := ⟨gb6, _, none⟩) NB1_6.out _).trans (((cell_far (p := ⟨gb6, _, none⟩) NB1_6.out _).trans (((cell_far (p := ⟨gb6, _, none⟩) NB1_6.out _).trans (((cell_far (p := ⟨gb6, _, none⟩) NB1_6.out _).trans (((cell_far (p := ⟨gb6, _, none⟩) NB1_6.out _).trans (hHeld.1)))))))))), ((cell_far (p := ⟨gb6, _, none⟩) NB1_6.out _).trans (((cell_far (p := ⟨gb6, _, none⟩) NB1_6.out _).trans (((cell_far (p := ⟨gb6, _, none⟩) NB1_6.out _).trans (((cell_far (p := ⟨gb6, _, none⟩) NB1_6.out _).trans (((cell_far (p := ⟨gb6, _, none⟩) NB1_6.out _).trans (hHeld.2.1)))))))))), ((cell_far (p := ⟨gb6, _, none⟩) NB1_6.out _).trans (((cell_far (p := ⟨gb6, _, none⟩) NB1_6.out _).trans (((cell_far (p := ⟨gb6, _, none⟩) NB1_6.out _).trans (((cell_far (p := ⟨gb6, _, none⟩) NB1_6.out _).trans (((cell_far (p := ⟨gb6, _, none⟩) NB1_6.out _).trans (hHeld.2.2.1)))))))))), ((cell_far (p := ⟨gb6, _, none⟩) NB1_6.out _).trans (((cell_far (p := ⟨gb6, _, none⟩) NB1_6.out _).trans (((cell_far (p := ⟨gb6, _, none⟩) NB1_6.out _).trans (((cell_far (p := ⟨gb6, _, none⟩) NB1_6.out _).trans (((cell_far (p := ⟨gb6, _, none⟩) NB1_6.out _).trans (hHeld.2.2.2.1)))))))))), ((cell_far (p := ⟨gb6, _, none⟩) NB1_6.out _).trans (((cell_far (p := ⟨gb6, _, none⟩) NB1_6.out _).trans (((cell_far (p := ⟨gb6, _, none⟩) NB1_6.out _).trans (((cell_far (p := ⟨gb6, _, none⟩) NB1_6.out _).trans (((cell_far (p := ⟨gb6, _, none⟩) NB1_6.out _).trans (hHeld.2.2.2.2.1)))))))))), ((cell_far (p := ⟨gb6, _, none⟩) NB2_6.out _).trans (((cell_far (p := ⟨gb6, _, none⟩) NB2_6.out _).trans (((cell_far (p := ⟨gb6, _, none⟩) NB2_6.out _).trans (((cell_far (p := ⟨gb6, _, none⟩) NB2_6.out _).trans (((cell_far (p := ⟨gb6, _, none⟩) NB2_6.out _).trans (hHeld.2.2.2.2.2.1)))))))))), ((cell_far (p := ⟨gb6, _, none⟩) NB2_6.out _).trans (((cell_far (p := ⟨gb6, _, none⟩) NB2_6.out _).trans (((cell_far (p := ⟨gb6, _, none⟩) NB2_6.out _).trans (((cell_far (p := ⟨gb6, _, none⟩) NB2_6.out _).trans (((cell_far (p := ⟨gb6, _, none⟩) NB2_6.out _).trans (hHeld.2.2.2.2.2.2.1)))))))))), ((cell_far (p := ⟨gb6, _, none⟩) NB2_6.out _).trans (((cell_far (p := ⟨gb6, _, none⟩) NB2_6.out _).trans (((cell_far (p := ⟨gb6, _, none⟩) NB2_6.out _).trans (((cell_far (p := ⟨gb6, _, none⟩) NB2_6.out _).trans (((cell_far (p := ⟨gb6, _, none⟩) NB2_6.out _).trans (hHeld.2.2.2.2.2.2.2))))))))))⟩ (fun hHeld => ?_)
 clear hK K
 refine pu_ 10 15 ?_
 refine dn_ ?_
 go_upto_region 25 with (fail)
 go_cut [95] from 68 to 95 (fun v17 wc => ∃ (kq : Nat) (x95_137 : Bool), v17 = .bool x95_137 ∧ Aside0 (laws_FnExactDoWork.j2 kq t40 x95_137 t25 t26 t41 t42 t29 = some r) ∧ Aside0 (kq ≤ kj2) ∧ Aside0 (Kd.R (Kd.int .i64) 3 wc w.heap.size (fun k_ => no_ (.slice Ao2 t14.length co2) k_ ∧ no_ (.slice Ao3 t38.length co3) k_ ∧ no_ (.slice Ao4 t39.length co4) k_ ∧ no_ (.slice Ao5 t27.length co5) k_ ∧ no_ (.slice Ao6 t28.length co6) k_ ∧ no_ (.slice Ao9 t54.length co9) k_ ∧ no_ (.slice Ao10 t55.length co10) k_) (.slice Ao1 t13.length co1) t13) ∧ Aside0 (Kd.R (Kd.int .i64) 3 wc w.heap.size (fun k_ => no_ (.slice Ao1 t13.length co1) k_ ∧ no_ (.slice Ao3 t38.length co3) k_ ∧ no_ (.slice Ao4 t39.length co4) k_ ∧ no_ (.slice Ao5 t27.length co5) k_ ∧ no_ (.slice Ao6 t28.length co6) k_ ∧ no_ (.slice Ao9 t54.length co9) k_ ∧ no_ (.slice Ao10 t55.length co10) k_) (.slice Ao2 t14.length co2) t14) ∧ Aside0 (Kd.R (Kd.int .i64) 3 wc w.heap.size (fun k_ => no_ (.slice Ao1 t13.length co1) k_ ∧ no_ (.slice Ao2 t14.length co2) k_ ∧ no_ (.slice Ao4 t39.length co4) k_ ∧ no_ (.slice Ao5 t27.length co5) k_ ∧ no_ (.slice Ao6 t28.length co6) k_ ∧ no_ (.slice Ao9 t54.length co9) k_ ∧ no_ (.slice Ao10 t55.length co10) k_) (.slice Ao3 t38.length co3) t38) ∧ Aside0 (Kd.R (Kd.int .i64) 3 wc w.heap.size (fun k_ => no_ (.slice Ao1 t13.length co1) k_ ∧ no_ (.slice Ao2 t14.length co2) k_ ∧ no_ (.slice Ao3 t38.length co3) k_ ∧ no_ (.slice Ao5 t27.length co5) k_ ∧ no_ (.slice Ao6 t28.length co6) k_ ∧ no_ (.slice Ao9 t54.length co9) k_ ∧ no_ (.slice Ao10 t55.length co10) k_) (.slice Ao4 t39.length co4) t39) ∧ Aside0 (Kd.R (Kd.int .i64) 3 wc w.heap.size (fun k_ => no_ (.slice Ao1 t13.length co1) k_ ∧ no_ (.slice Ao2 t14.length co2) k_ ∧ no_ (.slice Ao3 t38.length co3) k_ ∧ no_ (.slice Ao4 t39.length co4) k_ ∧ no_ (.slice Ao6 t28.length co6) k_ ∧ no_ (.slice Ao9 t54.length co9) k_ ∧ no_ (.slice Ao10 t55.length co10) k_) (.slice Ao5 t27.length co5) t41) ∧ Aside0 (Kd.R (Kd.int .i64) 3 wc w.heap.size (fun k_ => no_ (.slice Ao1 t13.length co1) k_ ∧ no_ (.slice Ao2 t14.length co2) k_ ∧ no_ (.slice Ao3 t38.length co3) k_ ∧ no_ (.slice Ao4 t39.length co4) k_ ∧ no_ (.slice Ao5 t27.length co5) k_ ∧ no_ (.slice Ao9 t54.length co9) k_ ∧ no_ (.slice Ao10 t55.length co10) k_) (.slice Ao6 t28.length co6) t42) ∧ Aside0 (Kd.R (Kd.int .i64) 3 wc w.heap.size (fun k_ => no_ (.slice Ao1 t13.length co1) k_ ∧ no_ (.slice Ao2 t14.length co2) k_ ∧ no_ (.slice Ao3 t38.length co3) k_ ∧ no_ (.slice Ao4 t39.length co4) k_ ∧ no_ (.slice Ao5 t27.length co5) k_ ∧ no_ (.slice Ao6 t28.length co6) k_ ∧ no_ (.slice Ao10 t55.length co10) k_) (.slice Ao9 t54.length co9) t54) ∧ Aside0 (Kd.R (Kd.int .i64) 3 wc w.heap.size (fun k_ => no_ (.slice Ao1 t13.length co1) k_ ∧ no_ (.slice Ao2 t14.length co2) k_ ∧ no_ (.slice Ao3 t38.length co3) k_ ∧ no_ (.slice Ao4 t39.length co4) k_ ∧ no_ (.slice Ao5 t27.length co5) k_ ∧ no_ (.slice Ao6 t28.length co6) k_ ∧ no_ (.slice Ao9 t54.length co9) k_) (.slice Ao10 t55.length co10) t55) ∧ Aside0 (wc.heap[gb1]? = some (.cells #[.int .i64 a0_0, .bool a0_1, (.slice A0_2 l0_2.length c0_2), (.slice A0_3 l0_3.length c0_3), .int .i64 a0_4] 34 (0, 0))) ∧ Aside0 (wc.heap[gb2]? = some (.cells #[.int .i64 a1_0, .int .i64 a1_1, .int .i64 a1_2] 43 (0, 0))) ∧ Aside0 (wc.heap[gb3]? = some (.cells #[.int .i64 t11, .bool t12, (.slice Ao1 t13.length co1), (.slice Ao2 t14.length co2), .int .i64 t15] 26 (0, 0))) ∧ Aside0 (wc.heap[gb4]? = some (.cells #[.int .i64 t17, .bool t18, (.slice Ao3 t38.length co3), (.slice Ao4 t39.length co4), .int .i64 t21] 26 (0, 0))) ∧ Aside0 (wc.heap[gb5]? = some (.cells #[.int .i64 t25, .bool t26, (.slice Ao5 t27.length co5), (.slice Ao6 t28.length co6), .int .i64 t29] 26 (0, 0))) ∧ Aside0 (wc.heap[gb6]? = some (.cells #[.int .i64 t52, .bool t53, (.slice Ao9 t54.length co9), (.slice Ao10 t55.length co10), .int .i64 t56] 26 (0, 0))) ∧ Aside0 (Below w.heap.size w wc))
 case first =>
  have H := HC138.out
  clear HC138
  obtain ⟨t58, A32, H⟩ := o1_ H
  by_cases c7 : t58 = true
  ·subst c7
   rw [if_pos rfl] at H
   have H' := A0_ H
   clear H
   have hnb14 := NB6_1.out
   have hnc14 := NB1_6.out
   have hnb15 := NB6_2.out
   have hnc15 := NB2_6.out
   have hnb16 := NB6_3.out
   have hnc16 := NB3_6.out
   have hnb17 := NB6_4.out
   have hnc17 := NB4_6.out
   have hnb18 := NB6_5.out
   have hnc18 := NB5_6.out
   have hcz7 := z5_ BK6
   have hnb19 := NB3_1.out
   have hnc19 := NB1_3.out
   have hnb20 := NB3_2.out
   have hnc20 := NB2_3.out
   have hnb21 := NB3_4.out
   have hnc21 := NB4_3.out
   have hnb22 := NB3_5.out
   have hnc22 := NB5_3.out
   have hcz8 := z5_ BK3
   go_wp2_with (first | ((with_reducible refine gc_ (f := 9) rfl ?_); refine gl_ 89 Tryd.func9 #[.agg #[.int .i64 t52, .bool t53, .slice Ao9 t54.length co9, .slice Ao10 t55.length co10, .int .i64 t56], .agg #[.int .i64 t11, .bool t12, .slice Ao1 t13.length co1, .slice Ao2 t14.length co2, .int .i64 t15]] ?_; (with_reducible refine (laws_eqHouse.calls kj2 t52 t53 _ _ t54 _ _ t55 t56 t11 t12 _ _ t13 _ _ t14 t15 true _ ?side1 ?side2 ?side3 ?side4 ?side5 ?side6 ?side7 ?side8 A32.out).mono ?_); (case side1 => refine (rr_ (e := 3) (base := w.heap.size) (ok := fun k_ => (no_ v13 k_ ∧ (no_ v14 k_ ∧ (no_ (.slice Ao10 t55.length co10) k_ ∧ (no_ (.slice Ao1 t13.length co1) k_ ∧ (no_ (.slice Ao2 t14.length co2) k_ ∧ (no_ (.slice Ao3 t38.length co3) k_ ∧ (no_ (.slice Ao4 t39.length co4) k_ ∧ (no_ (.slice Ao5 t27.length co5) k_ ∧ no_ (.slice Ao6 t28.length co6) k_))))))))) (n := t54.length) (c := co9) ?_).2.2; exact bvur_); (case side2 => exact (rr_ HO13.out).2.1); (case side3 => refine (rr_ (e := 3) (base := w.heap.size) (ok := fun k_ => (no_ v13 k_ ∧ (no_ v14 k_ ∧ (no_ (.slice Ao9 t54.length co9) k_ ∧ (no_ (.slice Ao1 t13.length co1) k_ ∧ (no_ (.slice Ao2 t14.length co2) k_ ∧ (no_ (.slice Ao3 t38.length co3) k_ ∧ (no_ (.slice Ao4 t39.length co4) k_ ∧ (no_ (.slice Ao5 t27.length co5) k_ ∧ no_ (.slice Ao6 t28.length co6) k_))))))))) (n := t55.length) (c := co10) ?_).2.2; exact bhl2_); (case side4 => exact (rr_ HO14.out).2.1); (case side5 => refine (rr_ (e := 3) (base := w.heap.size) (ok := fun k_ => (no_ v13 k_ ∧ (no_ v14 k_ ∧ (no_ (.slice Ao9 t54.length co9) k_ ∧ (no_ (.slice Ao10 t55.length co10) k_ ∧ (no_ (.slice Ao2 t14.length co2) k_ ∧ (no_ (.slice Ao3 t38.length co3) k_ ∧ (no_ (.slice Ao4 t39.length co4) k_ ∧ (no_ (.slice Ao5 t27.length co5) k_ ∧ no_ (.slice Ao6 t28.length co6) k_))))))))) (n := t13.length) (c := co1) ?_).2.2; exact b4dy_); (case side6 => exact (rr_ HO_1.out).2.1); (case side7 => refine (rr_ (e := 3) (base := w.heap.size) (ok := fun k_ => (no_ v13 k_ ∧ (no_ v14 k_ ∧ (no_ (.slice Ao9 t54.length co9) k_ ∧ (no_ (.slice Ao10 t55.length co10) k_ ∧ (no_ (.slice Ao1 t13.length co1) k_ ∧ (no_ (.slice Ao3 t38.length co3) k_ ∧ (no_ (.slice Ao4 t39.length co4) k_ ∧ (no_ (.slice Ao5 t27.length co5) k_ ∧ no_ (.slice Ao6 t28.length co6) k_))))))))) (n := t14.length) (c := co2) ?_).2.2; exact b0z4_); (case side8 => exact (rr_ HO_2.out).2.1); rintro e w19 ⟨rfl, hb⟩; refine ⟨_, rfl, ?_⟩; replace HO_1 := A0_ (Kd.R_below b4dy_ hb); replace HO_2 := A0_ (Kd.R_below b0z4_ hb); replace HO_3 := A0_ (Kd.R_below bo6o_ hb); replace HO_4 := A0_ (Kd.R_below bmva_ hb); replace HO_5 := A0_ (Kd.R_below biv8_ hb); replace HO_6 := A0_ (Kd.R_below be9u_ hb); replace HO11 := A0_ (Kd.R_below bgcr_ hb); replace HO12 := A0_ (Kd.R_below bw2p_ hb); replace HO13 := A0_ (Kd.R_below bvur_ hb); replace HO14 := A0_ (Kd.R_below bhl2_ hb); replace BK1 := k1_ BK1 hb; replace BK2 := k1_ BK2 hb; replace BK3 := k1_ BK3 hb; replace BK4 := k1_ BK4 hb; replace BK5 := k1_ BK5 hb; replace BK6 := k2_ (.cells #[.int .i64 t52, .bool t53, .slice Ao9 t54.length co9, .slice Ao10 t55.length co10, .int .i64 t56] 26 (0, 0)) BK6 hb; replace HB := hb_ hb b76e_; (try clear hb)))
   go_meet
   exact ⟨_, ((t57 != t16)), b2ew_, H', ⟨by have := HJ1.out; have := HJ2.out; first | omega | exact Nat.le_refl _⟩, ⟨bgil_⟩, ⟨b6fo_⟩, ⟨bqse_⟩, ⟨b7o0_⟩, ⟨bhqq_⟩, ⟨bvsc_⟩, ⟨bfl7_⟩, ⟨bbhq_⟩, ⟨bqyc_⟩, ⟨b4q3_⟩, ⟨biqd_⟩, ⟨bklq_⟩, ⟨b50i_⟩, ⟨bsbf_⟩, ⟨b76e_⟩⟩
  obtain rfl := bf_.mpr c7
  rw [if_neg ft_] at H
  have H' := A0_ H
  clear H
  have hnb14 := NB6_1.out
  have hnc14 := NB1_6.out
  have hnb15 := NB6_2.out
  have hnc15 := NB2_6.out
  have hnb16 := NB6_3.out
  have hnc16 := NB3_6.out
  have hnb17 := NB6_4.out
  have hnc17 := NB4_6.out
  have hnb18 := NB6_5.out
  have hnc18 := NB5_6.out
  have hcz7 := z5_ BK6
  have hnb19 := NB3_1.out
  have hnc19 := NB1_3.out
  have hnb20 := NB3_2.out
  have hnc20 := NB2_3.out
  have hnb21 := NB3_4.out
  have hnc21 := NB4_3.out
  have hnb22 := NB3_5.out
  have hnc22 := NB5_3.out
  have hcz8 := z5_ BK3
  go_wp2_with (first | ((with_reducible refine gc_ (f := 9) rfl ?_); refine gl_ 89 Tryd.func9 #[.agg #[.int .i64 t52, .bool t53, .slice Ao9 t54.length co9, .slice Ao10 t55.length co10, .int .i64 t56], .agg #[.int .i64 t11, .bool t12, .slice Ao1 t13.length co1, .slice Ao2 t14.length co2, .int .i64 t15]] ?_; (with_reducible refine (laws_eqHouse.calls kj2 t52 t53 _ _ t54 _ _ t55 t56 t11 t12 _ _ t13 _ _ t14 t15 false _ ?side1 ?side2 ?side3 ?side4 ?side5 ?side6 ?side7 ?side8 A32.out).mono ?_); (case side1 => refine (rr_ (e := 3) (base := w.heap.size) (ok := fun k_ => (no_ v13 k_ ∧ (no_ v14 k_ ∧ (no_ (.slice Ao10 t55.length co10) k_ ∧ (no_ (.slice Ao1 t13.length co1) k_ ∧ (no_ (.slice Ao2 t14.length co2) k_ ∧ (no_ (.slice Ao3 t38.length co3) k_ ∧ (no_ (.slice Ao4 t39.length co4) k_ ∧ (no_ (.slice Ao5 t27.length co5) k_ ∧ no_ (.slice Ao6 t28.length co6) k_))))))))) (n := t54.length) (c := co9) ?_).2.2; exact bvur_); (case side2 => exact (rr_ HO13.out).2.1); (case side3 => refine (rr_ (e := 3) (base := w.heap.size) (ok := fun k_ => (no_ v13 k_ ∧ (no_ v14 k_ ∧ (no_ (.slice Ao9 t54.length co9) k_ ∧ (no_ (.slice Ao1 t13.length co1) k_ ∧ (no_ (.slice Ao2 t14.length co2) k_ ∧ (no_ (.slice Ao3 t38.length co3) k_ ∧ (no_ (.slice Ao4 t39.length co4) k_ ∧ (no_ (.slice Ao5 t27.length co5) k_ ∧ no_ (.slice Ao6 t28.length co6) k_))))))))) (n := t55.length) (c := co10) ?_).2.2; exact bhl2_); (case side4 => exact (rr_ HO14.out).2.1); (case side5 => refine (rr_ (e := 3) (base := w.heap.size) (ok := fun k_ => (no_ v13 k_ ∧ (no_ v14 k_ ∧ (no_ (.slice Ao9 t54.length co9) k_ ∧ (no_ (.slice Ao10 t55.length co10) k_ ∧ (no_ (.slice Ao2 t14.length co2) k_ ∧ (no_ (.slice Ao3 t38.length co3) k_ ∧ (no_ (.slice Ao4 t39.length co4) k_ ∧ (no_ (.slice Ao5 t27.length co5) k_ ∧ no_ (.slice Ao6 t28.length co6) k_))))))))) (n := t13.length) (c := co1) ?_).2.2; exact b4dy_); (case side6 => exact (rr_ HO_1.out).2.1); (case side7 => refine (rr_ (e := 3) (base := w.heap.size) (ok := fun k_ => (no_ v13 k_ ∧ (no_ v14 k_ ∧ (no_ (.slice Ao9 t54.length co9) k_ ∧ (no_ (.slice Ao10 t55.length co10) k_ ∧ (no_ (.slice Ao1 t13.length co1) k_ ∧ (no_ (.slice Ao3 t38.length co3) k_ ∧ (no_ (.slice Ao4 t39.length co4) k_ ∧ (no_ (.slice Ao5 t27.length co5) k_ ∧ no_ (.slice Ao6 t28.length co6) k_))))))))) (n := t14.length) (c := co2) ?_).2.2; exact b0z4_); (case side8 => exact (rr_ HO_2.out).2.1); rintro e w19 ⟨rfl, hb⟩; refine ⟨_, rfl, ?_⟩; replace HO_1 := A0_ (Kd.R_below b4dy_ hb); replace HO_2 := A0_ (Kd.R_below b0z4_ hb); replace HO_3 := A0_ (Kd.R_below bo6o_ hb); replace HO_4 := A0_ (Kd.R_below bmva_ hb); replace HO_5 := A0_ (Kd.R_below biv8_ hb); replace HO_6 := A0_ (Kd.R_below be9u_ hb); replace HO11 := A0_ (Kd.R_below bgcr_ hb); replace HO12 := A0_ (Kd.R_below bw2p_ hb); replace HO13 := A0_ (Kd.R_below bvur_ hb); replace HO14 := A0_ (Kd.R_below bhl2_ hb); replace BK1 := k1_ BK1 hb; replace BK2 := k1_ BK2 hb; replace BK3 := k1_ BK3 hb; replace BK4 := k1_ BK4 hb; replace BK5 := k1_ BK5 hb; replace BK6 := k2_ (.cells #[.int .i64 t52, .bool t53, .slice Ao9 t54.length co9, .slice Ao10 t55.length co10, .int .i64 t56] 26 (0, 0)) BK6 hb; replace HB := hb_ hb b76e_; (try clear hb)))
  go_meet
  exact ⟨_, (true), b2ew_, H', ⟨by have := HJ1.out; have := HJ2.out; first | omega | exact Nat.le_refl _⟩, ⟨bgil_⟩, ⟨b6fo_⟩, ⟨bqse_⟩, ⟨b7o0_⟩, ⟨bhqq_⟩, ⟨bvsc_⟩, ⟨bfl7_⟩, ⟨bbhq_⟩, ⟨bqyc_⟩, ⟨b4q3_⟩, ⟨biqd_⟩, ⟨bklq_⟩, ⟨b50i_⟩, ⟨bsbf_⟩, ⟨b76e_⟩⟩
 clear HC138
 obtain ⟨kq, x95_137, rfl, HA, HJ3, HO_1, HO_2, HO_3, HO_4, HO_5, HO_6, HO_7, HO_8, BK1, BK2, BK3, BK4, BK5, BK6, HB⟩ := hcut
 have hl544002_137 := (rr_ HO_5.out).1
 rw [hl544002_137] at HO_5
 (try simp only [hl544002_137])
 (try simp only [hl544002_137] at BK1)
 (try simp only [hl544002_137] at BK2)
 (try simp only [hl544002_137] at BK3)
 (try simp only [hl544002_137] at BK4)
 (try simp only [hl544002_137] at BK5)
 (try simp only [hl544002_137] at BK6)
 (try simp only [hl544002_137] at HO_1)
 (try simp only [hl544002_137] at HO_2)
 (try simp only [hl544002_137] at HO_3)
 (try simp only [hl544002_137] at HO_4)
 (try simp only [hl544002_137] at HO_6)
 (try simp only [hl544002_137] at HO_7)
 (try simp only [hl544002_137] at HO_8)
 have hl544003_137 := (rr_ HO_6.out).1
 rw [hl544003_137] at HO_6
 (try simp only [hl544003_137])
 (try simp only [hl544003_137] at BK1)
 (try simp only [hl544003_137] at BK2)
 (try simp only [hl544003_137] at BK3)
 (try simp only [hl544003_137] at BK4)
 (try simp only [hl544003_137] at BK5)
 (try simp only [hl544003_137] at BK6)
 (try simp only [hl544003_137] at HO_1)
 (try simp only [hl544003_137] at HO_2)
 (try simp only [hl544003_137] at HO_3)
 (try simp only [hl544003_137] at HO_4)
 (try simp only [hl544003_137] at HO_5)
 (try simp only [hl544003_137] at HO_7)
 (try simp only [hl544003_137] at HO_8)
 cases kq with | zero => exact absurd HA.out (by simp [laws_FnExactDoWork.j2]) | succ kj3 => ?_
 as_aux_lemma =>
 have H := HA.out
 clear HA
 simp only [laws_FnExactDoWork.j2] at H
 by_cases c7 : x95_137 = true
 ·subst c7
  rw [if_pos rfl] at H
  obtain rfl := si_ H
  go_wp2
  go_ret
  exact ⟨bnwh_, b76e_⟩
 obtain rfl := bf_.mpr c7
 rw [if_neg ft_] at H
 obtain ⟨t58, A32, H⟩ := o1_ H
 by_cases c8 : t58 < 0
 ·rw [if_pos c8] at H
  have c8b0 : decide (t58 < 0) = true := dt_ c8
  clear c8
  obtain rfl := si_ H
  have hnb14 := NB5_1.out
  have hnc14 := NB1_5.out
  have hnb15 := NB5_2.out
  have hnc15 := NB2_5.out
  have hnb16 := NB5_3.out
  have hnc16 := NB3_5.out
  have hnb17 := NB5_4.out
  have hnc17 := NB4_5.out
  have hnb18 := NB5_6.out
  have hnc18 := NB6_5.out
  have hcz7 := z5_ BK5
  go_wp2_with (first | ((with_reducible refine gc_ (f := 11) rfl ?_); refine gl_ 98 Tryd.func11 #[.agg #[.int .i64 t25, .bool t26, .slice Ao5 t41.length co5, .slice Ao6 t42.length co6, .int .i64 t29], .int .i64 1] ?_; (with_reducible refine (laws_heldHouse.calls kj3 t25 t26 _ _ t41 _ _ t42 t29 1 t58 _ ?side1 ?side2 ?side3 ?side4 A32.out).mono ?_); (case side1 => exact btqf_); (case side2 => exact (rr_ HO_5.out).2.1); (case side3 => exact blpa_); (case side4 => exact (rr_ HO_6.out).2.1); rintro e w19 ⟨rfl, hb⟩; refine ⟨_, rfl, ?_⟩; replace HO_1 := A0_ (Kd.R_below bwik_ hb); replace HO_2 := A0_ (Kd.R_below b7sq_ hb); replace HO_3 := A0_ (Kd.R_below bzfm_ hb); replace HO_4 := A0_ (Kd.R_below b0mw_ hb); replace HO_5 := A0_ (Kd.R_below bqlr_ hb); replace HO_6 := A0_ (Kd.R_below bj2s_ hb); replace HO_7 := A0_ (Kd.R_below bhm9_ hb); replace HO_8 := A0_ (Kd.R_below b64b_ hb); replace BK1 := k1_ BK1 hb; replace BK2 := k1_ BK2 hb; replace BK3 := k1_ BK3 hb; replace BK4 := k1_ BK4 hb; replace BK5 := k1_ BK5 hb; replace BK6 := k1_ BK6 hb; replace HB := hb_ hb b76e_; (try clear hb)))
  go_ret
  exact ⟨bnwh_, b76e_⟩
 rw [if_neg c8] at H
 have c8b0 : decide (t58 < 0) = false := decide_eq_false c8
 clear c8
 by_cases c9 : t58 = t40
 case neg =>
  rw [if_neg c9] at H
  obtain ⟨c9b0, c9b1⟩ := ef_ c9
  obtain rfl := si_ H
  have hnb14 := NB5_1.out
  have hnc14 := NB1_5.out
  have hnb15 := NB5_2.out
  have hnc15 := NB2_5.out
  have hnb16 := NB5_3.out
  have hnc16 := NB3_5.out
  have hnb17 := NB5_4.out
  have hnc17 := NB4_5.out
  have hnb18 := NB5_6.out
  have hnc18 := NB6_5.out
  have hcz7 := z5_ BK5
  go_wp2_with (first | ((with_reducible refine gc_ (f := 11) rfl ?_); refine gl_ 98 Tryd.func11 #[.agg #[.int .i64 t25, .bool t26, .slice Ao5 t41.length co5, .slice Ao6 t42.length co6, .int .i64 t29], .int .i64 1] ?_; (with_reducible refine (laws_heldHouse.calls kj3 t25 t26 _ _ t41 _ _ t42 t29 1 t58 _ ?side1 ?side2 ?side3 ?side4 A32.out).mono ?_); (case side1 => exact btqf_); (case side2 => exact (rr_ HO_5.out).2.1); (case side3 => exact blpa_); (case side4 => exact (rr_ HO_6.out).2.1); rintro e w19 ⟨rfl, hb⟩; refine ⟨_, rfl, ?_⟩; replace HO_1 := A0_ (Kd.R_below bwik_ hb); replace HO_2 := A0_ (Kd.R_below b7sq_ hb); replace HO_3 := A0_ (Kd.R_below bzfm_ hb); replace HO_4 := A0_ (Kd.R_below b0mw_ hb); replace HO_5 := A0_ (Kd.R_below bqlr_ hb); replace HO_6 := A0_ (Kd.R_below bj2s_ hb); replace HO_7 := A0_ (Kd.R_below bhm9_ hb); replace HO_8 := A0_ (Kd.R_below b64b_ hb); replace BK1 := k1_ BK1 hb; replace BK2 := k1_ BK2 hb; replace BK3 := k1_ BK3 hb; replace BK4 := k1_ BK4 hb; replace BK5 := k1_ BK5 hb; replace BK6 := k1_ BK6 hb; replace HB := hb_ hb b76e_; (try clear hb)))
  go_ret
  exact ⟨bnwh_, b76e_⟩
 rw [if_pos c9] at H
 obtain ⟨c9b0, c9b1⟩ := et_ c9
 clear c9
 obtain rfl := si_ H
 have hnb14 := NB5_1.out
 have hnc14 := NB1_5.out
 have hnb15 := NB5_2.out
 have hnc15 := NB2_5.out
 have hnb16 := NB5_3.out
 have hnc16 := NB3_5.out
 have hnb17 := NB5_4.out
 have hnc17 := NB4_5.out
 have hnb18 := NB5_6.out
 have hnc18 := NB6_5.out
 have hcz7 := z5_ BK5
 go_wp2_with (first | ((with_reducible refine gc_ (f := 11) rfl ?_); refine gl_ 98 Tryd.func11 #[.agg #[.int .i64 t25, .bool t26, .slice Ao5 t41.length co5, .slice Ao6 t42.length co6, .int .i64 t29], .int .i64 1] ?_; (with_reducible refine (laws_heldHouse.calls kj3 t25 t26 _ _ t41 _ _ t42 t29 1 t58 _ ?side1 ?side2 ?side3 ?side4 A32.out).mono ?_); (case side1 => exact btqf_); (case side2 => exact (rr_ HO_5.out).2.1); (case side3 => exact blpa_); (case side4 => exact (rr_ HO_6.out).2.1); rintro e w19 ⟨rfl, hb⟩; refine ⟨_, rfl, ?_⟩; replace HO_1 := A0_ (Kd.R_below bwik_ hb); replace HO_2 := A0_ (Kd.R_below b7sq_ hb); replace HO_3 := A0_ (Kd.R_below bzfm_ hb); replace HO_4 := A0_ (Kd.R_below b0mw_ hb); replace HO_5 := A0_ (Kd.R_below bqlr_ hb); replace HO_6 := A0_ (Kd.R_below bj2s_ hb); replace HO_7 := A0_ (Kd.R_below bhm9_ hb); replace HO_8 := A0_ (Kd.R_below b64b_ hb); replace BK1 := k1_ BK1 hb; replace BK2 := k1_ BK2 hb; replace BK3 := k1_ BK3 hb; replace BK4 := k1_ BK4 hb; replace BK5 := k1_ BK5 hb; replace BK6 := k1_ BK6 hb; replace HB := hb_ hb b76e_; (try clear hb)))
 go_ret
 exact ⟨bnwh_, b76e_⟩

end Go.Proofs.YtbohmfnjgjijdaaDoor.QFnExactDoWork
-- packed
-- squeezed
