-- Written by px.py, a program of this session, over the kit's printer: some functions have a definition and a proof of this session's own.
import Derived.Test.YtbohmfnjgjijdaaGreatDoorQFnExactDoWorksx0
import Derived.Test.YtbohmfnjgjijdaaGreatDoorQFnExactDoWorksx2
import Derived.Test.YtbohmfnjgjijdaaGreatDoorQFnExactDoWorksx3
namespace Go.Proofs.YtbohmfnjgjijdaaGreatDoor.QFnExactDoWorks
open Go.RowKit Go.Proofs.YtbohmfnjgjijdaaGreatDoorW.PrintWords Go.Proofs.YtbohmfnjgjijdaaGreatDoorW.PrintLast Go.Proofs.YtbohmfnjgjijdaaGreatDoorW.PrintMore
attribute [local go_sem] max2_int min2_int max_two min_two max_three min_three max_four min_four   -- for this text's walks alone
set_option linter.unusedVariables false
set_option linter.unusedSimpArgs false
set_option maxHeartbeats 8000000
set_option maxRecDepth 100000

def impl_DoWork.j0 : Nat → List Int → Bool → Int → Bool → List Int → List Int → Int → Option (Int × Bool × List Int × List Int × Int × Bool)
 | 0, _, _, _, _, _, _, _ => none
 | k + 1, x6, x24, x474000, x474001, x474002, x474003, x474004 => if x24 = true then (some (0, false, ([] : List Int), ([] : List Int), 0, false)) else ((impl_Row_bench.f x474000 x474001 x474002).bind fun bt481 => ((impl_setOf.f k x6).bind fun t483 => ((impl_bench_row.f k bt481.1 bt481.2 t483).bind fun bt484 => (some (bt484.1, bt484.2.1, bt484.2.2, x6, wrap64 (x474004 + 1), true)))))
def impl_DoWork.f (k : Nat) (a0_0 : Int) (a0_1 : Bool) (l0_2 : List Int) (l0_3 : List Int) (a0_4 : Int) (a1_0 : Int) (a1_1 : Int) (a1_2 : Int) : Option (Int × Bool × List Int × List Int × Int × Bool) := (impl_IsHouse.f k a0_0 a0_1 l0_2 l0_3 a0_4).bind fun t476 => (if t476 = true then ((impl_House_guests.f k a0_0 a0_1 l0_2 l0_3 a0_4 a1_0 a1_1 a1_2).bind fun bt477 => (if bt477.2 = true then (impl_DoWork.j0 k bt477.1 (a0_4 == 1000) a0_0 a0_1 l0_2 l0_3 a0_4) else (impl_DoWork.j0 k bt477.1 true a0_0 a0_1 l0_2 l0_3 a0_4))) else (some (0, false, ([] : List Int), ([] : List Int), 0, false)))
theorem impl_DoWork.mono_l : ∀ k, (∀ y0 y1 y2 y3 y4 y5 y6, LeO (impl_DoWork.j0 k y0 y1 y2 y3 y4 y5 y6) (impl_DoWork.j0 (k + 1) y0 y1 y2 y3 y4 y5 y6))
 | 0 => fun _ _ _ _ _ _ _ r h => by simp [impl_DoWork.j0] at h
 | k + 1 => by
  have ih0 := impl_DoWork.mono_l k
  ·intro y0 y1 y2 y3 y4 y5 y6
   unfold impl_DoWork.j0
   repeat' with_reducible first | exact ih0 .. | exact impl_House_guests.mono .. | exact impl_IsHouse.mono .. | exact impl_bench_row.mono .. | exact impl_setOf.mono .. | exact LeO.refl .. | exact LeO.none .. | refine LeO.ite ?_ ?_ | refine LeO.bind ?_ (fun _ => ?_)
theorem impl_DoWork.mono : ∀ a0 a1 a2 a3 a4 a5 a6 a7 k, LeO (impl_DoWork.f k a0 a1 a2 a3 a4 a5 a6 a7) (impl_DoWork.f (k + 1) a0 a1 a2 a3 a4 a5 a6 a7) := by
 intro a0 a1 a2 a3 a4 a5 a6 a7 k
 have ih0 := impl_DoWork.mono_l k
 unfold impl_DoWork.f
 repeat' with_reducible first | exact ih0 .. | exact impl_House_guests.mono .. | exact impl_IsHouse.mono .. | exact impl_bench_row.mono .. | exact impl_setOf.mono .. | exact LeO.refl .. | exact LeO.none .. | refine LeO.ite ?_ ?_ | refine LeO.bind ?_ (fun _ => ?_)
def impl_DoWork.T6 : Bool × List (List Nat × List Nat) := (true, [([], []), ([0], [0]), ([1], [1]), ([], []), ([3, 2], [3]), ([2, 4, 4], [2, 4]), ([], []), ([], []), ([7], [7]), ([8], [8]), ([5, 6, 9], [5, 6, 9]), ([10, 5, 0, 1, 2, 3, 4, 5, 6, 7, 8, 9, 10], [10]), ([11, 0, 1, 2, 3, 4, 5, 6, 7, 8, 9, 10, 11], [])])
def impl_DoWork.B6 : List Nat := [0, 1, 3, 0, 15, 31, 0, 0, 128, 384, 1023, 2047, 4095]
theorem impl_DoWork.tab6 : rtab .any (opsOf Tryz.f22 6) = impl_DoWork.T6 := by kernel_rfl
theorem impl_DoWork.bits6 : waitsOk impl_DoWork.T6.2 impl_DoWork.B6 = true := by kernel_rfl
theorem impl_DoWork.calls (k : Nat) (a0_0 : Int) (a0_1 : Bool) (A0_2 : Option Addr) (c0_2 : Nat) (l0_2 : List Int) (A0_3 : Option Addr) (c0_3 : Nat) (l0_3 : List Int) (a0_4 : Int) (a1_0 : Int) (a1_1 : Int) (a1_2 : Int) (r1 : Int) (r2 : Bool) (r3 : List Int) (r4 : List Int) (r5 : Int) (r6 : Bool) (w : World) (hr0_2 : Kd.C (Kd.int .i64) w A0_2 l0_2.length l0_2) (hc0_2 : l0_2.length ≤ c0_2) (hr0_3 : Kd.C (Kd.int .i64) w A0_3 l0_3.length l0_3) (hc0_3 : l0_3.length ≤ c0_3) (hG : TabOK w) (h : impl_DoWork.f k a0_0 a0_1 l0_2 l0_3 a0_4 a1_0 a1_1 a1_2 = some (r1, r2, r3, r4, r5, r6)) :
  Calls Tryz.prog 22 #[.agg #[.int .i64 a0_0, .bool a0_1, .slice A0_2 l0_2.length c0_2, .slice A0_3 l0_3.length c0_3, .int .i64 a0_4], .agg #[.int .i64 a1_0, .int .i64 a1_1, .int .i64 a1_2]] w fun e w' => ∃ v2_ v3_ : Value, e = .returned (.tuple #[.agg #[.int .i64 r1, .bool r2, v2_, v3_, .int .i64 r5], .bool r6]) ∧ Kd.R (Kd.int .i64) 3 w' w.heap.size (fun k_ => no_ v3_ k_) v2_ r3 ∧ Kd.R (Kd.int .i64) 3 w' w.heap.size (fun k_ => no_ v2_ k_) v3_ r4 ∧ Below w.heap.size w w' := by
 have HG0 := A0_ hG
 clear hG
 have hu32 := Tryz.underlying32
 have hu50 := Tryz.underlying50
 have hu30 := Tryz.underlying30
 have HR0_2 := A0_ hr0_2
 have HC0_2 := A0_ hc0_2
 clear hr0_2 hc0_2
 have HR0_3 := A0_ hr0_3
 have HC0_3 := A0_ hc0_3
 clear hr0_3 hc0_3
 have HB := A0_ (Below.refl w.heap.size w)
 have H : ((impl_IsHouse.f k a0_0 a0_1 l0_2 l0_3 a0_4).bind fun t1 => (if t1 = true then ((impl_House_guests.f k a0_0 a0_1 l0_2 l0_3 a0_4 a1_0 a1_1 a1_2).bind fun bt1 => (if bt1.2 = true then (impl_DoWork.j0 k bt1.1 (a0_4 == 1000) a0_0 a0_1 l0_2 l0_3 a0_4) else (impl_DoWork.j0 k bt1.1 true a0_0 a0_1 l0_2 l0_3 a0_4))) else (some (0, false, ([] : List Int), ([] : List Int), 0, false)))) = some (r1, r2, r3, r4, r5, r6) := h
 clear h
 obtain ⟨t1, A2, H⟩ := o1_ H
 by_cases c1 : t1 = true
 case neg =>
  obtain rfl := bf_.mpr c1
  rw [if_neg ft_] at H
  simp only [sj_, pj_] at H
  obtain ⟨rfl, rfl, rfl, rfl, rfl, rfl⟩ := H
  go_enter Tryz.func22, Tryz.ntmps22
  go_wp2_with (first | ((with_reducible refine gd_ (N := 2) rfl ?_); refine bx_ 2 #[.int .i64 a0_0, .bool a0_1, .slice A0_2 l0_2.length c0_2, .slice A0_3 l0_3.length c0_3, .int .i64 a0_4] 32 ?_; intro gb1 hg w1 BK1 hb; have GW1 := ge_ hg brt4_; have GE1 := GW1; replace HB := hb_ hb brt4_; clear hb hg) | ((with_reducible refine gd_ (N := 3) rfl ?_); refine bx_ 3 #[.int .i64 a1_0, .int .i64 a1_1, .int .i64 a1_2] 50 ?_; intro gb2 hg w2 BK2 hb; have GW2 := ge_ hg be6g_; have GE2 := GW2; replace HB := hb_ hb be6g_; have NB1_2 := nl_ hg BK1; have NB2_1 := ng_ hg BK1; replace BK1 := k1_ BK1 hb; clear hb hg) | ((with_reducible refine gd_ (N := 4) rfl ?_); refine bx_ 4 #[.int .i64 0, .bool false, .slice none 0 0, .slice none 0 0, .int .i64 0] 32 ?_; intro gb3 hg w3 BK3 hb; have GW3 := ge_ hg bfnq_; have GE3 := GW3; replace HB := hb_ hb bfnq_; have NB1_3 := nl_ hg BK1; have NB3_1 := ng_ hg BK1; replace BK1 := k1_ BK1 hb; have NB2_3 := nl_ hg BK2; have NB3_2 := ng_ hg BK2; replace BK2 := k1_ BK2 hb; clear hb hg; have hnb1 := NB1_2.out; have hnc1 := NB2_1.out; have hnb2 := NB1_3.out; have hnc2 := NB3_1.out; have hcz1 := z5_ BK1) | ((with_reducible refine gc_ (f := 26) rfl ?_); refine gl_ 9 Tryz.func26 #[.agg #[.int .i64 a0_0, .bool a0_1, .slice A0_2 l0_2.length c0_2, .slice A0_3 l0_3.length c0_3, .int .i64 a0_4]] ?_; (with_reducible refine (impl_IsHouse.calls k a0_0 a0_1 _ _ l0_2 _ _ l0_3 a0_4 false _ ?side1 ?side2 ?side3 ?side4 A2.out).mono ?_); (case side1 => exact b6n8_); (case side2 => exact HC0_2.out); (case side3 => exact bkan_); (case side4 => exact HC0_3.out); rintro e w4 ⟨rfl, hb⟩; refine ⟨_, rfl, ?_⟩; replace BK1 := k1_ BK1 hb; replace BK2 := k1_ BK2 hb; replace BK3 := k1_ BK3 hb; replace HB := hb_ hb b850_; (try clear hb); have hnb3 := NB3_2.out; have hnc3 := NB2_3.out; have hcz2 := z5_ BK3))
  refine bodyPost_ret (results_ct rfl _ _ gb3 32 #[.int .i64 0, .bool false, .slice none 0 0, .slice none 0 0, .int .i64 0] (0, 0) _ rfl (u1_ BK3) Tryz.underlying32 rfl bfqv_) rfl ?_
  exact ⟨_, _, bnwh_, bwfe_, bwfe_, b850_⟩
 subst c1
 rw [if_pos rfl] at H
 obtain ⟨⟨t2, t3⟩, A4, H⟩ := o1_ H
 have HC6 := A0_ H
 clear H
 go_enter Tryz.func22, Tryz.ntmps22
 go_upto_region 4 with (first | ((with_reducible refine gd_ (N := 2) rfl ?_); refine bx_ 2 #[.int .i64 a0_0, .bool a0_1, .slice A0_2 l0_2.length c0_2, .slice A0_3 l0_3.length c0_3, .int .i64 a0_4] 32 ?_; intro gb1 hg w1 BK1 hb; have GW1 := ge_ hg brt4_; have GE1 := GW1; replace HB := hb_ hb brt4_; clear hb hg) | ((with_reducible refine gd_ (N := 3) rfl ?_); refine bx_ 3 #[.int .i64 a1_0, .int .i64 a1_1, .int .i64 a1_2] 50 ?_; intro gb2 hg w2 BK2 hb; have GW2 := ge_ hg be6g_; have GE2 := GW2; replace HB := hb_ hb be6g_; have NB1_2 := nl_ hg BK1; have NB2_1 := ng_ hg BK1; replace BK1 := k1_ BK1 hb; clear hb hg) | ((with_reducible refine gd_ (N := 4) rfl ?_); refine bx_ 4 #[.int .i64 0, .bool false, .slice none 0 0, .slice none 0 0, .int .i64 0] 32 ?_; intro gb3 hg w3 BK3 hb; have GW3 := ge_ hg bfnq_; have GE3 := GW3; replace HB := hb_ hb bfnq_; have NB1_3 := nl_ hg BK1; have NB3_1 := ng_ hg BK1; replace BK1 := k1_ BK1 hb; have NB2_3 := nl_ hg BK2; have NB3_2 := ng_ hg BK2; replace BK2 := k1_ BK2 hb; clear hb hg; have hnb1 := NB1_2.out; have hnc1 := NB2_1.out; have hnb2 := NB1_3.out; have hnc2 := NB3_1.out; have hcz1 := z5_ BK1) | ((with_reducible refine gc_ (f := 26) rfl ?_); refine gl_ 9 Tryz.func26 #[.agg #[.int .i64 a0_0, .bool a0_1, .slice A0_2 l0_2.length c0_2, .slice A0_3 l0_3.length c0_3, .int .i64 a0_4]] ?_; (with_reducible refine (impl_IsHouse.calls k a0_0 a0_1 _ _ l0_2 _ _ l0_3 a0_4 true _ ?side1 ?side2 ?side3 ?side4 A2.out).mono ?_); (case side1 => exact b6n8_); (case side2 => exact HC0_2.out); (case side3 => exact bkan_); (case side4 => exact HC0_3.out); rintro e w4 ⟨rfl, hb⟩; refine ⟨_, rfl, ?_⟩; replace BK1 := k1_ BK1 hb; replace BK2 := k1_ BK2 hb; replace BK3 := k1_ BK3 hb; replace HB := hb_ hb b850_; (try clear hb); have hcz2 := z5_ BK1; have hnb3 := NB2_3.out; have hnc3 := NB3_2.out; have hcz3_0 : w4.cell? ⟨gb2, 0, none⟩ = some (.int .i64 a1_0) := (kc_ BK2.out 0).trans rfl; have hcz3_1 : w4.cell? ⟨gb2, 1, none⟩ = some (.int .i64 a1_1) := (kc_ BK2.out 1).trans rfl; have hcz3_2 : w4.cell? ⟨gb2, 2, none⟩ = some (.int .i64 a1_2) := (kc_ BK2.out 2).trans rfl; have hfz3_0 := kf_ BK2.out 0; have hfz3_1 := kf_ BK2.out 1; have hfz3_2 := kf_ BK2.out 2) | ((with_reducible refine gc_ (f := 52) rfl ?_); refine gl_ 15 Tryz.func52 #[.agg #[.int .i64 a0_0, .bool a0_1, .slice A0_2 l0_2.length c0_2, .slice A0_3 l0_3.length c0_3, .int .i64 a0_4], .agg #[.int .i64 a1_0, .int .i64 a1_1, .int .i64 a1_2]] ?_; (with_reducible refine (impl_House_guests.calls k a0_0 a0_1 _ _ l0_2 _ _ l0_3 a0_4 a1_0 a1_1 a1_2 t2 t3 _ ?side1 ?side2 ?side3 ?side4 bpiy_ A4.out).mono ?_); (case side1 => exact b6n8_); (case side2 => exact HC0_2.out); (case side3 => exact bkan_); (case side4 => exact HC0_3.out); rintro e w5 ⟨v1, rfl, ho0, hb⟩; refine ⟨_, rfl, ?_⟩; have HO1 := A0_ (Kd.R_lower ho0 (bz_ b850_)); replace BK1 := k1_ BK1 hb; replace BK2 := k1_ BK2 hb; replace BK3 := k1_ BK3 hb; replace HB := hb_ hb b850_; (try clear hb); (try clear ho0)))
 (try simp only [Act.put, sa_, sz_, ss_])
 go_cut [24] (fun v4 wc => ∃ (kq : Nat) (x24_5 : Bool), v4 = .bool x24_5 ∧ Aside0 (impl_DoWork.j0 kq t2 x24_5 a0_0 a0_1 l0_2 l0_3 a0_4 = some (r1, r2, r3, r4, r5, r6)) ∧ Aside0 (kq ≤ k) ∧ Aside0 (Kd.R (Kd.int .i64) 3 wc w.heap.size (fun _ => True) v1 t2) ∧ Aside0 (wc.heap[gb1]? = some (.cells #[.int .i64 a0_0, .bool a0_1, (.slice A0_2 l0_2.length c0_2), (.slice A0_3 l0_3.length c0_3), .int .i64 a0_4] 32 (0, 0))) ∧ Aside0 (wc.heap[gb2]? = some (.cells #[.int .i64 a1_0, .int .i64 a1_1, .int .i64 a1_2] 50 (0, 0))) ∧ Aside0 (wc.heap[gb3]? = some (.cells #[.int .i64 0, .bool false, (.slice none 0 0), (.slice none 0 0), .int .i64 0] 32 (0, 0))) ∧ Aside0 (Below w.heap.size w wc))
 case first =>
  have H := HC6.out
  clear HC6
  by_cases c2 : t3 = true
  case neg =>
   obtain rfl := bf_.mpr c2
   rw [if_neg ft_] at H
   have H' := A0_ H
   clear H
   go_wp2
   go_meet
   exact ⟨_, (true), b2ew_, H', ⟨bbn0_⟩, ⟨bsm5_⟩, ⟨u1_ BK1⟩, ⟨u1_ BK2⟩, ⟨u1_ BK3⟩, ⟨b850_⟩⟩
  subst c2
  rw [if_pos rfl] at H
  have H' := A0_ H
  clear H
  have hnb4 := NB1_2.out
  have hnc4 := NB2_1.out
  have hnb5 := NB1_3.out
  have hnc5 := NB3_1.out
  have hcz4 := z5_ BK1
  go_wp2
  go_meet
  exact ⟨_, ((a0_4 == 1000)), b2ew_, H', ⟨bbn0_⟩, ⟨bsm5_⟩, ⟨u1_ BK1⟩, ⟨u1_ BK2⟩, ⟨u1_ BK3⟩, ⟨b850_⟩⟩
 clear HC6
 try clear c1
 (try clear hcz1); (try clear hcz2); (try clear hcz3); (try clear hfz1); (try clear hfz2); (try clear hfz3)
 obtain ⟨kq, x24_5, rfl, HA, HJ1, HO_1, BK1, BK2, BK3, HB⟩ := hcut
 cases kq with | zero => exact absurd HA.out (by simp [impl_DoWork.j0]) | succ kj1 => ?_
 have H := HA.out
 clear HA
 simp only [impl_DoWork.j0] at H
 by_cases c2 : x24_5 = true
 ·subst c2
  rw [if_pos rfl] at H
  simp only [sj_, pj_] at H
  obtain ⟨rfl, rfl, rfl, rfl, rfl, rfl⟩ := H
  have hnb4 := NB3_1.out
  have hnc4 := NB1_3.out
  have hnb5 := NB3_2.out
  have hnc5 := NB2_3.out
  have hcz4 := z5_ BK3
  go_wp2
  refine bodyPost_ret (results_ct rfl _ _ gb3 32 #[.int .i64 0, .bool false, .slice none 0 0, .slice none 0 0, .int .i64 0] (0, 0) _ rfl (u1_ BK3) Tryz.underlying32 rfl bfqv_) rfl ?_
  exact ⟨_, _, bnwh_, bwfe_, bwfe_, b850_⟩
 obtain rfl := bf_.mpr c2
 rw [if_neg ft_] at H
 obtain ⟨⟨t4, t5⟩, A6, H⟩ := o1_ H
 obtain ⟨t6, A8, H⟩ := o1_ H
 obtain ⟨⟨t7, t8, t9⟩, A10, H⟩ := o1_ H
 replace H : (some (t7, t8, t9, t2, wrap64 (a0_4 + 1), true)) = some (r1, r2, r3, r4, r5, r6) := H
 simp only [sj_, pj_] at H
 obtain ⟨rfl, rfl, rfl, rfl, rfl, rfl⟩ := H
 try go_wp2
 replace HO_1 := A0_ (rd_ HO_1.out)
 replace BK1 := A0_ (kd_ BK1.out)
 replace BK2 := A0_ (kd_ BK2.out)
 replace BK3 := A0_ (kd_ BK3.out)
 replace HB := A0_ (bd_ HB.out)
 refine s5_ 13 [] BK1 impl_DoWork.tab6 impl_DoWork.bits6 (fun hHeld HT_ HW_ => ?_)
 generalize wc.drew = w6 at HO_1 BK1 BK2 BK3 HB hHeld ⊢
 refine pu_ 0 26 ?_
 refine pu_ 3 29 ?_
 refine pu_ 6 32 ?_
 refine pu_ 7 33 ?_
 refine tk_ 1 27 hHeld ?_
 refine tk_ 8 34 hHeld ?_
 refine pu_ 9 35 ?_
 refine on_ 2 (some 28) (fun K hK => ?_)
 refine gs_ Tryz.func53 #[.agg #[.int .i64 a0_0, .bool a0_1, .slice A0_2 l0_2.length c0_2]] ?_
 with_reducible refine (impl_Row_bench.calls a0_0 a0_1 _ _ l0_2 t4 t5 _ ?side1 ?side2 A6.out).mono ?_
 (case side1 => exact b6n8_)
 (case side2 => exact HC0_2.out)
 rintro e w7 ⟨rfl, hb⟩
 refine ⟨_, rfl, ?_⟩
 replace HO_1 := A0_ (Kd.R_below bwik_ hb)
 replace BK1 := k1_ BK1 hb
 replace BK2 := k1_ BK2 hb
 replace BK3 := k1_ BK3 hb
 replace HB := hb_ hb b850_
 (try clear hb)
 obtain ⟨Ao1, co1, eo1⟩ := Kd.R_slice HO_1.out
 (first | subst eo1 | (injection eo1 with f1_ f2_ f3_; have f4_ := f1_.symm; have f5_ := f3_.symm; clear f1_ f2_ f3_; subst f4_; subst f5_))
 refine hK.out _ _ (c5_ BK1) (fun hHeld => ?_)
 clear hK K
 refine nm_ 28 ?_
 refine on_ 4 (some 30) (fun K hK => ?_)
 refine gs_ Tryz.func54 #[.slice Ao1 t2.length co1] ?_
 with_reducible refine (impl_setOf.calls kj1 _ _ t2 t6 _ ?side1 ?side2 A8.out).mono ?_
 (case side1 => exact btcf_)
 (case side2 => exact (rr_ HO_1.out).2.1)
 rintro e w' ⟨rfl, ⟨nd, rfl⟩⟩
 refine ⟨_, rfl, ?_⟩
 refine hK.out _ _ (c5_ BK1) (fun hHeld => ?_)
 clear hK K
 refine nm_ 30 ?_
 refine on_ 5 (some 31) (fun K hK => ?_)
 refine gs_ Tryz.func49 #[.agg #[.int .i64 t4, .bool t5], .int .u32 t6] ?_
 with_reducible refine (impl_bench_row.calls kj1 t4 t5 t6 t7 t8 t9 _ bpiy_ A10.out).mono ?_
 rintro e w8 ⟨v5, rfl, ho0, hb⟩
 refine ⟨_, rfl, ?_⟩
 have HO2 := A0_ (Kd.R_lower (Kd.R_new' ho0 (Kd.R_lt bwik_)) (bz_ b850_))
 replace HO_1 := A0_ (Kd.R_elder' bwik_ (Kd.R_base ho0) hb)
 replace BK1 := k1_ BK1 hb
 replace BK2 := k1_ BK2 hb
 replace BK3 := k1_ BK3 hb
 replace HB := hb_ hb b850_
 (try clear hb); (try clear ho0)
 obtain ⟨Ao2, co2, eo2⟩ := Kd.R_slice HO2.out
 (first | subst eo2 | (injection eo2 with f1_ f2_ f3_; have f4_ := f1_.symm; have f5_ := f3_.symm; clear f1_ f2_ f3_; subst f4_; subst f5_))
 refine hK.out _ _ (c5_ BK1) (fun hHeld => ?_)
 clear hK K
 refine nm_ 31 ?_
 refine pu_ 10 36 ?_
 refine on_ 11 none (fun K hK => ?_)
 have hs34 : w8.cell? ⟨gb3, 0, none⟩ = some (.int .i64 0) := (kc_ BK3.out 0).trans rfl
 have hfs34 := kf_ BK3.out 0
 have hns1_0 := NB1_3.out
 have hns1_1 := NB2_3.out
 have hms1_0 := NB3_1.out
 have hms1_1 := NB3_2.out
 have hs35 : w8.cell? ⟨gb3, 1, none⟩ = some (.bool false) := (kc_ BK3.out 1).trans rfl
 have hfs35 := kf_ BK3.out 1
 have hns2_0 := NB1_3.out
 have hns2_1 := NB2_3.out
 have hms2_0 := NB3_1.out
 have hms2_1 := NB3_2.out
 have hs36 : w8.cell? ⟨gb3, 2, none⟩ = some (.slice none 0 0) := (kc_ BK3.out 2).trans rfl
 have hfs36 := kf_ BK3.out 2
 have hns3_0 := NB1_3.out
 have hns3_1 := NB2_3.out
 have hms3_0 := NB3_1.out
 have hms3_1 := NB3_2.out
 have hs37 : w8.cell? ⟨gb3, 3, none⟩ = some (.slice none 0 0) := (kc_ BK3.out 3).trans rfl
 have hfs37 := kf_ BK3.out 3
 have hns4_0 := NB1_3.out
 have hns4_1 := NB2_3.out
 have hms4_0 := NB3_1.out
 have hms4_1 := NB3_2.out
 have hs38 : w8.cell? ⟨gb3, 4, none⟩ = some (.int .i64 0) := (kc_ BK3.out 4).trans rfl
 have hfs38 := kf_ BK3.out 4
 have hns5_0 := NB1_3.out
 have hns5_1 := NB2_3.out
 have hms5_0 := NB3_1.out
 have hms5_1 := NB3_2.out
 refine skip_ (w1 := ?_) (by rfl) rfl ?_ ?_
 rotate_left
 ·go_simp
  rfl
 refine hK.out _ _ ⟨((cell_far (p := ⟨gb3, _, none⟩) NB1_3.out _).trans (((cell_far (p := ⟨gb3, _, none⟩) NB1_3.out _).trans (((cell_far (p := ⟨gb3, _, none⟩) NB1_3.out _).trans (((cell_far (p := ⟨gb3, _, none⟩) NB1_3.out _).trans (((cell_far (p := ⟨gb3, _, none⟩) NB1_3.out _).trans (hHeld.1)))))))))), ((cell_far (p := ⟨gb3, _, none⟩) NB1_3.out _).trans (((cell_far (p := ⟨gb3, _, none⟩) NB1_3.out _).trans (((cell_far (p := ⟨gb3, _, none⟩) NB1_3.out _).trans (((cell_far (p := ⟨gb3, _, none⟩) NB1_3.out _).trans (((cell_far (p := ⟨gb3, _, none⟩) NB1_3.out _).trans (hHeld.2.1)))))))))), ((cell_far (p := ⟨gb3, _, none⟩) NB1_3.out _).trans (((cell_far (p := ⟨gb3, _, none⟩) NB1_3.out _).trans (((cell_far (p := ⟨gb3, _, none⟩) NB1_3.out _).trans (((cell_far (p := ⟨gb3, _, none⟩) NB1_3.out _).trans (((cell_far (p := ⟨gb3, _, none⟩) NB1_3.out _).trans (hHeld.2.2.1)))))))))), ((cell_far (p := ⟨gb3, _, none⟩) NB1_3.out _).trans (((cell_far (p := ⟨gb3, _, none⟩) NB1_3.out _).trans (((cell_far (p := ⟨gb3, _, none⟩) NB1_3.out _).trans (((cell_far (p := ⟨gb3, _, none⟩) NB1_3.out _).trans (((cell_far (p := ⟨gb3, _, none⟩) NB1_3.out _).trans (hHeld.2.2.2.1)))))))))), ((cell_far (p := ⟨gb3, _, none⟩) NB1_3.out _).trans (((cell_far (p := ⟨gb3, _, none⟩) NB1_3.out _).trans (((cell_far (p := ⟨gb3, _, none⟩) NB1_3.out _).trans (((cell_far (p := ⟨gb3, _, none⟩) NB1_3.out _).trans (((cell_far (p := ⟨gb3, _, none⟩) NB1_3.out _).trans (hHeld.2.2.2.2))))))))))⟩ (fun hHeld => ?_)
 clear hK K
 refine pu_ 12 5 ?_
 refine dn_ ?_
 try go_wp2
 refine bodyPost_ret (results_ct rfl _ _ gb3 32 #[.int .i64 t7, .bool t8, .slice Ao2 t9.length co2, .slice Ao1 t2.length co1, .int .i64 (wrap64 (a0_4 + 1))] (0, 0) _ rfl (u1_ BK3) Tryz.underlying32 rfl bfqv_) rfl ?_
 exact ⟨_, _, bnwh_, by (with_reducible repeat (first | apply ra_ | apply rn_ | apply rd_)); exact Kd.R_mono (rf_ (rf_ (rf_ (rf_ (rf_ (Kd.R_types HO2.out BK3.out bi3y_) k2_0 _) k2_0 _) k2_0 _) k2_0 _) (fun _ hk => hk.2) (.int .i64 (wrap64 (a0_4 + 1)))) (fun _ hk => hk.1.2), by (with_reducible repeat (first | apply ra_ | apply rn_ | apply rd_)); exact Kd.R_mono (rf_ (rf_ (rf_ (rf_ (rf_ (Kd.R_types HO_1.out BK3.out bi3y_) k2_0 _) k2_0 _) k2_0 _) k2_0 _) (fun _ hk => hk.2) (.int .i64 (wrap64 (a0_4 + 1)))) (fun _ hk => hk.1.2), b850_⟩

def impl_House_own.f (a0_0 : Int) (a0_1 : Bool) (l0_2 : List Int) (l0_3 : List Int) (a0_4 : Int) : Option (Int × Bool × List Int × List Int × Int) := (some (([] : List Int) : List Int)).bind fun y224 => (if y224.length + l0_2.length < 17592186044416 then ((some (([] : List Int) : List Int)).bind fun y230 => (if y230.length + l0_3.length < 17592186044416 then (some (a0_0, a0_1, (y224 ++ l0_2), (y230 ++ l0_3), a0_4)) else (none))) else (none))
def impl_House_own.T1 : Bool × List (List Nat × List Nat) := (true, [([], []), ([], []), ([1], [1]), ([2], [2]), ([0, 3], [0, 3]), ([], []), ([], []), ([6], [6]), ([5, 7, 4], [5, 7]), ([0, 1, 2, 3, 4, 6, 7], []), ([9, 0, 1, 2, 3, 4, 6, 7], [9]), ([10, 4, 8, 0, 1, 2, 3, 4, 6, 7], [4, 10]), ([0, 1, 2, 3, 4, 5, 6, 7, 8, 9, 10, 11], []), ([12, 8, 11, 0, 1, 2, 3, 4, 5, 6, 7, 8, 9, 10, 11], [8, 12])])
def impl_House_own.B1 : List Nat := [0, 0, 2, 6, 15, 0, 0, 64, 255, 223, 735, 2047, 4095, 8191]
theorem impl_House_own.tab1 : rtab .any (opsOf Tryz.f38 1) = impl_House_own.T1 := by kernel_rfl
theorem impl_House_own.bits1 : waitsOk impl_House_own.T1.2 impl_House_own.B1 = true := by kernel_rfl
theorem impl_House_own.calls (a0_0 : Int) (a0_1 : Bool) (A0_2 : Option Addr) (c0_2 : Nat) (l0_2 : List Int) (A0_3 : Option Addr) (c0_3 : Nat) (l0_3 : List Int) (a0_4 : Int) (r1 : Int) (r2 : Bool) (r3 : List Int) (r4 : List Int) (r5 : Int) (w : World) (hr0_2 : Kd.C (Kd.int .i64) w A0_2 l0_2.length l0_2) (hc0_2 : l0_2.length ≤ c0_2) (hr0_3 : Kd.C (Kd.int .i64) w A0_3 l0_3.length l0_3) (hc0_3 : l0_3.length ≤ c0_3) (h : impl_House_own.f a0_0 a0_1 l0_2 l0_3 a0_4 = some (r1, r2, r3, r4, r5)) :
  Calls Tryz.prog 38 #[.agg #[.int .i64 a0_0, .bool a0_1, .slice A0_2 l0_2.length c0_2, .slice A0_3 l0_3.length c0_3, .int .i64 a0_4]] w fun e w' => ∃ v2_ v3_ : Value, e = .returned (.agg #[.int .i64 r1, .bool r2, v2_, v3_, .int .i64 r5]) ∧ Kd.R (Kd.int .i64) 3 w' w.heap.size (fun k_ => no_ v3_ k_) v2_ r3 ∧ Kd.R (Kd.int .i64) 3 w' w.heap.size (fun k_ => no_ v2_ k_) v3_ r4 ∧ Below w.heap.size w w' := by
 have hu31 := Tryz.underlying32
 have HR0_2 := A0_ hr0_2
 have HC0_2 := A0_ hc0_2
 clear hr0_2 hc0_2
 have HR0_3 := A0_ hr0_3
 have HC0_3 := A0_ hc0_3
 clear hr0_3 hc0_3
 have HB := A0_ (Below.refl w.heap.size w)
 have H : ((some (([] : List Int) : List Int)).bind fun y1 => (if y1.length + l0_2.length < 17592186044416 then ((some (([] : List Int) : List Int)).bind fun y2 => (if y2.length + l0_3.length < 17592186044416 then (some (a0_0, a0_1, (y1 ++ l0_2), (y2 ++ l0_3), a0_4)) else (none))) else (none))) = some (r1, r2, r3, r4, r5) := h
 clear h
 obtain ⟨y1, hy1⟩ : ∃ y_ : List Int, y_ = (([] : List Int)) := ⟨_, rfl⟩
 replace H : (if y1.length + l0_2.length < 17592186044416 then ((some (([] : List Int) : List Int)).bind fun y2 => (if y2.length + l0_3.length < 17592186044416 then (some (a0_0, a0_1, (y1 ++ l0_2), (y2 ++ l0_3), a0_4)) else (none))) else (none)) = some (r1, r2, r3, r4, r5) := bgiq_
 have Ny1 := A0_ hy1
 clear hy1
 by_cases c1 : y1.length + l0_2.length < 17592186044416
 case neg =>
  rw [if_neg c1] at H
  exact absurd H bxka_
 rw [if_pos c1] at H
 have LMc1 := A0_ c1
 clear c1
 obtain ⟨y3, hy2⟩ : ∃ y_ : List Int, y_ = (y1 ++ l0_2) := ⟨_, rfl⟩
 replace H : ((some (([] : List Int) : List Int)).bind fun y2 => (if y2.length + l0_3.length < 17592186044416 then (some (a0_0, a0_1, y3, (y2 ++ l0_3), a0_4)) else (none))) = some (r1, r2, r3, r4, r5) := bscs_
 have Ny2 := A0_ hy2
 clear hy2
 obtain ⟨y2, hy3⟩ : ∃ y_ : List Int, y_ = (([] : List Int)) := ⟨_, rfl⟩
 replace H : (if y2.length + l0_3.length < 17592186044416 then (some (a0_0, a0_1, y3, (y2 ++ l0_3), a0_4)) else (none)) = some (r1, r2, r3, r4, r5) := b2x6_
 have Ny3 := A0_ hy3
 clear hy3
 by_cases c2 : y2.length + l0_3.length < 17592186044416
 case neg =>
  rw [if_neg c2] at H
  exact absurd H bxka_
 rw [if_pos c2] at H
 have LMc2 := A0_ c2
 clear c2
 obtain ⟨y4, hy4⟩ : ∃ y_ : List Int, y_ = (y2 ++ l0_3) := ⟨_, rfl⟩
 replace H : (some (a0_0, a0_1, y3, y4, a0_4)) = some (r1, r2, r3, r4, r5) := bytg_
 have Ny4 := A0_ hy4
 clear hy4
 simp only [sj_, pj_] at H
 obtain ⟨rfl, rfl, rfl, rfl, rfl⟩ := H
 go_enter Tryz.func38, Tryz.ntmps38
 try go_wp2_with (first | ((with_reducible refine gd_ (N := 1) rfl ?_); refine bx_ 1 #[.int .i64 a0_0, .bool a0_1, .slice A0_2 l0_2.length c0_2, .slice A0_3 l0_3.length c0_3, .int .i64 a0_4] 32 ?_; intro gb1 hg w1 BK1 hb; have GW1 := ge_ hg brt4_; have GE1 := GW1; replace HB := hb_ hb brt4_; clear hb hg) | ((with_reducible refine gd_ (N := 2) rfl ?_); refine bx_ 2 #[.int .i64 0, .bool false, .slice none 0 0, .slice none 0 0, .int .i64 0] 32 ?_; intro gb2 hg w2 BK2 hb; have GW2 := ge_ hg be6g_; have GE2 := GW2; replace HB := hb_ hb be6g_; have NB1_2 := nl_ hg BK1; have NB2_1 := ng_ hg BK1; replace BK1 := k1_ BK1 hb; clear hb hg))
 replace BK1 := A0_ (kd_ BK1.out)
 replace BK2 := A0_ (kd_ BK2.out)
 replace HB := A0_ (bd_ HB.out)
 refine s5_ 14 [11, 13] BK1 impl_House_own.tab1 impl_House_own.bits1 (fun hHeld HT_ HW_ => ?_)
 generalize w2.drew = w3 at BK1 BK2 HB hHeld ⊢
 refine pu_ 1 4 ?_
 refine pu_ 2 5 ?_
 refine pu_ 6 9 ?_
 refine tk_ 3 6 hHeld ?_
 refine tk_ 7 10 hHeld ?_
 refine join_ (σ := Value × Value × Value) 4 #[true, true, true, true, true, true, true, true, false, true, true, false, false, false] (fun s_ => [(3, s_.1), (7, s_.2.1), (8, s_.2.2), (12, .pointer (some ⟨gb1, 0, none⟩)), (13, .pointer (some ⟨gb1, 2, none⟩))]) (fun s_ w' => (w'.cell? ⟨gb1, 0, none⟩ = some (.int .i64 a0_0) ∧ w'.cell? ⟨gb1, 1, none⟩ = some (.bool a0_1) ∧ w'.cell? ⟨gb1, 2, none⟩ = some (.slice A0_2 l0_2.length c0_2) ∧ w'.cell? ⟨gb1, 3, none⟩ = some (.slice A0_3 l0_3.length c0_3) ∧ w'.cell? ⟨gb1, 4, none⟩ = some (.int .i64 a0_4)) ∧ (Kd.R (Kd.int .i64) 3 w' w.heap.size (fun k_ => some k_ ≠ (s_.2.2 : Value).ownBlock) s_.2.1 y3) ∧ (Kd.R (Kd.int .i64) 3 w' w.heap.size (fun k_ => some k_ ≠ (s_.2.1 : Value).ownBlock) s_.2.2 y2) ∧ (w'.heap[gb1]? = some (.cells #[.int .i64 a0_0, .bool a0_1, .slice A0_2 l0_2.length c0_2, .slice A0_3 l0_3.length c0_3, .int .i64 a0_4] 32 (0, 0))) ∧ (w'.heap[gb2]? = some (.cells #[.int .i64 0, .bool false, .slice none 0 0, .slice none 0 0, .int .i64 0] 32 (0, 0))) ∧ (Below w.heap.size w w')) ?_ ?_
 rotate_left
 ·intro hCont
  refine two_ (i := 0) (j := 5) (Ni := some 3) (Nj := some 8) #[true, true, true, true, false, false, true, true, false, false, false, false, false, false] #[false, true, true, true, false, true, true, true, false, false, false, false, false, false] rfl rfl rfl rfl (two_of HT_.out bfqv_) bi3y_ bi3y_ (fun K hK => ?_) (fun K hK => ?_)
  ·refine Kd.R_lit_step (Kd.int .i64) _ 3 ?hg (N := 3) ?hd (xs := ([] : List Int)) (inner := []) (ok := fun _ => True) (okp := fun _ => True) ?hr ?hp (fun _ hk => hk) trivial (Below.refl _ _) (Nat.le_refl _) bxka_ ?_; (case hd => rfl); (case hg => rfl); (case hr => go_simp; first | done | rfl); (case hp => exact (Reps.none _ _))
   intro v1 w4 ho8 hb hg_ hnew_
   clear hg_ hnew_
   (first | rw [← Ny1.out] at ho8 | (simp only [Int.reduceToNat] at ho8; rw [← Ny1.out] at ho8))
   have HO1 := A0_ (Kd.R_lower ho8 (bz_ bfnq_))
   replace BK1 := k1_ BK1 hb
   replace BK2 := k1_ BK2 hb
   replace HB := hb_ hb bfnq_
   clear hb ho8
   refine hK.out _ _ (c5_ BK1) (fun hHeld => ?_)
   clear hK K
   refine nm_ 3 ?_
   refine two_ (i := 4) (j := 5) (Ni := some 7) (Nj := some 8) #[true, true, true, true, true, false, true, true, false, false, false, false, false, false] #[true, true, true, true, false, true, true, true, false, false, false, false, false, false] rfl rfl rfl rfl (two_of HT_.out bfqv_) bi3y_ bi3y_ (fun K hK => ?_) (fun K hK => ?_)
   ·refine Kd.R_append_rows_step (Kd.int .i64) (w0 := w) w.heap.size (by rfl) (.tmp 3) (.tmp 6) 22 3 (.int .i64 0) 8 rfl Tryz.underlying22 info3 rfl bi3y_ bh19_ v1 y1 l0_2 _ _ _ (fun _ => True) (fun _ => False) rfl rfl ?aO ?aR (fun _ _ h => h) (fun _ h => h.elim) ?aF ?aB ?aS ?aL ?_
    (case aR => exact b6n8_)
    (case aB => exact bfnq_)
    (case aF => exact (fun _ _ => trivial))
    (case aO => exact bsm5_)
    (case aS => exact (bz_ bfnq_))
    (case aL => have := LMc1.out; omega)
    intro v4 w5 ho hb hg hat
    rw [← Ny2.out] at ho
    have n0_ := A0_ (blk_grown (g := gb1) (o := .cells #[.int .i64 a0_0, .bool a0_1, .slice A0_2 l0_2.length c0_2, .slice A0_3 l0_3.length c0_3, .int .i64 a0_4] 32 (0, 0)) (u1_ BK1) hg (Kd.R_ne HO1.out BK1.out bi3y_))
    have n1_ := A0_ (blk_grown (g := gb2) (o := .cells #[.int .i64 0, .bool false, .slice none 0 0, .slice none 0 0, .int .i64 0] 32 (0, 0)) (u1_ BK2) hg (Kd.R_ne HO1.out BK2.out bi3y_))
    have n2_ := A0_ (hb)
    have n3_ := A0_ (ho)
    clear BK1
    clear BK2
    clear HB
    clear HO1
    have BK1 := n0_
    have BK2 := n1_
    have HB := n2_
    have HO2 := n3_
    clear n0_ n1_ n2_ n3_
    clear ho hb hg hat
    refine hK.out _ _ (c5_ BK1) (fun hHeld => ?_)
    clear hK K
    refine nm_ 7 ?_
    refine pu_ 9 12 ?_
    refine pu_ 10 13 ?_
    refine on_ 5 (some 8) (fun K hK => ?_)
    refine Kd.R_lit_step (Kd.int .i64) _ 3 ?hg (N := 8) ?hd (xs := ([] : List Int)) (inner := []) (ok := fun _ => True) (okp := fun _ => True) ?hr ?hp (fun _ hk => hk) trivial (Below.refl _ _) (Nat.le_refl _) bxka_ ?_; (case hd => rfl); (case hg => rfl); (case hr => go_simp; first | done | rfl); (case hp => exact (Reps.none _ _))
    intro v5 w6 ho11 hb hg_ hnew_
    clear hg_ hnew_
    (first | rw [← Ny3.out] at ho11 | (simp only [Int.reduceToNat] at ho11; rw [← Ny3.out] at ho11))
    have HO3 := A0_ (Kd.R_lower (Kd.R_new' ho11 (Kd.R_lt b9so_)) (bz_ bfnq_))
    replace HO2 := A0_ (Kd.R_elder' b9so_ (Kd.R_base ho11) hb)
    replace BK1 := k1_ BK1 hb
    replace BK2 := k1_ BK2 hb
    replace HB := hb_ hb bfnq_
    clear hb ho11
    refine hK.out _ _ (c5_ BK1) (fun hHeld => ?_)
    clear hK K
    refine nm_ 8 ?_
    exact norm_ bh00_ (hCont (v1, v4, v5) _ ⟨hHeld, b61e_, blz6_, (u1_ BK1), (u1_ BK2), bfnq_⟩)
   refine Kd.R_lit_step (Kd.int .i64) _ 3 ?hg (N := 8) ?hd (xs := ([] : List Int)) (inner := []) (ok := fun _ => True) (okp := fun _ => True) ?hr ?hp (fun _ hk => hk) trivial (Below.refl _ _) (Nat.le_refl _) bxka_ ?_; (case hd => rfl); (case hg => rfl); (case hr => go_simp; first | done | rfl); (case hp => exact (Reps.none _ _))
   intro v4 w5 ho10 hb hg_ hnew_
   clear hg_ hnew_
   (first | rw [← Ny3.out] at ho10 | (simp only [Int.reduceToNat] at ho10; rw [← Ny3.out] at ho10))
   have HO2 := A0_ (Kd.R_lower (Kd.R_new' ho10 (Kd.R_lt bsm5_)) (bz_ bfnq_))
   replace HO1 := A0_ (Kd.R_elder' bsm5_ (Kd.R_base ho10) hb)
   replace BK1 := k1_ BK1 hb
   replace BK2 := k1_ BK2 hb
   replace HB := hb_ hb bfnq_
   clear hb ho10
   refine hK.out _ _ (c5_ BK1) (fun hHeld => ?_)
   clear hK K
   refine nm_ 8 ?_
   refine on_ 4 (some 7) (fun K hK => ?_)
   refine Kd.R_append_rows_step (Kd.int .i64) (w0 := w) w.heap.size (by rfl) (.tmp 3) (.tmp 6) 22 3 (.int .i64 0) 8 rfl Tryz.underlying22 info3 rfl bi3y_ bh19_ v1 y1 l0_2 _ _ _ (fun k_ => no_ v4 k_) (fun _ => False) rfl rfl ?aO ?aR (fun _ _ h => h) (fun _ h => h.elim) ?aF ?aB ?aS ?aL ?_
   (case aR => exact b6n8_)
   (case aB => exact bfnq_)
   (case aF => exact (fun k_ hk => Kd.fresh' (Kd.R_lt b9so_) k_ hk))
   (case aO => exact b48f_)
   (case aS => exact (bz_ bfnq_))
   (case aL => have := LMc1.out; omega)
   intro v5 w6 ho hb hg hat
   rw [← Ny2.out] at ho
   have n0_ := A0_ (blk_grown (g := gb1) (o := .cells #[.int .i64 a0_0, .bool a0_1, .slice A0_2 l0_2.length c0_2, .slice A0_3 l0_3.length c0_3, .int .i64 a0_4] 32 (0, 0)) (u1_ BK1) hg (Kd.R_ne HO1.out BK1.out bi3y_))
   have n1_ := A0_ (blk_grown (g := gb2) (o := .cells #[.int .i64 0, .bool false, .slice none 0 0, .slice none 0 0, .int .i64 0] 32 (0, 0)) (u1_ BK2) hg (Kd.R_ne HO1.out BK2.out bi3y_))
   have n2_ := A0_ (Kd.R_after (ok := (fun _ => True)) b9so_ hg hat)
   have n3_ := A0_ (hb)
   have n4_ := A0_ (ho)
   clear BK1
   clear BK2
   clear HO2
   clear HB
   clear HO1
   have BK1 := n0_
   have BK2 := n1_
   have HO2 := n2_
   have HB := n3_
   have HO3 := n4_
   clear n0_ n1_ n2_ n3_ n4_
   clear ho hb hg hat
   refine hK.out _ _ (c5_ BK1) (fun hHeld => ?_)
   clear hK K
   refine nm_ 7 ?_
   refine pu_ 9 12 ?_
   refine pu_ 10 13 ?_
   exact norm_ bh00_ (hCont (v1, v5, v4) _ ⟨hHeld, buiy_, b61e_, (u1_ BK1), (u1_ BK2), bfnq_⟩)
  refine Kd.R_lit_step (Kd.int .i64) _ 3 ?hg (N := 8) ?hd (xs := ([] : List Int)) (inner := []) (ok := fun _ => True) (okp := fun _ => True) ?hr ?hp (fun _ hk => hk) trivial (Below.refl _ _) (Nat.le_refl _) bxka_ ?_; (case hd => rfl); (case hg => rfl); (case hr => go_simp; first | done | rfl); (case hp => exact (Reps.none _ _))
  intro v1 w4 ho8 hb hg_ hnew_
  clear hg_ hnew_
  (first | rw [← Ny3.out] at ho8 | (simp only [Int.reduceToNat] at ho8; rw [← Ny3.out] at ho8))
  have HO1 := A0_ (Kd.R_lower ho8 (bz_ bfnq_))
  replace BK1 := k1_ BK1 hb
  replace BK2 := k1_ BK2 hb
  replace HB := hb_ hb bfnq_
  clear hb ho8
  refine hK.out _ _ (c5_ BK1) (fun hHeld => ?_)
  clear hK K
  refine nm_ 8 ?_
  refine on_ 0 (some 3) (fun K hK => ?_)
  refine Kd.R_lit_step (Kd.int .i64) _ 3 ?hg (N := 3) ?hd (xs := ([] : List Int)) (inner := []) (ok := fun _ => True) (okp := fun _ => True) ?hr ?hp (fun _ hk => hk) trivial (Below.refl _ _) (Nat.le_refl _) bxka_ ?_; (case hd => rfl); (case hg => rfl); (case hr => go_simp; first | done | rfl); (case hp => exact (Reps.none _ _))
  intro v4 w5 ho10 hb hg_ hnew_
  clear hg_ hnew_
  (first | rw [← Ny1.out] at ho10 | (simp only [Int.reduceToNat] at ho10; rw [← Ny1.out] at ho10))
  have HO2 := A0_ (Kd.R_lower (Kd.R_new' ho10 (Kd.R_lt bsm5_)) (bz_ bfnq_))
  replace HO1 := A0_ (Kd.R_elder' bsm5_ (Kd.R_base ho10) hb)
  replace BK1 := k1_ BK1 hb
  replace BK2 := k1_ BK2 hb
  replace HB := hb_ hb bfnq_
  clear hb ho10
  refine hK.out _ _ (c5_ BK1) (fun hHeld => ?_)
  clear hK K
  refine nm_ 3 ?_
  refine on_ 4 (some 7) (fun K hK => ?_)
  refine Kd.R_append_rows_step (Kd.int .i64) (w0 := w) w.heap.size (by rfl) (.tmp 3) (.tmp 6) 22 3 (.int .i64 0) 8 rfl Tryz.underlying22 info3 rfl bi3y_ bh19_ v4 y1 l0_2 _ _ _ (fun k_ => no_ v1 k_) (fun _ => False) rfl rfl ?aO ?aR (fun _ _ h => h) (fun _ h => h.elim) ?aF ?aB ?aS ?aL ?_
  (case aR => exact b6n8_)
  (case aB => exact bfnq_)
  (case aF => exact (fun k_ hk => Kd.fresh' (Kd.R_lt bsm5_) k_ hk))
  (case aO => exact b61e_)
  (case aS => exact (bz_ bfnq_))
  (case aL => have := LMc1.out; omega)
  intro v5 w6 ho hb hg hat
  rw [← Ny2.out] at ho
  have n0_ := A0_ (blk_grown (g := gb1) (o := .cells #[.int .i64 a0_0, .bool a0_1, .slice A0_2 l0_2.length c0_2, .slice A0_3 l0_3.length c0_3, .int .i64 a0_4] 32 (0, 0)) (u1_ BK1) hg (Kd.R_ne HO2.out BK1.out bi3y_))
  have n1_ := A0_ (blk_grown (g := gb2) (o := .cells #[.int .i64 0, .bool false, .slice none 0 0, .slice none 0 0, .int .i64 0] 32 (0, 0)) (u1_ BK2) hg (Kd.R_ne HO2.out BK2.out bi3y_))
  have n2_ := A0_ (Kd.R_after (ok := (fun _ => True)) bsm5_ hg hat)
  have n3_ := A0_ (hb)
  have n4_ := A0_ (ho)
  clear BK1
  clear BK2
  clear HO1
  clear HB
  clear HO2
  have BK1 := n0_
  have BK2 := n1_
  have HO1 := n2_
  have HB := n3_
  have HO3 := n4_
  clear n0_ n1_ n2_ n3_ n4_
  clear ho hb hg hat
  refine hK.out _ _ (c5_ BK1) (fun hHeld => ?_)
  clear hK K
  refine nm_ 7 ?_
  refine pu_ 9 12 ?_
  refine pu_ 10 13 ?_
  exact norm_ bh00_ (hCont (v4, v5, v1) _ ⟨hHeld, buiy_, b48f_, (u1_ BK1), (u1_ BK2), bfnq_⟩)
 rintro ⟨v1, v4, v5⟩ w4 ⟨hS_, h0_, h1_, h2_, h3_, h4_⟩
 try dsimp only at h0_ h1_ h2_ h3_ h4_
 have HO1 := A0_ h0_
 have HO2 := A0_ h1_
 replace BK1 := A0_ h2_
 replace BK2 := A0_ h3_
 replace HB := A0_ h4_
 clear h0_ h1_ h2_ h3_ h4_
 have hHeld : w4.cell? ⟨gb1, 0, none⟩ = some (.int .i64 a0_0) ∧ w4.cell? ⟨gb1, 1, none⟩ = some (.bool a0_1) ∧ w4.cell? ⟨gb1, 2, none⟩ = some (.slice A0_2 l0_2.length c0_2) ∧ w4.cell? ⟨gb1, 3, none⟩ = some (.slice A0_3 l0_3.length c0_3) ∧ w4.cell? ⟨gb1, 4, none⟩ = some (.int .i64 a0_4) := hS_
 refine nq_ ?_
 refine on_ 8 (some 11) (fun K hK => ?_)
 refine Kd.R_append_rows_step (Kd.int .i64) (w0 := w) w.heap.size (by rfl) (.tmp 8) (.tmp 10) 22 3 (.int .i64 0) 8 rfl Tryz.underlying22 info3 rfl bi3y_ bh19_ v5 y2 l0_3 _ _ _ (fun k_ => no_ v4 k_) (fun _ => False) rfl rfl ?aO ?aR (fun _ _ h => h) (fun _ h => h.elim) ?aF ?aB ?aS ?aL ?_
 (case aR => exact bkan_)
 (case aB => exact bfnq_)
 (case aF => exact (fun k_ hk => Kd.fresh' (Kd.R_lt bsm5_) k_ hk))
 (case aO => exact b9so_)
 (case aS => exact (bz_ bfnq_))
 (case aL => have := LMc2.out; omega)
 intro v6 w5 ho hb hg hat
 rw [← Ny4.out] at ho
 have n0_ := A0_ (blk_grown (g := gb1) (o := .cells #[.int .i64 a0_0, .bool a0_1, .slice A0_2 l0_2.length c0_2, .slice A0_3 l0_3.length c0_3, .int .i64 a0_4] 32 (0, 0)) (u1_ BK1) hg (Kd.R_ne HO2.out BK1.out bi3y_))
 have n1_ := A0_ (blk_grown (g := gb2) (o := .cells #[.int .i64 0, .bool false, .slice none 0 0, .slice none 0 0, .int .i64 0] 32 (0, 0)) (u1_ BK2) hg (Kd.R_ne HO2.out BK2.out bi3y_))
 have n2_ := A0_ (Kd.R_after (ok := (fun _ => True)) (by (with_reducible repeat (first | apply ra_ | apply rn_ | apply rd_)); exact Kd.R_mono HO1.out (fun _ hk => ⟨trivial, hk⟩)) hg hat)
 have n3_ := A0_ (hb)
 have n4_ := A0_ (ho)
 clear BK1
 clear BK2
 clear HO1
 clear HB
 clear HO2
 have BK1 := n0_
 have BK2 := n1_
 have HO1 := n2_
 have HB := n3_
 have HO3 := n4_
 clear n0_ n1_ n2_ n3_ n4_
 clear ho hb hg hat
 obtain ⟨Ao1, co1, eo1⟩ := Kd.R_slice HO1.out
 (first | subst eo1 | (injection eo1 with f1_ f2_ f3_; have f4_ := f1_.symm; have f5_ := f3_.symm; clear f1_ f2_ f3_; subst f4_; subst f5_))
 obtain ⟨Ao2, co2, eo2⟩ := Kd.R_slice HO3.out
 (first | subst eo2 | (injection eo2 with f1_ f2_ f3_; have f4_ := f1_.symm; have f5_ := f3_.symm; clear f1_ f2_ f3_; subst f4_; subst f5_))
 refine hK.out _ _ (c5_ BK1) (fun hHeld => ?_)
 clear hK K
 refine nm_ 11 ?_
 refine last_ (i := 11) (N := none) #[true, true, true, true, true, true, true, true, true, true, true, true, false, false] rfl rfl (one_of HT_.out bfqv_) bi3y_ (fun K hK => ?_)
 have hs15 : w5.cell? ⟨gb1, 2, none⟩ = some (.slice A0_2 l0_2.length c0_2) := (kc_ BK1.out 2).trans rfl
 have hfs15 := kf_ BK1.out 2
 have hns1_1 := NB2_1.out
 have hms1_1 := NB1_2.out
 refine skip_ (w1 := ?_) (by rfl) rfl ?_ ?_
 rotate_left
 ·go_simp
  rfl
 refine hK.out _ _ ?_
 clear hK K
 refine pu_ 12 14 ?_
 refine last_ (i := 13) (N := none) #[true, true, true, true, true, true, true, true, true, true, true, true, true, true] rfl rfl (one_of HT_.out bfqv_) bi3y_ (fun K hK => ?_)
 have hs17 : w5.cell? ⟨gb1, 3, none⟩ = some (.slice A0_3 l0_3.length c0_3) := (kc_ BK1.out 3).trans rfl
 have hfs17 := kf_ BK1.out 3
 have hns2_1 := NB2_1.out
 have hms2_1 := NB1_2.out
 refine skip_ (w1 := ?_) (by rfl) rfl ?_ ?_
 rotate_left
 ·go_simp
  rfl
 refine hK.out _ _ ?_
 clear hK K
 refine dn_ ?_
 have hnb1 := NB1_2.out
 have hnc1 := NB2_1.out
 have hcz1 := z5_ BK1
 have hcz2 := z5_ BK2
 try go_wp2
 refine bodyPost_ret (results_cell_row rfl _ _ gb2 32 #[.int .i64 a0_0, .bool a0_1, .slice Ao1 y3.length co1, .slice Ao2 y4.length co2, .int .i64 a0_4] (0, 0) _ rfl (u1_ BK2) Tryz.underlying32 rfl bfqv_) rfl ?_
 exact ⟨_, _, bnwh_, by (with_reducible repeat (first | apply ra_ | apply rn_ | apply rd_)); exact Kd.R_mono (rf_ (rf_ (rf_ (rf_ (rf_ (rf_ (rf_ (Kd.R_types (Kd.R_types HO1.out BK1.out bi3y_) BK2.out bi3y_) (fun _ hk => hk.1.2) (.slice Ao1 y3.length co1)) (fun _ hk => hk.1.2) (.slice Ao2 y4.length co2)) k2_0 _) k2_0 _) k2_0 _) k2_0 _) k2_0 _) (fun _ hk => hk.1.1.2), by (with_reducible repeat (first | apply ra_ | apply rn_ | apply rd_)); exact Kd.R_mono (rf_ (rf_ (rf_ (rf_ (rf_ (rf_ (rf_ (Kd.R_types (Kd.R_types HO3.out BK1.out bi3y_) BK2.out bi3y_) (fun _ hk => hk.1.2) (.slice Ao1 y3.length co1)) (fun _ hk => hk.1.2) (.slice Ao2 y4.length co2)) k2_0 _) k2_0 _) k2_0 _) k2_0 _) k2_0 _) (fun _ hk => hk.1.1), bfnq_⟩


def impl_DoWorks.l0 : Nat → List (S50) → List (S50) → Int → Int → Int → Bool → List Int → List Int → Int → Option (Int × Bool × List Int × List Int × Int × Int × Bool)
 | 0, _, _, _, _, _, _, _, _, _ => none
 | k + 1, x1, x17, x18, x19, x504000, x504001, x504002, x504003, x504004 => if x19 < x18 then (if 0 ≤ x19 then (if x19 < (x17.length : Int) then ((impl_DoWork.f k x504000 x504001 x504002 x504003 x504004 ((rd_T50 x17 x19).f0) ((rd_T50 x17 x19).f1) ((rd_T50 x17 x19).f2)).bind fun bt517 => (if bt517.2.2.2.2.2 = true then (impl_DoWorks.l0 k x1 x17 x18 (wrap64 (x19 + 1)) bt517.1 bt517.2.1 bt517.2.2.1 bt517.2.2.2.1 bt517.2.2.2.2.1) else (some (x504000, x504001, x504002, x504003, x504004, x19, true)))) else (none)) else (none)) else (some (x504000, x504001, x504002, x504003, x504004, (x1.length : Int), true))
def impl_DoWorks.f (k : Nat) (a0_0 : Int) (a0_1 : Bool) (l0_2 : List Int) (l0_3 : List Int) (a0_4 : Int) (l1 : List (S50)) : Option (Int × Bool × List Int × List Int × Int × Int × Bool) := (impl_IsHouse.f k a0_0 a0_1 l0_2 l0_3 a0_4).bind fun t505 => (if t505 = true then ((impl_House_own.f a0_0 a0_1 l0_2 l0_3 a0_4).bind fun bt506 => (impl_DoWorks.l0 k l1 l1 (l1.length : Int) 0 bt506.1 bt506.2.1 bt506.2.2.1 bt506.2.2.2.1 bt506.2.2.2.2)) else (some (0, false, ([] : List Int), ([] : List Int), 0, 0, false)))
theorem impl_DoWorks.mono_l : ∀ k, (∀ y0 y1 y2 y3 y4 y5 y6 y7 y8, LeO (impl_DoWorks.l0 k y0 y1 y2 y3 y4 y5 y6 y7 y8) (impl_DoWorks.l0 (k + 1) y0 y1 y2 y3 y4 y5 y6 y7 y8))
 | 0 => fun _ _ _ _ _ _ _ _ _ r h => by simp [impl_DoWorks.l0] at h
 | k + 1 => by
  have ih0 := impl_DoWorks.mono_l k
  ·intro y0 y1 y2 y3 y4 y5 y6 y7 y8
   unfold impl_DoWorks.l0
   repeat' with_reducible first | exact ih0 .. | exact impl_DoWork.mono .. | exact impl_IsHouse.mono .. | exact LeO.refl .. | exact LeO.none .. | refine LeO.ite ?_ ?_ | refine LeO.bind ?_ (fun _ => ?_)
theorem impl_DoWorks.mono : ∀ a0 a1 a2 a3 a4 a5 k, LeO (impl_DoWorks.f k a0 a1 a2 a3 a4 a5) (impl_DoWorks.f (k + 1) a0 a1 a2 a3 a4 a5) := by
 intro a0 a1 a2 a3 a4 a5 k
 have ih0 := impl_DoWorks.mono_l k
 unfold impl_DoWorks.f
 repeat' with_reducible first | exact ih0 .. | exact impl_DoWork.mono .. | exact impl_IsHouse.mono .. | exact LeO.refl .. | exact LeO.none .. | refine LeO.ite ?_ ?_ | refine LeO.bind ?_ (fun _ => ?_)
theorem impl_DoWorks.calls (k : Nat) (a0_0 : Int) (a0_1 : Bool) (A0_2 : Option Addr) (c0_2 : Nat) (l0_2 : List Int) (A0_3 : Option Addr) (c0_3 : Nat) (l0_3 : List Int) (a0_4 : Int) (A1 : Option Addr) (c1 : Nat) (l1 : List (S50)) (r1 : Int) (r2 : Bool) (r3 : List Int) (r4 : List Int) (r5 : Int) (r6 : Int) (r7 : Bool) (w : World) (hr0_2 : Kd.C (Kd.int .i64) w A0_2 l0_2.length l0_2) (hc0_2 : l0_2.length ≤ c0_2) (hr0_3 : Kd.C (Kd.int .i64) w A0_3 l0_3.length l0_3) (hc0_3 : l0_3.length ≤ c0_3) (hr1 : Kd.C k50 w A1 l1.length l1) (hc1 : l1.length ≤ c1) (hG : TabOK w) (h : impl_DoWorks.f k a0_0 a0_1 l0_2 l0_3 a0_4 l1 = some (r1, r2, r3, r4, r5, r6, r7)) :
  Calls Tryz.prog 10 #[.agg #[.int .i64 a0_0, .bool a0_1, .slice A0_2 l0_2.length c0_2, .slice A0_3 l0_3.length c0_3, .int .i64 a0_4], .slice A1 l1.length c1] w fun e w' => ∃ v2_ v3_ : Value, e = .returned (.tuple #[.agg #[.int .i64 r1, .bool r2, v2_, v3_, .int .i64 r5], .int .i64 r6, .bool r7]) ∧ Kd.R (Kd.int .i64) 3 w' w.heap.size (fun k_ => no_ v3_ k_) v2_ r3 ∧ Kd.R (Kd.int .i64) 3 w' w.heap.size (fun k_ => no_ v2_ k_) v3_ r4 ∧ Below w.heap.size w w' := by
 have HG0 := A0_ hG
 clear hG
 have hu32 := Tryz.underlying32
 have hu50 := Tryz.underlying50
 have HR0_2 := A0_ hr0_2
 have HC0_2 := A0_ hc0_2
 clear hr0_2 hc0_2
 have HR0_3 := A0_ hr0_3
 have HC0_3 := A0_ hc0_3
 clear hr0_3 hc0_3
 have HR1 := A0_ hr1
 have HC1 := A0_ hc1
 clear hr1 hc1
 have HB := A0_ (Below.refl w.heap.size w)
 have H : ((impl_IsHouse.f k a0_0 a0_1 l0_2 l0_3 a0_4).bind fun t1 => (if t1 = true then ((impl_House_own.f a0_0 a0_1 l0_2 l0_3 a0_4).bind fun bt1 => (impl_DoWorks.l0 k l1 l1 (l1.length : Int) 0 bt1.1 bt1.2.1 bt1.2.2.1 bt1.2.2.2.1 bt1.2.2.2.2)) else (some (0, false, ([] : List Int), ([] : List Int), 0, 0, false)))) = some (r1, r2, r3, r4, r5, r6, r7) := h
 clear h
 obtain ⟨t1, A3, H⟩ := o1_ H
 by_cases c2 : t1 = true
 case neg =>
  obtain rfl := bf_.mpr c2
  rw [if_neg ft_] at H
  simp only [sj_, pj_] at H
  obtain ⟨rfl, rfl, rfl, rfl, rfl, rfl, rfl⟩ := H
  go_enter Tryz.func10, Tryz.ntmps10
  go_wp2_with (first | ((with_reducible refine gd_ (N := 2) rfl ?_); refine bx_ 2 #[.int .i64 a0_0, .bool a0_1, .slice A0_2 l0_2.length c0_2, .slice A0_3 l0_3.length c0_3, .int .i64 a0_4] 32 ?_; intro gb1 hg w1 BK1 hb; have GW1 := ge_ hg brt4_; have GE1 := GW1; replace HB := hb_ hb brt4_; clear hb hg) | ((with_reducible refine gd_ (N := 4) rfl ?_); refine bx_ 4 #[.int .i64 0, .bool false, .slice none 0 0, .slice none 0 0, .int .i64 0] 32 ?_; intro gb2 hg w2 BK2 hb; have GW2 := ge_ hg be6g_; have GE2 := GW2; replace HB := hb_ hb be6g_; have NB1_2 := nl_ hg BK1; have NB2_1 := ng_ hg BK1; replace BK1 := k1_ BK1 hb; clear hb hg; have hnb1 := NB1_2.out; have hnc1 := NB2_1.out; have hcz1 := z5_ BK1) | ((with_reducible refine gc_ (f := 26) rfl ?_); refine gl_ 12 Tryz.func26 #[.agg #[.int .i64 a0_0, .bool a0_1, .slice A0_2 l0_2.length c0_2, .slice A0_3 l0_3.length c0_3, .int .i64 a0_4]] ?_; (with_reducible refine (impl_IsHouse.calls k a0_0 a0_1 _ _ l0_2 _ _ l0_3 a0_4 false _ ?side1 ?side2 ?side3 ?side4 A3.out).mono ?_); (case side1 => exact b6n8_); (case side2 => exact HC0_2.out); (case side3 => exact bkan_); (case side4 => exact HC0_3.out); rintro e w3 ⟨rfl, hb⟩; refine ⟨_, rfl, ?_⟩; replace BK1 := k1_ BK1 hb; replace BK2 := k1_ BK2 hb; replace HB := hb_ hb bfnq_; (try clear hb); have hcz2 := z5_ BK2))
  refine bodyPost_ret (results_ctt rfl _ _ gb2 32 #[.int .i64 0, .bool false, .slice none 0 0, .slice none 0 0, .int .i64 0] (0, 0) _ rfl (u1_ BK2) Tryz.underlying32 rfl bfqv_) rfl ?_
  exact ⟨_, _, bnwh_, bwfe_, bwfe_, bfnq_⟩
 subst c2
 rw [if_pos rfl] at H
 obtain ⟨⟨t2, t3, t4, t5, t6⟩, A5, H⟩ := o1_ H
 have H' := A0_ H
 clear H
 go_enter Tryz.func10, Tryz.ntmps10
 go_wp2_with (first | ((with_reducible refine gd_ (N := 2) rfl ?_); refine bx_ 2 #[.int .i64 a0_0, .bool a0_1, .slice A0_2 l0_2.length c0_2, .slice A0_3 l0_3.length c0_3, .int .i64 a0_4] 32 ?_; intro gb1 hg w1 BK1 hb; have GW1 := ge_ hg brt4_; have GE1 := GW1; replace HB := hb_ hb brt4_; clear hb hg) | ((with_reducible refine gd_ (N := 4) rfl ?_); refine bx_ 4 #[.int .i64 0, .bool false, .slice none 0 0, .slice none 0 0, .int .i64 0] 32 ?_; intro gb2 hg w2 BK2 hb; have GW2 := ge_ hg be6g_; have GE2 := GW2; replace HB := hb_ hb be6g_; have NB1_2 := nl_ hg BK1; have NB2_1 := ng_ hg BK1; replace BK1 := k1_ BK1 hb; clear hb hg; have hnb1 := NB1_2.out; have hnc1 := NB2_1.out; have hcz1 := z5_ BK1) | ((with_reducible refine gc_ (f := 26) rfl ?_); refine gl_ 12 Tryz.func26 #[.agg #[.int .i64 a0_0, .bool a0_1, .slice A0_2 l0_2.length c0_2, .slice A0_3 l0_3.length c0_3, .int .i64 a0_4]] ?_; (with_reducible refine (impl_IsHouse.calls k a0_0 a0_1 _ _ l0_2 _ _ l0_3 a0_4 true _ ?side1 ?side2 ?side3 ?side4 A3.out).mono ?_); (case side1 => exact b6n8_); (case side2 => exact HC0_2.out); (case side3 => exact bkan_); (case side4 => exact HC0_3.out); rintro e w3 ⟨rfl, hb⟩; refine ⟨_, rfl, ?_⟩; replace BK1 := k1_ BK1 hb; replace BK2 := k1_ BK2 hb; replace HB := hb_ hb bfnq_; (try clear hb); have hcz2 := z5_ BK1) | ((with_reducible refine gc_ (f := 38) rfl ?_); refine gl_ 16 Tryz.func38 #[.agg #[.int .i64 a0_0, .bool a0_1, .slice A0_2 l0_2.length c0_2, .slice A0_3 l0_3.length c0_3, .int .i64 a0_4]] ?_; (with_reducible refine (impl_House_own.calls a0_0 a0_1 _ _ l0_2 _ _ l0_3 a0_4 t2 t3 t4 t5 t6 _ ?side1 ?side2 ?side3 ?side4 A5.out).mono ?_); (case side1 => exact b6n8_); (case side2 => exact HC0_2.out); (case side3 => exact bkan_); (case side4 => exact HC0_3.out); rintro e w4 ⟨v1, v4, rfl, ho0, ho1, hb⟩; refine ⟨_, rfl, ?_⟩; have HO1 := A0_ (Kd.R_lower ho0 (bz_ bfnq_)); have HO2 := A0_ (Kd.R_lower ho1 (bz_ bfnq_)); replace BK1 := k1_ BK1 hb; replace BK2 := k1_ BK2 hb; replace HB := hb_ hb bfnq_; (try clear hb); (try clear ho0); (try clear ho1); have hcz3 := z5_ BK1; obtain ⟨Ao1, co1, eo1⟩ := Kd.R_slice HO1.out; subst eo1; obtain ⟨Ao2, co2, eo2⟩ := Kd.R_slice HO2.out; subst eo2))
 go_loopg [19] k (fun kq v5 w' => ∃ (x19_1 : Int) (x504000_1 : Int) (x504001_1 : Bool) (x504002_1 : List Int) (x504003_1 : List Int) (x504004_1 : Int) (x505000_1 : Int) (x505001_1 : Bool) (x505004_1 : Int) (u504002 : Value) (u504003 : Value), v5 = .int .i64 x19_1 ∧ Aside0 (impl_DoWorks.l0 kq l1 l1 (l1.length : Int) x19_1 x504000_1 x504001_1 x504002_1 x504003_1 x504004_1 = some (r1, r2, r3, r4, r5, r6, r7)) ∧ Aside0 (kq ≤ k) ∧ Aside0 (Kd.R (Kd.int .i64) 3 w' w.heap.size (fun k_ => no_ u504003 k_) u504002 x504002_1) ∧ Aside0 (Kd.R (Kd.int .i64) 3 w' w.heap.size (fun k_ => no_ u504002 k_) u504003 x504003_1) ∧ Aside0 (w'.heap[gb1]? = some (.cells #[.int .i64 x504000_1, .bool x504001_1, u504002, u504003, .int .i64 x504004_1] 32 (0, 0))) ∧ Aside0 (w'.heap[gb2]? = some (.cells #[.int .i64 x505000_1, .bool x505001_1, (.slice none 0 0), (.slice none 0 0), .int .i64 x505004_1] 32 (0, 0))) ∧ Aside0 (Below w.heap.size w w'))
 case atStart => exact ⟨(0), (t2), (t3), (t4), (t5), (t6), (0), (false), (0), (.slice Ao1 t4.length co1), (.slice Ao2 t5.length co2), b2ew_, H', ⟨Nat.le_refl _⟩, ⟨by (with_reducible repeat (first | apply ra_ | apply rn_ | apply rd_)); exact Kd.R_mono (rf_ (rf_ (rf_ (rf_ (rf_ (Kd.R_types HO1.out BK1.out bi3y_) k2_0 _) k2_0 _) k2_0 _) k2_0 _) k2_0 _) (fun _ hk => hk.1)⟩, ⟨by (with_reducible repeat (first | apply ra_ | apply rn_ | apply rd_)); exact Kd.R_mono (rf_ (rf_ (rf_ (rf_ (rf_ (Kd.R_types HO2.out BK1.out bi3y_) k2_0 _) k2_0 _) k2_0 _) k2_0 _) k2_0 _) (fun _ hk => hk.1)⟩, ⟨u1_ BK1⟩, ⟨u1_ BK2⟩, ⟨bfnq_⟩⟩
 clear H'
 try clear c1
 try clear c2
 (try clear hcz2); (try clear hcz3); (try clear hcz1); (try clear hfz2); (try clear hfz3); (try clear hfz1)
 obtain ⟨x19_1, x504000_1, x504001_1, x504002_1, x504003_1, x504004_1, x505000_1, x505001_1, x505004_1, u504002, u504003, rfl, HA, HK1, HO_1, HO_2, BK1, BK2, HB⟩ := hrel
 cases gk with | zero => exact absurd HA.out (by simp [impl_DoWorks.l0]) | succ k1 => ?_
 have H := HA.out
 clear HA
 simp only [impl_DoWorks.l0] at H
 by_cases c3 : x19_1 < (l1.length : Int)
 case neg =>
  rw [if_neg c3] at H
  have c3b0 : decide (x19_1 < (l1.length : Int)) = false := decide_eq_false c3
  clear c3
  simp only [sj_, pj_] at H
  obtain ⟨rfl, rfl, rfl, rfl, rfl, rfl, rfl⟩ := H
  have hnb2 := NB1_2.out
  have hnc2 := NB2_1.out
  have hcz4 := z5_ BK1
  have hcz5 := z5_ BK2
  obtain ⟨Ao3, co3, eo3⟩ := Kd.R_slice HO_1.out
  subst eo3
  obtain ⟨Ao4, co4, eo4⟩ := Kd.R_slice HO_2.out
  subst eo4
  go_wp2
  refine bodyPost_ret (results_ctt rfl _ _ gb2 32 #[.int .i64 x504000_1, .bool x504001_1, .slice Ao3 x504002_1.length co3, .slice Ao4 x504003_1.length co4, .int .i64 x504004_1] (0, 0) _ rfl (u1_ BK2) Tryz.underlying32 rfl bfqv_) rfl ?_
  exact ⟨_, _, bnwh_, bula_, bd5x_, bfnq_⟩
 rw [if_pos c3] at H
 have c3b0 : decide (x19_1 < (l1.length : Int)) = true := dt_ c3
 clear c3
 by_cases c4 : 0 ≤ x19_1
 case neg =>
  rw [if_neg c4] at H
  exact absurd H bxka_
 rw [if_pos c4] at H
 have c4b0 : decide (0 ≤ x19_1) = true := dt_ c4
 clear c4
 by_cases c5 : x19_1 < (l1.length : Int)
 case neg =>
  rw [if_neg c5] at H
  exact absurd H bxka_
 rw [if_pos c5] at H
 have c5b0 : decide (x19_1 < (l1.length : Int)) = true := dt_ c5
 clear c5
 obtain ⟨⟨t7, t8, t9, t10, t11, t12⟩, A7, H⟩ := o1_ H
 by_cases c6 : t12 = true
 ·subst c6
  rw [if_pos rfl] at H
  have H' := A0_ H
  clear H
  have p1 : 0 ≤ (x19_1 : Int) := od_ bpil_
  have q1 : x19_1 < (l1.length : Int) := od_ bpil_
  obtain ⟨ad1, e1, hx1_0, hx1_1, hx1_2⟩ := at_T50 HR1.out x19_1 p1 q1
  cases e1
  replace hx1_0 := (HB.out.cell (World.block_lt_of_cell? w _ hx1_0)).trans hx1_0
  replace hx1_1 := (HB.out.cell (World.block_lt_of_cell? w _ hx1_1)).trans hx1_1
  replace hx1_2 := (HB.out.cell (World.block_lt_of_cell? w _ hx1_2)).trans hx1_2
  replace p1 := eq_true p1
  replace q1 := eq_true q1
  go_wp2_with (first | ((with_reducible refine gd_ (N := 8) rfl ?_); refine bx_ 8 #[.int .i64 0, .int .i64 0, .int .i64 0] 50 ?_; intro gb3 hg w5 BK3 hb; replace HO_1 := A0_ (Kd.R_below bwik_ hb); replace HO_2 := A0_ (Kd.R_below b7sq_ hb); have GW3 := ge_ hg bfnq_; have GE3 := GW3; replace HB := hb_ hb bfnq_; have NB1_3 := nl_ hg BK1; have NB3_1 := ng_ hg BK1; replace BK1 := k1_ BK1 hb; have NB2_3 := nl_ hg BK2; have NB3_2 := ng_ hg BK2; replace BK2 := k1_ BK2 hb; clear hb hg; have hnb2 := NB3_1.out; have hnc2 := NB1_3.out; have hnb3 := NB3_2.out; have hnc3 := NB2_3.out; have hcz4 := z3_ BK3; have hnb4 := NB1_2.out; have hnc4 := NB2_1.out; have hcz5_0 : w5.cell? ⟨gb1, 0, none⟩ = some (.int .i64 x504000_1) := (kc_ BK1.out 0).trans rfl; have hcz5_1 : w5.cell? ⟨gb1, 1, none⟩ = some (.bool x504001_1) := (kc_ BK1.out 1).trans rfl; have hcz5_2 : w5.cell? ⟨gb1, 2, none⟩ = some (u504002) := (kc_ BK1.out 2).trans rfl; have hcz5_3 : w5.cell? ⟨gb1, 3, none⟩ = some (u504003) := (kc_ BK1.out 3).trans rfl; have hcz5_4 : w5.cell? ⟨gb1, 4, none⟩ = some (.int .i64 x504004_1) := (kc_ BK1.out 4).trans rfl; have hfz5_0 := kf_ BK1.out 0; have hfz5_1 := kf_ BK1.out 1; have hfz5_2 := kf_ BK1.out 2; have hfz5_3 := kf_ BK1.out 3; have hfz5_4 := kf_ BK1.out 4; obtain ⟨Ao3, co3, eo3⟩ := Kd.R_slice HO_1.out; subst eo3; obtain ⟨Ao4, co4, eo4⟩ := Kd.R_slice HO_2.out; subst eo4) | ((with_reducible refine gc_ (f := 22) rfl ?_); refine gl_ 27 Tryz.func22 #[.agg #[.int .i64 x504000_1, .bool x504001_1, .slice Ao3 x504002_1.length co3, .slice Ao4 x504003_1.length co4, .int .i64 x504004_1], .agg #[.int .i64 ((rd_T50 l1 x19_1).f0), .int .i64 ((rd_T50 l1 x19_1).f1), .int .i64 ((rd_T50 l1 x19_1).f2)]] ?_; (with_reducible refine (impl_DoWork.calls k1 x504000_1 x504001_1 _ _ x504002_1 _ _ x504003_1 x504004_1 ((rd_T50 l1 x19_1).f0) ((rd_T50 l1 x19_1).f1) ((rd_T50 l1 x19_1).f2) t7 t8 t9 t10 t11 true _ ?side1 ?side2 ?side3 ?side4 bj0j_ A7.out).mono ?_); (case side1 => refine (rr_ (e := 3) (base := w.heap.size) (ok := fun k_ => no_ (.slice Ao4 x504003_1.length co4) k_) (n := x504002_1.length) (c := co3) ?_).2.2; exact bjw4_); (case side2 => exact (rr_ HO_1.out).2.1); (case side3 => refine (rr_ (e := 3) (base := w.heap.size) (ok := fun k_ => no_ (.slice Ao3 x504002_1.length co3) k_) (n := x504003_1.length) (c := co4) ?_).2.2; exact bfyw_); (case side4 => exact (rr_ HO_2.out).2.1); rintro e w6 ⟨v6, v7, rfl, ho0, ho1, hb⟩; refine ⟨_, rfl, ?_⟩; have HO3 := A0_ (Kd.R_lower (Kd.R_new' (Kd.R_new' ho0 (Kd.R_lt bjw4_)) (Kd.R_lt bfyw_)) (bz_ b850_)); have HO4 := A0_ (Kd.R_lower (Kd.R_new' (Kd.R_new' ho1 (Kd.R_lt bjw4_)) (Kd.R_lt bfyw_)) (bz_ b850_)); replace HO_1 := A0_ (Kd.R_mono (Kd.R_told (Kd.R_told (Kd.R_old bjw4_ hb) (Kd.R_base ho0)) (Kd.R_base ho1)) (fun _ h_ => h_.1)); replace HO_2 := A0_ (Kd.R_mono (Kd.R_told (Kd.R_told (Kd.R_old bfyw_ hb) (Kd.R_base ho0)) (Kd.R_base ho1)) (fun _ h_ => h_.1)); replace BK1 := k1_ BK1 hb; replace BK2 := k1_ BK2 hb; replace BK3 := k2_ (.cells #[.int .i64 ((rd_T50 l1 x19_1).f0), .int .i64 ((rd_T50 l1 x19_1).f1), .int .i64 ((rd_T50 l1 x19_1).f2)] 50 (0, 0)) BK3 hb; replace HB := hb_ hb b850_; (try clear hb); (try clear ho0); (try clear ho1)) | ((with_reducible refine gd_ (N := 9) rfl ?_); refine bx_ 9 #[.int .i64 0, .bool false, .slice none 0 0, .slice none 0 0, .int .i64 0] 32 ?_; intro gb4 hg w7 BK4 hb; replace HO_1 := A0_ (Kd.R_below bwik_ hb); replace HO_2 := A0_ (Kd.R_below b7sq_ hb); replace HO3 := A0_ (Kd.R_below buiy_ hb); replace HO4 := A0_ (Kd.R_below b6ip_ hb); have GW4 := ge_ hg b850_; have GE4 := GW4; replace HB := hb_ hb b850_; have NB1_4 := nl_ hg BK1; have NB4_1 := ng_ hg BK1; replace BK1 := k1_ BK1 hb; have NB2_4 := nl_ hg BK2; have NB4_2 := ng_ hg BK2; replace BK2 := k1_ BK2 hb; have NB3_4 := nl_ hg BK3; have NB4_3 := ng_ hg BK3; replace BK3 := k1_ BK3 hb; clear hb hg; have hnb5 := NB4_1.out; have hnc5 := NB1_4.out; have hnb6 := NB4_2.out; have hnc6 := NB2_4.out; have hnb7 := NB4_3.out; have hnc7 := NB3_4.out; have hcz6 := z5_ BK4; obtain ⟨Ao5, co5, eo5⟩ := Kd.R_slice HO3.out; subst eo5; obtain ⟨Ao6, co6, eo6⟩ := Kd.R_slice HO4.out; subst eo6; have hcz7_0 : w7.cell? ⟨gb1, 0, none⟩ = some (.int .i64 x504000_1) := (kc_ BK1.out 0).trans rfl; have hcz7_1 : w7.cell? ⟨gb1, 1, none⟩ = some (.bool x504001_1) := (kc_ BK1.out 1).trans rfl; have hcz7_2 : w7.cell? ⟨gb1, 2, none⟩ = some (.slice Ao3 x504002_1.length co3) := (kc_ BK1.out 2).trans rfl; have hcz7_3 : w7.cell? ⟨gb1, 3, none⟩ = some (.slice Ao4 x504003_1.length co4) := (kc_ BK1.out 3).trans rfl; have hcz7_4 : w7.cell? ⟨gb1, 4, none⟩ = some (.int .i64 x504004_1) := (kc_ BK1.out 4).trans rfl; have hfz7_0 := kf_ BK1.out 0; have hfz7_1 := kf_ BK1.out 1; have hfz7_2 := kf_ BK1.out 2; have hfz7_3 := kf_ BK1.out 3; have hfz7_4 := kf_ BK1.out 4))
  go_roundg k1
  case measure => have := HK1.out; omega
  exact ⟨(wrap64 (x19_1 + 1)), (t7), (t8), (t9), (t10), (t11), (x505000_1), (x505001_1), (x505004_1), (.slice Ao5 t9.length co5), (.slice Ao6 t10.length co6), b2ew_, H', ⟨bxjq_⟩, ⟨by (with_reducible repeat (first | apply ra_ | apply rn_ | apply rd_)); exact Kd.R_mono (rf_ (rf_ (rf_ (rf_ (rf_ (rf_ (rf_ (rf_ (rf_ (rf_ (Kd.R_types (Kd.R_types HO3.out BK4.out bi3y_) BK1.out bi3y_) (fun _ hk => hk.1.2) (.int .i64 t7)) (fun _ hk => hk.1.2) (.bool t8)) (fun _ hk => hk.1.2) (.slice Ao5 t9.length co5)) (fun _ hk => hk.1.2) (.slice Ao6 t10.length co6)) (fun _ hk => hk.1.2) (.int .i64 t11)) k2_0 _) k2_0 _) k2_0 _) k2_0 _) k2_0 _) (fun _ hk => hk.1.1.1.1)⟩, ⟨by (with_reducible repeat (first | apply ra_ | apply rn_ | apply rd_)); exact Kd.R_mono (rf_ (rf_ (rf_ (rf_ (rf_ (rf_ (rf_ (rf_ (rf_ (rf_ (Kd.R_types (Kd.R_types HO4.out BK4.out bi3y_) BK1.out bi3y_) (fun _ hk => hk.1.2) (.int .i64 t7)) (fun _ hk => hk.1.2) (.bool t8)) (fun _ hk => hk.1.2) (.slice Ao5 t9.length co5)) (fun _ hk => hk.1.2) (.slice Ao6 t10.length co6)) (fun _ hk => hk.1.2) (.int .i64 t11)) k2_0 _) k2_0 _) k2_0 _) k2_0 _) k2_0 _) (fun _ hk => hk.1.1.1.1)⟩, ⟨u1_ BK1⟩, ⟨u1_ BK2⟩, ⟨b2i7_⟩⟩
 obtain rfl := bf_.mpr c6
 rw [if_neg ft_] at H
 simp only [sj_, pj_] at H
 obtain ⟨rfl, rfl, rfl, rfl, rfl, rfl, rfl⟩ := H
 have p1 : 0 ≤ (x19_1 : Int) := od_ bpil_
 have q1 : x19_1 < (l1.length : Int) := od_ bpil_
 obtain ⟨ad1, e1, hx1_0, hx1_1, hx1_2⟩ := at_T50 HR1.out x19_1 p1 q1
 cases e1
 replace hx1_0 := (HB.out.cell (World.block_lt_of_cell? w _ hx1_0)).trans hx1_0
 replace hx1_1 := (HB.out.cell (World.block_lt_of_cell? w _ hx1_1)).trans hx1_1
 replace hx1_2 := (HB.out.cell (World.block_lt_of_cell? w _ hx1_2)).trans hx1_2
 replace p1 := eq_true p1
 replace q1 := eq_true q1
 go_wp2_with (first | ((with_reducible refine gd_ (N := 8) rfl ?_); refine bx_ 8 #[.int .i64 0, .int .i64 0, .int .i64 0] 50 ?_; intro gb3 hg w5 BK3 hb; replace HO_1 := A0_ (Kd.R_below bwik_ hb); replace HO_2 := A0_ (Kd.R_below b7sq_ hb); have GW3 := ge_ hg bfnq_; have GE3 := GW3; replace HB := hb_ hb bfnq_; have NB1_3 := nl_ hg BK1; have NB3_1 := ng_ hg BK1; replace BK1 := k1_ BK1 hb; have NB2_3 := nl_ hg BK2; have NB3_2 := ng_ hg BK2; replace BK2 := k1_ BK2 hb; clear hb hg; have hnb2 := NB3_1.out; have hnc2 := NB1_3.out; have hnb3 := NB3_2.out; have hnc3 := NB2_3.out; have hcz4 := z3_ BK3; have hnb4 := NB1_2.out; have hnc4 := NB2_1.out; have hcz5_0 : w5.cell? ⟨gb1, 0, none⟩ = some (.int .i64 x504000_1) := (kc_ BK1.out 0).trans rfl; have hcz5_1 : w5.cell? ⟨gb1, 1, none⟩ = some (.bool x504001_1) := (kc_ BK1.out 1).trans rfl; have hcz5_2 : w5.cell? ⟨gb1, 2, none⟩ = some (u504002) := (kc_ BK1.out 2).trans rfl; have hcz5_3 : w5.cell? ⟨gb1, 3, none⟩ = some (u504003) := (kc_ BK1.out 3).trans rfl; have hcz5_4 : w5.cell? ⟨gb1, 4, none⟩ = some (.int .i64 x504004_1) := (kc_ BK1.out 4).trans rfl; have hfz5_0 := kf_ BK1.out 0; have hfz5_1 := kf_ BK1.out 1; have hfz5_2 := kf_ BK1.out 2; have hfz5_3 := kf_ BK1.out 3; have hfz5_4 := kf_ BK1.out 4; obtain ⟨Ao3, co3, eo3⟩ := Kd.R_slice HO_1.out; subst eo3; obtain ⟨Ao4, co4, eo4⟩ := Kd.R_slice HO_2.out; subst eo4) | ((with_reducible refine gc_ (f := 22) rfl ?_); refine gl_ 27 Tryz.func22 #[.agg #[.int .i64 x504000_1, .bool x504001_1, .slice Ao3 x504002_1.length co3, .slice Ao4 x504003_1.length co4, .int .i64 x504004_1], .agg #[.int .i64 ((rd_T50 l1 x19_1).f0), .int .i64 ((rd_T50 l1 x19_1).f1), .int .i64 ((rd_T50 l1 x19_1).f2)]] ?_; (with_reducible refine (impl_DoWork.calls k1 x504000_1 x504001_1 _ _ x504002_1 _ _ x504003_1 x504004_1 ((rd_T50 l1 x19_1).f0) ((rd_T50 l1 x19_1).f1) ((rd_T50 l1 x19_1).f2) t7 t8 t9 t10 t11 false _ ?side1 ?side2 ?side3 ?side4 bj0j_ A7.out).mono ?_); (case side1 => refine (rr_ (e := 3) (base := w.heap.size) (ok := fun k_ => no_ (.slice Ao4 x504003_1.length co4) k_) (n := x504002_1.length) (c := co3) ?_).2.2; exact bjw4_); (case side2 => exact (rr_ HO_1.out).2.1); (case side3 => refine (rr_ (e := 3) (base := w.heap.size) (ok := fun k_ => no_ (.slice Ao3 x504002_1.length co3) k_) (n := x504003_1.length) (c := co4) ?_).2.2; exact bfyw_); (case side4 => exact (rr_ HO_2.out).2.1); rintro e w6 ⟨v6, v7, rfl, ho0, ho1, hb⟩; refine ⟨_, rfl, ?_⟩; have HO3 := A0_ (Kd.R_lower (Kd.R_new' (Kd.R_new' ho0 (Kd.R_lt bjw4_)) (Kd.R_lt bfyw_)) (bz_ b850_)); have HO4 := A0_ (Kd.R_lower (Kd.R_new' (Kd.R_new' ho1 (Kd.R_lt bjw4_)) (Kd.R_lt bfyw_)) (bz_ b850_)); replace HO_1 := A0_ (Kd.R_mono (Kd.R_told (Kd.R_told (Kd.R_old bjw4_ hb) (Kd.R_base ho0)) (Kd.R_base ho1)) (fun _ h_ => h_.1)); replace HO_2 := A0_ (Kd.R_mono (Kd.R_told (Kd.R_told (Kd.R_old bfyw_ hb) (Kd.R_base ho0)) (Kd.R_base ho1)) (fun _ h_ => h_.1)); replace BK1 := k1_ BK1 hb; replace BK2 := k1_ BK2 hb; replace BK3 := k2_ (.cells #[.int .i64 ((rd_T50 l1 x19_1).f0), .int .i64 ((rd_T50 l1 x19_1).f1), .int .i64 ((rd_T50 l1 x19_1).f2)] 50 (0, 0)) BK3 hb; replace HB := hb_ hb b850_; (try clear hb); (try clear ho0); (try clear ho1)) | ((with_reducible refine gd_ (N := 9) rfl ?_); refine bx_ 9 #[.int .i64 0, .bool false, .slice none 0 0, .slice none 0 0, .int .i64 0] 32 ?_; intro gb4 hg w7 BK4 hb; replace HO_1 := A0_ (Kd.R_below bwik_ hb); replace HO_2 := A0_ (Kd.R_below b7sq_ hb); replace HO3 := A0_ (Kd.R_below buiy_ hb); replace HO4 := A0_ (Kd.R_below b6ip_ hb); have GW4 := ge_ hg b850_; have GE4 := GW4; replace HB := hb_ hb b850_; have NB1_4 := nl_ hg BK1; have NB4_1 := ng_ hg BK1; replace BK1 := k1_ BK1 hb; have NB2_4 := nl_ hg BK2; have NB4_2 := ng_ hg BK2; replace BK2 := k1_ BK2 hb; have NB3_4 := nl_ hg BK3; have NB4_3 := ng_ hg BK3; replace BK3 := k1_ BK3 hb; clear hb hg; have hnb5 := NB4_1.out; have hnc5 := NB1_4.out; have hnb6 := NB4_2.out; have hnc6 := NB2_4.out; have hnb7 := NB4_3.out; have hnc7 := NB3_4.out; have hcz6 := z5_ BK4; obtain ⟨Ao5, co5, eo5⟩ := Kd.R_slice HO3.out; subst eo5; obtain ⟨Ao6, co6, eo6⟩ := Kd.R_slice HO4.out; subst eo6; have hcz7_0 : w7.cell? ⟨gb1, 0, none⟩ = some (.int .i64 x504000_1) := (kc_ BK1.out 0).trans rfl; have hcz7_1 : w7.cell? ⟨gb1, 1, none⟩ = some (.bool x504001_1) := (kc_ BK1.out 1).trans rfl; have hcz7_2 : w7.cell? ⟨gb1, 2, none⟩ = some (.slice Ao3 x504002_1.length co3) := (kc_ BK1.out 2).trans rfl; have hcz7_3 : w7.cell? ⟨gb1, 3, none⟩ = some (.slice Ao4 x504003_1.length co4) := (kc_ BK1.out 3).trans rfl; have hcz7_4 : w7.cell? ⟨gb1, 4, none⟩ = some (.int .i64 x504004_1) := (kc_ BK1.out 4).trans rfl; have hfz7_0 := kf_ BK1.out 0; have hfz7_1 := kf_ BK1.out 1; have hfz7_2 := kf_ BK1.out 2; have hfz7_3 := kf_ BK1.out 3; have hfz7_4 := kf_ BK1.out 4; have hcz8_0 : w7.cell? ⟨gb2, 0, none⟩ = some (.int .i64 x505000_1) := (kc_ BK2.out 0).trans rfl; have hcz8_1 : w7.cell? ⟨gb2, 1, none⟩ = some (.bool x505001_1) := (kc_ BK2.out 1).trans rfl; have hcz8_2 : w7.cell? ⟨gb2, 2, none⟩ = some (.slice none 0 0) := (kc_ BK2.out 2).trans rfl; have hcz8_3 : w7.cell? ⟨gb2, 3, none⟩ = some (.slice none 0 0) := (kc_ BK2.out 3).trans rfl; have hcz8_4 : w7.cell? ⟨gb2, 4, none⟩ = some (.int .i64 x505004_1) := (kc_ BK2.out 4).trans rfl; have hfz8_0 := kf_ BK2.out 0; have hfz8_1 := kf_ BK2.out 1; have hfz8_2 := kf_ BK2.out 2; have hfz8_3 := kf_ BK2.out 3; have hfz8_4 := kf_ BK2.out 4))
 refine bodyPost_ret (results_ctt rfl _ _ gb2 32 #[.int .i64 x504000_1, .bool x504001_1, .slice Ao3 x504002_1.length co3, .slice Ao4 x504003_1.length co4, .int .i64 x504004_1] (0, 0) _ rfl (u1_ BK2) Tryz.underlying32 rfl bfqv_) rfl ?_
 exact ⟨_, _, bnwh_, by (with_reducible repeat (first | apply ra_ | apply rn_ | apply rd_)); exact Kd.R_mono (rf_ (rf_ (rf_ (rf_ (rf_ (rf_ (rf_ (rf_ (rf_ (rf_ (Kd.R_types (Kd.R_types HO_1.out BK4.out bi3y_) BK2.out bi3y_) (fun _ hk => hk.1.2) (.int .i64 t7)) (fun _ hk => hk.1.2) (.bool t8)) (fun _ hk => hk.1.2) (.slice Ao5 t9.length co5)) (fun _ hk => hk.1.2) (.slice Ao6 t10.length co6)) (fun _ hk => hk.1.2) (.int .i64 t11)) k2_0 _) k2_0 _) k2_0 _) k2_0 _) k2_0 _) (fun _ hk => hk.1.1.1.1), by (with_reducible repeat (first | apply ra_ | apply rn_ | apply rd_)); exact Kd.R_mono (rf_ (rf_ (rf_ (rf_ (rf_ (rf_ (rf_ (rf_ (rf_ (rf_ (Kd.R_types (Kd.R_types HO_2.out BK4.out bi3y_) BK2.out bi3y_) (fun _ hk => hk.1.2) (.int .i64 t7)) (fun _ hk => hk.1.2) (.bool t8)) (fun _ hk => hk.1.2) (.slice Ao5 t9.length co5)) (fun _ hk => hk.1.2) (.slice Ao6 t10.length co6)) (fun _ hk => hk.1.2) (.int .i64 t11)) k2_0 _) k2_0 _) k2_0 _) k2_0 _) k2_0 _) (fun _ hk => hk.1.1.1.1), b2i7_⟩

def laws_eqIntS.l0 : Nat → List Int → List Int → Int → Option (Bool)
 | 0, _, _, _ => none
 | k + 1, x0, x1, x5 => if x5 < (x0.length : Int) then (if 0 ≤ x5 then (if x5 < (x1.length : Int) then (if (rd x0 x5) = (rd x1 x5) then (laws_eqIntS.l0 k x0 x1 (wrap64 (x5 + 1))) else (some false)) else (none)) else (none)) else (some true)
def laws_eqIntS.f (k : Nat) (l0 : List Int) (l1 : List Int) : Option (Bool) := if (l0.length : Int) = (l1.length : Int) then (laws_eqIntS.l0 k l0 l1 0) else (some false)
theorem laws_eqIntS.mono_l : ∀ k, (∀ y0 y1 y2, LeO (laws_eqIntS.l0 k y0 y1 y2) (laws_eqIntS.l0 (k + 1) y0 y1 y2))
 | 0 => fun _ _ _ r h => by simp [laws_eqIntS.l0] at h
 | k + 1 => by
  have ih0 := laws_eqIntS.mono_l k
  ·intro y0 y1 y2
   unfold laws_eqIntS.l0
   repeat' with_reducible first | exact ih0 .. | exact LeO.refl .. | exact LeO.none .. | refine LeO.ite ?_ ?_ | refine LeO.bind ?_ (fun _ => ?_)
theorem laws_eqIntS.mono : ∀ a0 a1 k, LeO (laws_eqIntS.f k a0 a1) (laws_eqIntS.f (k + 1) a0 a1) := by
 intro a0 a1 k
 have ih0 := laws_eqIntS.mono_l k
 unfold laws_eqIntS.f
 repeat' with_reducible first | exact ih0 .. | exact LeO.refl .. | exact LeO.none .. | refine LeO.ite ?_ ?_ | refine LeO.bind ?_ (fun _ => ?_)
theorem laws_eqIntS.calls (k : Nat) (A0 : Option Addr) (c0 : Nat) (l0 : List Int) (A1 : Option Addr) (c1 : Nat) (l1 : List Int) (r : Bool) (w : World) (hr0 : Kd.C (Kd.int .i64) w A0 l0.length l0) (hc0 : l0.length ≤ c0) (hr1 : Kd.C (Kd.int .i64) w A1 l1.length l1) (hc1 : l1.length ≤ c1) (h : laws_eqIntS.f k l0 l1 = some r) :
  Calls Tryz.prog 40 #[.slice A0 l0.length c0, .slice A1 l1.length c1] w fun e w' => e = .returned (.bool r) ∧ Drawn0 w w' := by
 have HR0 := A0_ hr0
 have HC0 := A0_ hc0
 clear hr0 hc0
 have HR1 := A0_ hr1
 have HC1 := A0_ hc1
 clear hr1 hc1
 have H : (if (l0.length : Int) = (l1.length : Int) then (laws_eqIntS.l0 k l0 l1 0) else (some false)) = some r := h
 clear h
 by_cases c2 : (l0.length : Int) = (l1.length : Int)
 case neg =>
  rw [if_neg c2] at H
  obtain ⟨c2b0, c2b1⟩ := ef_ c2
  have c2b2 : (l0.length == l1.length) = false := bds5_
  obtain rfl := si_ H
  go_enter Tryz.func40, Tryz.ntmps40
  go_wp2
  repeat (go_quiet (fail); try go_wp2)
  go_ret
  exact ⟨b04z_, boaj_⟩
 rw [if_pos c2] at H
 obtain ⟨c2b0, c2b1⟩ := et_ c2
 have c2b2 : (l0.length == l1.length) = true := bds5_
 clear c2
 have H' := A0_ H
 clear H
 go_enter Tryz.func40, Tryz.ntmps40
 go_wp2
 repeat (go_quiet (fail); try go_wp2)
 go_loopg [5] k (fun kq v1 w' => ∃ (x5_1 : Int), v1 = .int .i64 x5_1 ∧ Aside0 (laws_eqIntS.l0 kq l0 l1 x5_1 = some r) ∧ Aside0 (kq ≤ k) ∧ Drawn0 w w')
 case atStart => exact ⟨(0), b2ew_, H', ⟨Nat.le_refl _⟩, boaj_⟩
 clear H'
 try clear c1
 try clear c2
 try clear c2b0
 try clear c2b1
 try clear c2b2
 obtain ⟨x5_1, rfl, HA, HK1, ⟨m1, rfl⟩⟩ := hrel
 cases gk with | zero => exact absurd HA.out (by simp [laws_eqIntS.l0]) | succ k1 => ?_
 have H := HA.out
 clear HA
 simp only [laws_eqIntS.l0] at H
 by_cases c3 : x5_1 < (l0.length : Int)
 case neg =>
  rw [if_neg c3] at H
  have c3b0 : decide (x5_1 < (l0.length : Int)) = false := decide_eq_false c3
  clear c3
  obtain rfl := si_ H
  go_wp2
  repeat (go_quiet (fail); try go_wp2)
  go_ret
  exact ⟨b04z_, boaj_⟩
 rw [if_pos c3] at H
 have c3b0 : decide (x5_1 < (l0.length : Int)) = true := dt_ c3
 clear c3
 by_cases c4 : 0 ≤ x5_1
 case neg =>
  rw [if_neg c4] at H
  exact absurd H bxka_
 rw [if_pos c4] at H
 have c4b0 : decide (0 ≤ x5_1) = true := dt_ c4
 clear c4
 by_cases c5 : x5_1 < (l1.length : Int)
 case neg =>
  rw [if_neg c5] at H
  exact absurd H bxka_
 rw [if_pos c5] at H
 have c5b0 : decide (x5_1 < (l1.length : Int)) = true := dt_ c5
 clear c5
 by_cases c6 : (rd l0 x5_1) = (rd l1 x5_1)
 case neg =>
  rw [if_neg c6] at H
  obtain ⟨c6b0, c6b1⟩ := ef_ c6
  obtain rfl := si_ H
  have p1 : 0 ≤ (x5_1 : Int) := od_ bpil_
  have q1 : x5_1 < (l0.length : Int) := od_ bpil_
  obtain ⟨ad1, e1, hx1_0⟩ := Kd.at_int HR0.out x5_1 p1 q1
  cases e1
  replace p1 := eq_true p1
  replace q1 := eq_true q1
  have p2 : 0 ≤ (x5_1 : Int) := od_ bpil_
  have q2 : x5_1 < (l1.length : Int) := od_ bpil_
  obtain ⟨ad2, e2, hx2_0⟩ := Kd.at_int HR1.out x5_1 p2 q2
  cases e2
  replace p2 := eq_true p2
  replace q2 := eq_true q2
  go_wp2
  repeat (go_quiet (fail); try go_wp2)
  go_ret
  exact ⟨b04z_, boaj_⟩
 rw [if_pos c6] at H
 obtain ⟨c6b0, c6b1⟩ := et_ c6
 clear c6
 have H' := A0_ H
 clear H
 have p1 : 0 ≤ (x5_1 : Int) := od_ bpil_
 have q1 : x5_1 < (l0.length : Int) := od_ bpil_
 obtain ⟨ad1, e1, hx1_0⟩ := Kd.at_int HR0.out x5_1 p1 q1
 cases e1
 replace p1 := eq_true p1
 replace q1 := eq_true q1
 have p2 : 0 ≤ (x5_1 : Int) := od_ bpil_
 have q2 : x5_1 < (l1.length : Int) := od_ bpil_
 obtain ⟨ad2, e2, hx2_0⟩ := Kd.at_int HR1.out x5_1 p2 q2
 cases e2
 replace p2 := eq_true p2
 replace q2 := eq_true q2
 go_wp2
 repeat (go_quiet (fail); try go_wp2)
 go_roundg k1
 case measure => have := HK1.out; omega
 exact ⟨(wrap64 (x5_1 + 1)), b2ew_, H', ⟨bxjq_⟩, boaj_⟩

def laws_eqRow.f (k : Nat) (a0_0 : Int) (a0_1 : Bool) (l0_2 : List Int) (a1_0 : Int) (a1_1 : Bool) (l1_2 : List Int) : Option (Bool) := if a0_0 = a1_0 then (if (a0_1 != a1_1) = true then (some false) else ((laws_eqIntS.f k l0_2 l1_2).bind fun t532 => (if t532 = true then (some true) else (some false)))) else (some false)
theorem laws_eqRow.mono : ∀ a0 a1 a2 a3 a4 a5 k, LeO (laws_eqRow.f k a0 a1 a2 a3 a4 a5) (laws_eqRow.f (k + 1) a0 a1 a2 a3 a4 a5) := by
 intro a0 a1 a2 a3 a4 a5 k
 unfold laws_eqRow.f
 repeat' with_reducible first | exact laws_eqIntS.mono .. | exact LeO.refl .. | exact LeO.none .. | refine LeO.ite ?_ ?_ | refine LeO.bind ?_ (fun _ => ?_)
theorem laws_eqRow.calls (k : Nat) (a0_0 : Int) (a0_1 : Bool) (A0_2 : Option Addr) (c0_2 : Nat) (l0_2 : List Int) (a1_0 : Int) (a1_1 : Bool) (A1_2 : Option Addr) (c1_2 : Nat) (l1_2 : List Int) (r : Bool) (w : World) (hr0_2 : Kd.C (Kd.int .i64) w A0_2 l0_2.length l0_2) (hc0_2 : l0_2.length ≤ c0_2) (hr1_2 : Kd.C (Kd.int .i64) w A1_2 l1_2.length l1_2) (hc1_2 : l1_2.length ≤ c1_2) (h : laws_eqRow.f k a0_0 a0_1 l0_2 a1_0 a1_1 l1_2 = some r) :
  Calls Tryz.prog 39 #[.agg #[.int .i64 a0_0, .bool a0_1, .slice A0_2 l0_2.length c0_2], .agg #[.int .i64 a1_0, .bool a1_1, .slice A1_2 l1_2.length c1_2]] w fun e w' => e = .returned (.bool r) ∧ Below w.heap.size w w' := by
 have hu30 := Tryz.underlying30
 have HR0_2 := A0_ hr0_2
 have HC0_2 := A0_ hc0_2
 clear hr0_2 hc0_2
 have HR1_2 := A0_ hr1_2
 have HC1_2 := A0_ hc1_2
 clear hr1_2 hc1_2
 have HB := A0_ (Below.refl w.heap.size w)
 have H : (if a0_0 = a1_0 then (if (a0_1 != a1_1) = true then (some false) else ((laws_eqIntS.f k l0_2 l1_2).bind fun t1 => (if t1 = true then (some true) else (some false)))) else (some false)) = some r := h
 clear h
 by_cases c2 : a0_0 = a1_0
 case neg =>
  rw [if_neg c2] at H
  obtain ⟨c2b0, c2b1⟩ := ef_ c2
  obtain rfl := si_ H
  go_enter Tryz.func39, Tryz.ntmps39
  go_wp2_with (first | ((with_reducible refine gd_ (N := 2) rfl ?_); refine bx_ 2 #[.int .i64 a0_0, .bool a0_1, .slice A0_2 l0_2.length c0_2] 30 ?_; intro gb1 hg w1 BK1 hb; have GW1 := ge_ hg brt4_; have GE1 := GW1; replace HB := hb_ hb brt4_; clear hb hg) | ((with_reducible refine gd_ (N := 3) rfl ?_); refine bx_ 3 #[.int .i64 a1_0, .bool a1_1, .slice A1_2 l1_2.length c1_2] 30 ?_; intro gb2 hg w2 BK2 hb; have GW2 := ge_ hg be6g_; have GE2 := GW2; replace HB := hb_ hb be6g_; have NB1_2 := nl_ hg BK1; have NB2_1 := ng_ hg BK1; replace BK1 := k1_ BK1 hb; clear hb hg; have hnb1 := NB1_2.out; have hnc1 := NB2_1.out; have hcz1 := c3_ BK1; have hcz2 := c3_ BK2))
  go_ret
  exact ⟨bnwh_, bfnq_⟩
 rw [if_pos c2] at H
 obtain ⟨c2b0, c2b1⟩ := et_ c2
 clear c2
 by_cases c3 : (a0_1 != a1_1) = true
 ·rw [if_pos c3] at H
  have c3b0 : (a0_1 != a1_1) = true := c3
  (try (have c3b1 : decide (a0_1 = a1_1) = false := by simpa using c3))
  (try (have c3b2 : (a0_1 == a1_1) = false := by simpa using c3))
  (try (have c3b3 : ¬ (a0_1 = a1_1) := by simpa using c3))
  clear c3
  obtain rfl := si_ H
  go_enter Tryz.func39, Tryz.ntmps39
  go_wp2_with (first | ((with_reducible refine gd_ (N := 2) rfl ?_); refine bx_ 2 #[.int .i64 a0_0, .bool a0_1, .slice A0_2 l0_2.length c0_2] 30 ?_; intro gb1 hg w1 BK1 hb; have GW1 := ge_ hg brt4_; have GE1 := GW1; replace HB := hb_ hb brt4_; clear hb hg) | ((with_reducible refine gd_ (N := 3) rfl ?_); refine bx_ 3 #[.int .i64 a1_0, .bool a1_1, .slice A1_2 l1_2.length c1_2] 30 ?_; intro gb2 hg w2 BK2 hb; have GW2 := ge_ hg be6g_; have GE2 := GW2; replace HB := hb_ hb be6g_; have NB1_2 := nl_ hg BK1; have NB2_1 := ng_ hg BK1; replace BK1 := k1_ BK1 hb; clear hb hg; have hnb1 := NB1_2.out; have hnc1 := NB2_1.out; have hcz1 := c3_ BK1; have hcz2 := c3_ BK2))
  go_ret
  exact ⟨bnwh_, bfnq_⟩
 rw [if_neg c3] at H
 have c3b0 : (a0_1 != a1_1) = false := by simpa using c3
 (try (have c3b1 : decide (a0_1 = a1_1) = true := by simpa using c3))
 (try (have c3b2 : (a0_1 == a1_1) = true := by simpa using c3))
 clear c3
 obtain ⟨t1, A3, H⟩ := o1_ H
 by_cases c4 : t1 = true
 ·subst c4
  rw [if_pos rfl] at H
  obtain rfl := si_ H
  go_enter Tryz.func39, Tryz.ntmps39
  go_wp2_with (first | ((with_reducible refine gd_ (N := 2) rfl ?_); refine bx_ 2 #[.int .i64 a0_0, .bool a0_1, .slice A0_2 l0_2.length c0_2] 30 ?_; intro gb1 hg w1 BK1 hb; have GW1 := ge_ hg brt4_; have GE1 := GW1; replace HB := hb_ hb brt4_; clear hb hg) | ((with_reducible refine gd_ (N := 3) rfl ?_); refine bx_ 3 #[.int .i64 a1_0, .bool a1_1, .slice A1_2 l1_2.length c1_2] 30 ?_; intro gb2 hg w2 BK2 hb; have GW2 := ge_ hg be6g_; have GE2 := GW2; replace HB := hb_ hb be6g_; have NB1_2 := nl_ hg BK1; have NB2_1 := ng_ hg BK1; replace BK1 := k1_ BK1 hb; clear hb hg; have hnb1 := NB1_2.out; have hnc1 := NB2_1.out; have hcz1 := c3_ BK1; have hcz2 := c3_ BK2) | ((with_reducible refine gc_ (f := 40) rfl ?_); refine gl_ 19 Tryz.func40 #[.slice A0_2 l0_2.length c0_2, .slice A1_2 l1_2.length c1_2] ?_; (with_reducible refine (laws_eqIntS.calls k _ _ l0_2 _ _ l1_2 true _ ?side1 ?side2 ?side3 ?side4 A3.out).mono ?_); (case side1 => exact b6n8_); (case side2 => exact HC0_2.out); (case side3 => exact bjp5_); (case side4 => exact HC1_2.out); rintro e w' ⟨rfl, ⟨nd, rfl⟩⟩; refine ⟨_, rfl, ?_⟩))
  go_ret
  exact ⟨bnwh_, bfnq_⟩
 obtain rfl := bf_.mpr c4
 rw [if_neg ft_] at H
 obtain rfl := si_ H
 go_enter Tryz.func39, Tryz.ntmps39
 go_wp2_with (first | ((with_reducible refine gd_ (N := 2) rfl ?_); refine bx_ 2 #[.int .i64 a0_0, .bool a0_1, .slice A0_2 l0_2.length c0_2] 30 ?_; intro gb1 hg w1 BK1 hb; have GW1 := ge_ hg brt4_; have GE1 := GW1; replace HB := hb_ hb brt4_; clear hb hg) | ((with_reducible refine gd_ (N := 3) rfl ?_); refine bx_ 3 #[.int .i64 a1_0, .bool a1_1, .slice A1_2 l1_2.length c1_2] 30 ?_; intro gb2 hg w2 BK2 hb; have GW2 := ge_ hg be6g_; have GE2 := GW2; replace HB := hb_ hb be6g_; have NB1_2 := nl_ hg BK1; have NB2_1 := ng_ hg BK1; replace BK1 := k1_ BK1 hb; clear hb hg; have hnb1 := NB1_2.out; have hnc1 := NB2_1.out; have hcz1 := c3_ BK1; have hcz2 := c3_ BK2) | ((with_reducible refine gc_ (f := 40) rfl ?_); refine gl_ 19 Tryz.func40 #[.slice A0_2 l0_2.length c0_2, .slice A1_2 l1_2.length c1_2] ?_; (with_reducible refine (laws_eqIntS.calls k _ _ l0_2 _ _ l1_2 false _ ?side1 ?side2 ?side3 ?side4 A3.out).mono ?_); (case side1 => exact b6n8_); (case side2 => exact HC0_2.out); (case side3 => exact bjp5_); (case side4 => exact HC1_2.out); rintro e w' ⟨rfl, ⟨nd, rfl⟩⟩; refine ⟨_, rfl, ?_⟩))
 go_ret
 exact ⟨bnwh_, bfnq_⟩

def laws_eqHouse.f (k : Nat) (a0_0 : Int) (a0_1 : Bool) (l0_2 : List Int) (l0_3 : List Int) (a0_4 : Int) (a1_0 : Int) (a1_1 : Bool) (l1_2 : List Int) (l1_3 : List Int) (a1_4 : Int) : Option (Bool) := (laws_eqRow.f k a0_0 a0_1 l0_2 a1_0 a1_1 l1_2).bind fun t535 => (if t535 = true then ((laws_eqIntS.f k l0_3 l1_3).bind fun t536 => (if t536 = true then (if a0_4 = a1_4 then (some true) else (some false)) else (some false))) else (some false))
theorem laws_eqHouse.mono : ∀ a0 a1 a2 a3 a4 a5 a6 a7 a8 a9 k, LeO (laws_eqHouse.f k a0 a1 a2 a3 a4 a5 a6 a7 a8 a9) (laws_eqHouse.f (k + 1) a0 a1 a2 a3 a4 a5 a6 a7 a8 a9) := by
 intro a0 a1 a2 a3 a4 a5 a6 a7 a8 a9 k
 unfold laws_eqHouse.f
 repeat' with_reducible first | exact laws_eqIntS.mono .. | exact laws_eqRow.mono .. | exact LeO.refl .. | exact LeO.none .. | refine LeO.ite ?_ ?_ | refine LeO.bind ?_ (fun _ => ?_)
theorem laws_eqHouse.calls (k : Nat) (a0_0 : Int) (a0_1 : Bool) (A0_2 : Option Addr) (c0_2 : Nat) (l0_2 : List Int) (A0_3 : Option Addr) (c0_3 : Nat) (l0_3 : List Int) (a0_4 : Int) (a1_0 : Int) (a1_1 : Bool) (A1_2 : Option Addr) (c1_2 : Nat) (l1_2 : List Int) (A1_3 : Option Addr) (c1_3 : Nat) (l1_3 : List Int) (a1_4 : Int) (r : Bool) (w : World) (hr0_2 : Kd.C (Kd.int .i64) w A0_2 l0_2.length l0_2) (hc0_2 : l0_2.length ≤ c0_2) (hr0_3 : Kd.C (Kd.int .i64) w A0_3 l0_3.length l0_3) (hc0_3 : l0_3.length ≤ c0_3) (hr1_2 : Kd.C (Kd.int .i64) w A1_2 l1_2.length l1_2) (hc1_2 : l1_2.length ≤ c1_2) (hr1_3 : Kd.C (Kd.int .i64) w A1_3 l1_3.length l1_3) (hc1_3 : l1_3.length ≤ c1_3) (h : laws_eqHouse.f k a0_0 a0_1 l0_2 l0_3 a0_4 a1_0 a1_1 l1_2 l1_3 a1_4 = some r) :
  Calls Tryz.prog 11 #[.agg #[.int .i64 a0_0, .bool a0_1, .slice A0_2 l0_2.length c0_2, .slice A0_3 l0_3.length c0_3, .int .i64 a0_4], .agg #[.int .i64 a1_0, .bool a1_1, .slice A1_2 l1_2.length c1_2, .slice A1_3 l1_3.length c1_3, .int .i64 a1_4]] w fun e w' => e = .returned (.bool r) ∧ Below w.heap.size w w' := by
 have hu32 := Tryz.underlying32
 have hu30 := Tryz.underlying30
 have HR0_2 := A0_ hr0_2
 have HC0_2 := A0_ hc0_2
 clear hr0_2 hc0_2
 have HR0_3 := A0_ hr0_3
 have HC0_3 := A0_ hc0_3
 clear hr0_3 hc0_3
 have HR1_2 := A0_ hr1_2
 have HC1_2 := A0_ hc1_2
 clear hr1_2 hc1_2
 have HR1_3 := A0_ hr1_3
 have HC1_3 := A0_ hc1_3
 clear hr1_3 hc1_3
 have HB := A0_ (Below.refl w.heap.size w)
 have H : ((laws_eqRow.f k a0_0 a0_1 l0_2 a1_0 a1_1 l1_2).bind fun t1 => (if t1 = true then ((laws_eqIntS.f k l0_3 l1_3).bind fun t2 => (if t2 = true then (if a0_4 = a1_4 then (some true) else (some false)) else (some false))) else (some false))) = some r := h
 clear h
 obtain ⟨t1, A3, H⟩ := o1_ H
 by_cases c2 : t1 = true
 case neg =>
  obtain rfl := bf_.mpr c2
  rw [if_neg ft_] at H
  obtain rfl := si_ H
  go_enter Tryz.func11, Tryz.ntmps11
  go_wp2_with (first | ((with_reducible refine gd_ (N := 2) rfl ?_); refine bx_ 2 #[.int .i64 a0_0, .bool a0_1, .slice A0_2 l0_2.length c0_2, .slice A0_3 l0_3.length c0_3, .int .i64 a0_4] 32 ?_; intro gb1 hg w1 BK1 hb; have GW1 := ge_ hg brt4_; have GE1 := GW1; replace HB := hb_ hb brt4_; clear hb hg) | ((with_reducible refine gd_ (N := 3) rfl ?_); refine bx_ 3 #[.int .i64 a1_0, .bool a1_1, .slice A1_2 l1_2.length c1_2, .slice A1_3 l1_3.length c1_3, .int .i64 a1_4] 32 ?_; intro gb2 hg w2 BK2 hb; have GW2 := ge_ hg be6g_; have GE2 := GW2; replace HB := hb_ hb be6g_; have NB1_2 := nl_ hg BK1; have NB2_1 := ng_ hg BK1; replace BK1 := k1_ BK1 hb; clear hb hg; have hnb1 := NB1_2.out; have hnc1 := NB2_1.out; have hcz1 := c5_ BK1; have hcz2 := c5_ BK2) | ((with_reducible refine gc_ (f := 39) rfl ?_); refine gl_ 9 Tryz.func39 #[.agg #[.int .i64 a0_0, .bool a0_1, .slice A0_2 l0_2.length c0_2], .agg #[.int .i64 a1_0, .bool a1_1, .slice A1_2 l1_2.length c1_2]] ?_; (with_reducible refine (laws_eqRow.calls k a0_0 a0_1 _ _ l0_2 a1_0 a1_1 _ _ l1_2 false _ ?side1 ?side2 ?side3 ?side4 A3.out).mono ?_); (case side1 => exact b6n8_); (case side2 => exact HC0_2.out); (case side3 => exact bjp5_); (case side4 => exact HC1_2.out); rintro e w3 ⟨rfl, hb⟩; refine ⟨_, rfl, ?_⟩; replace BK1 := k1_ BK1 hb; replace BK2 := k1_ BK2 hb; replace HB := hb_ hb bfnq_; (try clear hb)))
  go_ret
  exact ⟨bnwh_, bfnq_⟩
 subst c2
 rw [if_pos rfl] at H
 obtain ⟨t2, A5, H⟩ := o1_ H
 by_cases c3 : t2 = true
 case neg =>
  obtain rfl := bf_.mpr c3
  rw [if_neg ft_] at H
  obtain rfl := si_ H
  go_enter Tryz.func11, Tryz.ntmps11
  go_wp2_with (first | ((with_reducible refine gd_ (N := 2) rfl ?_); refine bx_ 2 #[.int .i64 a0_0, .bool a0_1, .slice A0_2 l0_2.length c0_2, .slice A0_3 l0_3.length c0_3, .int .i64 a0_4] 32 ?_; intro gb1 hg w1 BK1 hb; have GW1 := ge_ hg brt4_; have GE1 := GW1; replace HB := hb_ hb brt4_; clear hb hg) | ((with_reducible refine gd_ (N := 3) rfl ?_); refine bx_ 3 #[.int .i64 a1_0, .bool a1_1, .slice A1_2 l1_2.length c1_2, .slice A1_3 l1_3.length c1_3, .int .i64 a1_4] 32 ?_; intro gb2 hg w2 BK2 hb; have GW2 := ge_ hg be6g_; have GE2 := GW2; replace HB := hb_ hb be6g_; have NB1_2 := nl_ hg BK1; have NB2_1 := ng_ hg BK1; replace BK1 := k1_ BK1 hb; clear hb hg; have hnb1 := NB1_2.out; have hnc1 := NB2_1.out; have hcz1 := c5_ BK1; have hcz2 := c5_ BK2) | ((with_reducible refine gc_ (f := 39) rfl ?_); refine gl_ 9 Tryz.func39 #[.agg #[.int .i64 a0_0, .bool a0_1, .slice A0_2 l0_2.length c0_2], .agg #[.int .i64 a1_0, .bool a1_1, .slice A1_2 l1_2.length c1_2]] ?_; (with_reducible refine (laws_eqRow.calls k a0_0 a0_1 _ _ l0_2 a1_0 a1_1 _ _ l1_2 true _ ?side1 ?side2 ?side3 ?side4 A3.out).mono ?_); (case side1 => exact b6n8_); (case side2 => exact HC0_2.out); (case side3 => exact bjp5_); (case side4 => exact HC1_2.out); rintro e w3 ⟨rfl, hb⟩; refine ⟨_, rfl, ?_⟩; replace BK1 := k1_ BK1 hb; replace BK2 := k1_ BK2 hb; replace HB := hb_ hb bfnq_; (try clear hb); have hcz3 := c5_ BK1; have hcz4 := c5_ BK2) | ((with_reducible refine gc_ (f := 40) rfl ?_); refine gl_ 15 Tryz.func40 #[.slice A0_3 l0_3.length c0_3, .slice A1_3 l1_3.length c1_3] ?_; (with_reducible refine (laws_eqIntS.calls k _ _ l0_3 _ _ l1_3 false _ ?side1 ?side2 ?side3 ?side4 A5.out).mono ?_); (case side1 => exact bkan_); (case side2 => exact HC0_3.out); (case side3 => exact b4bh_); (case side4 => exact HC1_3.out); rintro e w' ⟨rfl, ⟨nd, rfl⟩⟩; refine ⟨_, rfl, ?_⟩))
  go_ret
  exact ⟨bnwh_, bfnq_⟩
 subst c3
 rw [if_pos rfl] at H
 by_cases c4 : a0_4 = a1_4
 case neg =>
  rw [if_neg c4] at H
  obtain ⟨c4b0, c4b1⟩ := ef_ c4
  obtain rfl := si_ H
  go_enter Tryz.func11, Tryz.ntmps11
  go_wp2_with (first | ((with_reducible refine gd_ (N := 2) rfl ?_); refine bx_ 2 #[.int .i64 a0_0, .bool a0_1, .slice A0_2 l0_2.length c0_2, .slice A0_3 l0_3.length c0_3, .int .i64 a0_4] 32 ?_; intro gb1 hg w1 BK1 hb; have GW1 := ge_ hg brt4_; have GE1 := GW1; replace HB := hb_ hb brt4_; clear hb hg) | ((with_reducible refine gd_ (N := 3) rfl ?_); refine bx_ 3 #[.int .i64 a1_0, .bool a1_1, .slice A1_2 l1_2.length c1_2, .slice A1_3 l1_3.length c1_3, .int .i64 a1_4] 32 ?_; intro gb2 hg w2 BK2 hb; have GW2 := ge_ hg be6g_; have GE2 := GW2; replace HB := hb_ hb be6g_; have NB1_2 := nl_ hg BK1; have NB2_1 := ng_ hg BK1; replace BK1 := k1_ BK1 hb; clear hb hg; have hnb1 := NB1_2.out; have hnc1 := NB2_1.out; have hcz1 := c5_ BK1; have hcz2 := c5_ BK2) | ((with_reducible refine gc_ (f := 39) rfl ?_); refine gl_ 9 Tryz.func39 #[.agg #[.int .i64 a0_0, .bool a0_1, .slice A0_2 l0_2.length c0_2], .agg #[.int .i64 a1_0, .bool a1_1, .slice A1_2 l1_2.length c1_2]] ?_; (with_reducible refine (laws_eqRow.calls k a0_0 a0_1 _ _ l0_2 a1_0 a1_1 _ _ l1_2 true _ ?side1 ?side2 ?side3 ?side4 A3.out).mono ?_); (case side1 => exact b6n8_); (case side2 => exact HC0_2.out); (case side3 => exact bjp5_); (case side4 => exact HC1_2.out); rintro e w3 ⟨rfl, hb⟩; refine ⟨_, rfl, ?_⟩; replace BK1 := k1_ BK1 hb; replace BK2 := k1_ BK2 hb; replace HB := hb_ hb bfnq_; (try clear hb); have hcz3 := c5_ BK1; have hcz4 := c5_ BK2) | ((with_reducible refine gc_ (f := 40) rfl ?_); refine gl_ 15 Tryz.func40 #[.slice A0_3 l0_3.length c0_3, .slice A1_3 l1_3.length c1_3] ?_; (with_reducible refine (laws_eqIntS.calls k _ _ l0_3 _ _ l1_3 true _ ?side1 ?side2 ?side3 ?side4 A5.out).mono ?_); (case side1 => exact bkan_); (case side2 => exact HC0_3.out); (case side3 => exact b4bh_); (case side4 => exact HC1_3.out); rintro e w' ⟨rfl, ⟨nd, rfl⟩⟩; refine ⟨_, rfl, ?_⟩))
  go_ret
  exact ⟨bnwh_, bfnq_⟩
 rw [if_pos c4] at H
 obtain ⟨c4b0, c4b1⟩ := et_ c4
 clear c4
 obtain rfl := si_ H
 go_enter Tryz.func11, Tryz.ntmps11
 go_wp2_with (first | ((with_reducible refine gd_ (N := 2) rfl ?_); refine bx_ 2 #[.int .i64 a0_0, .bool a0_1, .slice A0_2 l0_2.length c0_2, .slice A0_3 l0_3.length c0_3, .int .i64 a0_4] 32 ?_; intro gb1 hg w1 BK1 hb; have GW1 := ge_ hg brt4_; have GE1 := GW1; replace HB := hb_ hb brt4_; clear hb hg) | ((with_reducible refine gd_ (N := 3) rfl ?_); refine bx_ 3 #[.int .i64 a1_0, .bool a1_1, .slice A1_2 l1_2.length c1_2, .slice A1_3 l1_3.length c1_3, .int .i64 a1_4] 32 ?_; intro gb2 hg w2 BK2 hb; have GW2 := ge_ hg be6g_; have GE2 := GW2; replace HB := hb_ hb be6g_; have NB1_2 := nl_ hg BK1; have NB2_1 := ng_ hg BK1; replace BK1 := k1_ BK1 hb; clear hb hg; have hnb1 := NB1_2.out; have hnc1 := NB2_1.out; have hcz1 := c5_ BK1; have hcz2 := c5_ BK2) | ((with_reducible refine gc_ (f := 39) rfl ?_); refine gl_ 9 Tryz.func39 #[.agg #[.int .i64 a0_0, .bool a0_1, .slice A0_2 l0_2.length c0_2], .agg #[.int .i64 a1_0, .bool a1_1, .slice A1_2 l1_2.length c1_2]] ?_; (with_reducible refine (laws_eqRow.calls k a0_0 a0_1 _ _ l0_2 a1_0 a1_1 _ _ l1_2 true _ ?side1 ?side2 ?side3 ?side4 A3.out).mono ?_); (case side1 => exact b6n8_); (case side2 => exact HC0_2.out); (case side3 => exact bjp5_); (case side4 => exact HC1_2.out); rintro e w3 ⟨rfl, hb⟩; refine ⟨_, rfl, ?_⟩; replace BK1 := k1_ BK1 hb; replace BK2 := k1_ BK2 hb; replace HB := hb_ hb bfnq_; (try clear hb); have hcz3 := c5_ BK1; have hcz4 := c5_ BK2) | ((with_reducible refine gc_ (f := 40) rfl ?_); refine gl_ 15 Tryz.func40 #[.slice A0_3 l0_3.length c0_3, .slice A1_3 l1_3.length c1_3] ?_; (with_reducible refine (laws_eqIntS.calls k _ _ l0_3 _ _ l1_3 true _ ?side1 ?side2 ?side3 ?side4 A5.out).mono ?_); (case side1 => exact bkan_); (case side2 => exact HC0_3.out); (case side3 => exact b4bh_); (case side4 => exact HC1_3.out); rintro e w' ⟨rfl, ⟨nd, rfl⟩⟩; refine ⟨_, rfl, ?_⟩))
 go_ret
 exact ⟨bnwh_, bfnq_⟩

def laws_eqWork.f (a0_0 : Int) (a0_1 : Int) (a0_2 : Int) (a1_0 : Int) (a1_1 : Int) (a1_2 : Int) : Option (Bool) := if a0_0 = a1_0 then (if a0_1 = a1_1 then (if a0_2 = a1_2 then (some true) else (some false)) else (some false)) else (some false)
theorem laws_eqWork.calls (a0_0 : Int) (a0_1 : Int) (a0_2 : Int) (a1_0 : Int) (a1_1 : Int) (a1_2 : Int) (r : Bool) (w : World) (h : laws_eqWork.f a0_0 a0_1 a0_2 a1_0 a1_1 a1_2 = some r) :
  Calls Tryz.prog 41 #[.agg #[.int .i64 a0_0, .int .i64 a0_1, .int .i64 a0_2], .agg #[.int .i64 a1_0, .int .i64 a1_1, .int .i64 a1_2]] w fun e w' => e = .returned (.bool r) ∧ Below w.heap.size w w' := by
 have hu50 := Tryz.underlying50
 have HB := A0_ (Below.refl w.heap.size w)
 have H : (if a0_0 = a1_0 then (if a0_1 = a1_1 then (if a0_2 = a1_2 then (some true) else (some false)) else (some false)) else (some false)) = some r := h
 clear h
 by_cases c1 : a0_0 = a1_0
 case neg =>
  rw [if_neg c1] at H
  obtain ⟨c1b0, c1b1⟩ := ef_ c1
  obtain rfl := si_ H
  go_enter Tryz.func41, Tryz.ntmps41
  go_wp2_with (first | ((with_reducible refine gd_ (N := 2) rfl ?_); refine bx_ 2 #[.int .i64 a0_0, .int .i64 a0_1, .int .i64 a0_2] 50 ?_; intro gb1 hg w1 BK1 hb; have GW1 := ge_ hg brt4_; have GE1 := GW1; replace HB := hb_ hb brt4_; clear hb hg) | ((with_reducible refine gd_ (N := 3) rfl ?_); refine bx_ 3 #[.int .i64 a1_0, .int .i64 a1_1, .int .i64 a1_2] 50 ?_; intro gb2 hg w2 BK2 hb; have GW2 := ge_ hg be6g_; have GE2 := GW2; replace HB := hb_ hb be6g_; have NB1_2 := nl_ hg BK1; have NB2_1 := ng_ hg BK1; replace BK1 := k1_ BK1 hb; clear hb hg; have hnb1 := NB1_2.out; have hnc1 := NB2_1.out; have hcz1 := c3_ BK1; have hcz2 := c3_ BK2))
  go_ret
  exact ⟨bnwh_, bfnq_⟩
 rw [if_pos c1] at H
 obtain ⟨c1b0, c1b1⟩ := et_ c1
 clear c1
 by_cases c2 : a0_1 = a1_1
 case neg =>
  rw [if_neg c2] at H
  obtain ⟨c2b0, c2b1⟩ := ef_ c2
  obtain rfl := si_ H
  go_enter Tryz.func41, Tryz.ntmps41
  go_wp2_with (first | ((with_reducible refine gd_ (N := 2) rfl ?_); refine bx_ 2 #[.int .i64 a0_0, .int .i64 a0_1, .int .i64 a0_2] 50 ?_; intro gb1 hg w1 BK1 hb; have GW1 := ge_ hg brt4_; have GE1 := GW1; replace HB := hb_ hb brt4_; clear hb hg) | ((with_reducible refine gd_ (N := 3) rfl ?_); refine bx_ 3 #[.int .i64 a1_0, .int .i64 a1_1, .int .i64 a1_2] 50 ?_; intro gb2 hg w2 BK2 hb; have GW2 := ge_ hg be6g_; have GE2 := GW2; replace HB := hb_ hb be6g_; have NB1_2 := nl_ hg BK1; have NB2_1 := ng_ hg BK1; replace BK1 := k1_ BK1 hb; clear hb hg; have hnb1 := NB1_2.out; have hnc1 := NB2_1.out; have hcz1 := c3_ BK1; have hcz2 := c3_ BK2))
  go_ret
  exact ⟨bnwh_, bfnq_⟩
 rw [if_pos c2] at H
 obtain ⟨c2b0, c2b1⟩ := et_ c2
 clear c2
 by_cases c3 : a0_2 = a1_2
 case neg =>
  rw [if_neg c3] at H
  obtain ⟨c3b0, c3b1⟩ := ef_ c3
  obtain rfl := si_ H
  go_enter Tryz.func41, Tryz.ntmps41
  go_wp2_with (first | ((with_reducible refine gd_ (N := 2) rfl ?_); refine bx_ 2 #[.int .i64 a0_0, .int .i64 a0_1, .int .i64 a0_2] 50 ?_; intro gb1 hg w1 BK1 hb; have GW1 := ge_ hg brt4_; have GE1 := GW1; replace HB := hb_ hb brt4_; clear hb hg) | ((with_reducible refine gd_ (N := 3) rfl ?_); refine bx_ 3 #[.int .i64 a1_0, .int .i64 a1_1, .int .i64 a1_2] 50 ?_; intro gb2 hg w2 BK2 hb; have GW2 := ge_ hg be6g_; have GE2 := GW2; replace HB := hb_ hb be6g_; have NB1_2 := nl_ hg BK1; have NB2_1 := ng_ hg BK1; replace BK1 := k1_ BK1 hb; clear hb hg; have hnb1 := NB1_2.out; have hnc1 := NB2_1.out; have hcz1 := c3_ BK1; have hcz2 := c3_ BK2))
  go_ret
  exact ⟨bnwh_, bfnq_⟩
 rw [if_pos c3] at H
 obtain ⟨c3b0, c3b1⟩ := et_ c3
 clear c3
 obtain rfl := si_ H
 go_enter Tryz.func41, Tryz.ntmps41
 go_wp2_with (first | ((with_reducible refine gd_ (N := 2) rfl ?_); refine bx_ 2 #[.int .i64 a0_0, .int .i64 a0_1, .int .i64 a0_2] 50 ?_; intro gb1 hg w1 BK1 hb; have GW1 := ge_ hg brt4_; have GE1 := GW1; replace HB := hb_ hb brt4_; clear hb hg) | ((with_reducible refine gd_ (N := 3) rfl ?_); refine bx_ 3 #[.int .i64 a1_0, .int .i64 a1_1, .int .i64 a1_2] 50 ?_; intro gb2 hg w2 BK2 hb; have GW2 := ge_ hg be6g_; have GE2 := GW2; replace HB := hb_ hb be6g_; have NB1_2 := nl_ hg BK1; have NB2_1 := ng_ hg BK1; replace BK1 := k1_ BK1 hb; clear hb hg; have hnb1 := NB1_2.out; have hnc1 := NB2_1.out; have hcz1 := c3_ BK1; have hcz2 := c3_ BK2))
 go_ret
 exact ⟨bnwh_, bfnq_⟩

def laws_eqWorkS.l0 : Nat → List (S50) → List (S50) → Int → Option (Bool)
 | 0, _, _, _ => none
 | k + 1, x0, x1, x5 => if x5 < (x0.length : Int) then (if 0 ≤ x5 then (if x5 < (x1.length : Int) then ((laws_eqWork.f ((rd_T50 x0 x5).f0) ((rd_T50 x0 x5).f1) ((rd_T50 x0 x5).f2) ((rd_T50 x1 x5).f0) ((rd_T50 x1 x5).f1) ((rd_T50 x1 x5).f2)).bind fun t541 => (if t541 = true then (laws_eqWorkS.l0 k x0 x1 (wrap64 (x5 + 1))) else (some false))) else (none)) else (none)) else (some true)
def laws_eqWorkS.f (k : Nat) (l0 : List (S50)) (l1 : List (S50)) : Option (Bool) := if (l0.length : Int) = (l1.length : Int) then (laws_eqWorkS.l0 k l0 l1 0) else (some false)
theorem laws_eqWorkS.mono_l : ∀ k, (∀ y0 y1 y2, LeO (laws_eqWorkS.l0 k y0 y1 y2) (laws_eqWorkS.l0 (k + 1) y0 y1 y2))
 | 0 => fun _ _ _ r h => by simp [laws_eqWorkS.l0] at h
 | k + 1 => by
  have ih0 := laws_eqWorkS.mono_l k
  ·intro y0 y1 y2
   unfold laws_eqWorkS.l0
   repeat' with_reducible first | exact ih0 .. | exact LeO.refl .. | exact LeO.none .. | refine LeO.ite ?_ ?_ | refine LeO.bind ?_ (fun _ => ?_)
theorem laws_eqWorkS.mono : ∀ a0 a1 k, LeO (laws_eqWorkS.f k a0 a1) (laws_eqWorkS.f (k + 1) a0 a1) := by
 intro a0 a1 k
 have ih0 := laws_eqWorkS.mono_l k
 unfold laws_eqWorkS.f
 repeat' with_reducible first | exact ih0 .. | exact LeO.refl .. | exact LeO.none .. | refine LeO.ite ?_ ?_ | refine LeO.bind ?_ (fun _ => ?_)
def laws_eqWorkS.T6 : Bool × List (List Nat × List Nat) := (true, [([], []), ([], []), ([0, 1], [0, 1]), ([2], [2]), ([], []), ([], []), ([4, 5], [4, 5]), ([6], [6]), ([3, 7], [3, 7]), ([8], [8])])
def laws_eqWorkS.B6 : List Nat := [0, 0, 3, 7, 0, 0, 48, 112, 255, 511]
theorem laws_eqWorkS.tab6 : rtab .any (opsOf Tryz.f12 6) = laws_eqWorkS.T6 := by kernel_rfl
theorem laws_eqWorkS.bits6 : waitsOk laws_eqWorkS.T6.2 laws_eqWorkS.B6 = true := by kernel_rfl
theorem laws_eqWorkS.calls (k : Nat) (A0 : Option Addr) (c0 : Nat) (l0 : List (S50)) (A1 : Option Addr) (c1 : Nat) (l1 : List (S50)) (r : Bool) (w : World) (hr0 : Kd.C k50 w A0 l0.length l0) (hc0 : l0.length ≤ c0) (hr1 : Kd.C k50 w A1 l1.length l1) (hc1 : l1.length ≤ c1) (h : laws_eqWorkS.f k l0 l1 = some r) :
  Calls Tryz.prog 12 #[.slice A0 l0.length c0, .slice A1 l1.length c1] w fun e w' => e = .returned (.bool r) ∧ Below w.heap.size w w' := by
 have hu50 := Tryz.underlying50
 have HR0 := A0_ hr0
 have HC0 := A0_ hc0
 clear hr0 hc0
 have HR1 := A0_ hr1
 have HC1 := A0_ hc1
 clear hr1 hc1
 have HB := A0_ (Below.refl w.heap.size w)
 have H : (if (l0.length : Int) = (l1.length : Int) then (laws_eqWorkS.l0 k l0 l1 0) else (some false)) = some r := h
 clear h
 by_cases c2 : (l0.length : Int) = (l1.length : Int)
 case neg =>
  rw [if_neg c2] at H
  obtain ⟨c2b0, c2b1⟩ := ef_ c2
  have c2b2 : (l0.length == l1.length) = false := bds5_
  obtain rfl := si_ H
  go_enter Tryz.func12, Tryz.ntmps12
  go_wp2
  go_ret
  exact ⟨bnwh_, brt4_⟩
 rw [if_pos c2] at H
 obtain ⟨c2b0, c2b1⟩ := et_ c2
 have c2b2 : (l0.length == l1.length) = true := bds5_
 clear c2
 have H' := A0_ H
 clear H
 go_enter Tryz.func12, Tryz.ntmps12
 go_wp2
 go_loopg [5] k (fun kq v1 w' => ∃ (x5_1 : Int), v1 = .int .i64 x5_1 ∧ Aside0 (laws_eqWorkS.l0 kq l0 l1 x5_1 = some r) ∧ Aside0 (kq ≤ k) ∧ Aside0 (Below w.heap.size w w'))
 case atStart => exact ⟨(0), b2ew_, H', ⟨Nat.le_refl _⟩, ⟨brt4_⟩⟩
 clear H'
 try clear c1
 try clear c2
 try clear c2b0
 try clear c2b1
 try clear c2b2
 obtain ⟨x5_1, rfl, HA, HK1, HB⟩ := hrel
 cases gk with | zero => exact absurd HA.out (by simp [laws_eqWorkS.l0]) | succ k1 => ?_
 have H := HA.out
 clear HA
 simp only [laws_eqWorkS.l0] at H
 by_cases c3 : x5_1 < (l0.length : Int)
 case neg =>
  rw [if_neg c3] at H
  have c3b0 : decide (x5_1 < (l0.length : Int)) = false := decide_eq_false c3
  clear c3
  obtain rfl := si_ H
  go_wp2
  go_ret
  exact ⟨bnwh_, brt4_⟩
 rw [if_pos c3] at H
 have c3b0 : decide (x5_1 < (l0.length : Int)) = true := dt_ c3
 clear c3
 by_cases c4 : 0 ≤ x5_1
 case neg =>
  rw [if_neg c4] at H
  exact absurd H bxka_
 rw [if_pos c4] at H
 have c4b0 : decide (0 ≤ x5_1) = true := dt_ c4
 clear c4
 by_cases c5 : x5_1 < (l1.length : Int)
 case neg =>
  rw [if_neg c5] at H
  exact absurd H bxka_
 rw [if_pos c5] at H
 have c5b0 : decide (x5_1 < (l1.length : Int)) = true := dt_ c5
 clear c5
 obtain ⟨t1, A3, H⟩ := o1_ H
 by_cases c6 : t1 = true
 case neg =>
  obtain rfl := bf_.mpr c6
  rw [if_neg ft_] at H
  obtain rfl := si_ H
  try go_wp2
  replace HB := A0_ (bd_ HB.out)
  have p1 : 0 ≤ (x5_1 : Int) := od_ bpil_
  have q1 : x5_1 < (l0.length : Int) := od_ bpil_
  obtain ⟨ad1, e1, hx1_0, hx1_1, hx1_2⟩ := at_T50 HR0.out x5_1 p1 q1
  have hw539_2 := hx1_2
  have hw539_1 := hx1_1
  have hw539_0 := hx1_0
  cases e1
  replace hx1_0 := (HB.out.cell (World.block_lt_of_cell? w _ hx1_0)).trans hx1_0
  replace hx1_1 := (HB.out.cell (World.block_lt_of_cell? w _ hx1_1)).trans hx1_1
  replace hx1_2 := (HB.out.cell (World.block_lt_of_cell? w _ hx1_2)).trans hx1_2
  replace p1 := eq_true p1
  replace q1 := eq_true q1
  have p2 : 0 ≤ (x5_1 : Int) := od_ bpil_
  have q2 : x5_1 < (l1.length : Int) := od_ bpil_
  obtain ⟨ad2, e2, hx2_0, hx2_1, hx2_2⟩ := at_T50 HR1.out x5_1 p2 q2
  have hw540_2 := hx2_2
  have hw540_1 := hx2_1
  have hw540_0 := hx2_0
  cases e2
  replace hx2_0 := (HB.out.cell (World.block_lt_of_cell? w _ hx2_0)).trans hx2_0
  replace hx2_1 := (HB.out.cell (World.block_lt_of_cell? w _ hx2_1)).trans hx2_1
  replace hx2_2 := (HB.out.cell (World.block_lt_of_cell? w _ hx2_2)).trans hx2_2
  replace p2 := eq_true p2
  replace q2 := eq_true q2
  refine start_ (n := 10) (S := fun w' => w'.cell? (ad1.add ((x5_1).toNat * 3)) = some (.int .i64 ((rd_T50 l0 x5_1).f0)) ∧ w'.cell? ⟨(ad1.add ((x5_1).toNat * 3)).block, (ad1.add ((x5_1).toNat * 3)).off + 1, none⟩ = some (.int .i64 ((rd_T50 l0 x5_1).f1)) ∧ w'.cell? ⟨(ad1.add ((x5_1).toNat * 3)).block, (ad1.add ((x5_1).toNat * 3)).off + 2, none⟩ = some (.int .i64 ((rd_T50 l0 x5_1).f2)) ∧ w'.cell? (ad2.add ((x5_1).toNat * 3)) = some (.int .i64 ((rd_T50 l1 x5_1).f0)) ∧ w'.cell? ⟨(ad2.add ((x5_1).toNat * 3)).block, (ad2.add ((x5_1).toNat * 3)).off + 1, none⟩ = some (.int .i64 ((rd_T50 l1 x5_1).f1)) ∧ w'.cell? ⟨(ad2.add ((x5_1).toNat * 3)).block, (ad2.add ((x5_1).toNat * 3)).off + 2, none⟩ = some (.int .i64 ((rd_T50 l1 x5_1).f2))) (ds := []) #[false, false, false, false, false, false, false, false, false, false] bfqv_ rfl rfl ⟨((HB.out.cell (World.block_lt_of_cell? w _ hw539_0)).trans hw539_0), ((HB.out.cell (World.block_lt_of_cell? w _ hw539_1)).trans hw539_1), ((HB.out.cell (World.block_lt_of_cell? w _ hw539_2)).trans hw539_2), ((HB.out.cell (World.block_lt_of_cell? w _ hw540_0)).trans hw540_0), ((HB.out.cell (World.block_lt_of_cell? w _ hw540_1)).trans hw540_1), ((HB.out.cell (World.block_lt_of_cell? w _ hw540_2)).trans hw540_2)⟩ (fun hHeld => ?_); refine with_tabW laws_eqWorkS.tab6 laws_eqWorkS.bits6 (fun HT_ HW_ => ?_)
  generalize wr.drew = w1 at HB hx1_0 hx1_1 hx1_2 hx2_0 hx2_1 hx2_2 hHeld ⊢
  refine pu_ 0 17 ?_
  refine pu_ 1 18 ?_
  refine pu_ 2 19 ?_
  refine pu_ 4 21 ?_
  refine pu_ 5 22 ?_
  refine pu_ 6 23 ?_
  refine tk_ 3 20 hHeld ?_
  refine tk_ 7 24 hHeld ?_
  refine on_ 8 (some 25) (fun K hK => ?_)
  refine gs_ Tryz.func41 #[.agg #[.int .i64 ((rd_T50 l0 x5_1).f0), .int .i64 ((rd_T50 l0 x5_1).f1), .int .i64 ((rd_T50 l0 x5_1).f2)], .agg #[.int .i64 ((rd_T50 l1 x5_1).f0), .int .i64 ((rd_T50 l1 x5_1).f1), .int .i64 ((rd_T50 l1 x5_1).f2)]] ?_
  with_reducible refine (laws_eqWork.calls ((rd_T50 l0 x5_1).f0) ((rd_T50 l0 x5_1).f1) ((rd_T50 l0 x5_1).f2) ((rd_T50 l1 x5_1).f0) ((rd_T50 l1 x5_1).f1) ((rd_T50 l1 x5_1).f2) false _ A3.out).mono ?_
  rintro e w2 ⟨rfl, hb⟩
  refine ⟨_, rfl, ?_⟩
  replace HB := hb_ hb brt4_
  (try clear hb)
  refine hK.out _ _ ⟨((HB.out.cell (World.block_lt_of_cell? w _ hw539_0)).trans hw539_0), ((HB.out.cell (World.block_lt_of_cell? w _ hw539_1)).trans hw539_1), ((HB.out.cell (World.block_lt_of_cell? w _ hw539_2)).trans hw539_2), ((HB.out.cell (World.block_lt_of_cell? w _ hw540_0)).trans hw540_0), ((HB.out.cell (World.block_lt_of_cell? w _ hw540_1)).trans hw540_1), ((HB.out.cell (World.block_lt_of_cell? w _ hw540_2)).trans hw540_2)⟩ (fun hHeld => ?_)
  clear hK K
  refine nm_ 25 ?_
  refine pu_ 9 26 ?_
  refine dn_ ?_
  try go_wp2
  go_ret
  exact ⟨bnwh_, brt4_⟩
 subst c6
 rw [if_pos rfl] at H
 have H' := A0_ H
 clear H
 try go_wp2
 replace HB := A0_ (bd_ HB.out)
 have p1 : 0 ≤ (x5_1 : Int) := od_ bpil_
 have q1 : x5_1 < (l0.length : Int) := od_ bpil_
 obtain ⟨ad1, e1, hx1_0, hx1_1, hx1_2⟩ := at_T50 HR0.out x5_1 p1 q1
 have hw539_2 := hx1_2
 have hw539_1 := hx1_1
 have hw539_0 := hx1_0
 cases e1
 replace hx1_0 := (HB.out.cell (World.block_lt_of_cell? w _ hx1_0)).trans hx1_0
 replace hx1_1 := (HB.out.cell (World.block_lt_of_cell? w _ hx1_1)).trans hx1_1
 replace hx1_2 := (HB.out.cell (World.block_lt_of_cell? w _ hx1_2)).trans hx1_2
 replace p1 := eq_true p1
 replace q1 := eq_true q1
 have p2 : 0 ≤ (x5_1 : Int) := od_ bpil_
 have q2 : x5_1 < (l1.length : Int) := od_ bpil_
 obtain ⟨ad2, e2, hx2_0, hx2_1, hx2_2⟩ := at_T50 HR1.out x5_1 p2 q2
 have hw540_2 := hx2_2
 have hw540_1 := hx2_1
 have hw540_0 := hx2_0
 cases e2
 replace hx2_0 := (HB.out.cell (World.block_lt_of_cell? w _ hx2_0)).trans hx2_0
 replace hx2_1 := (HB.out.cell (World.block_lt_of_cell? w _ hx2_1)).trans hx2_1
 replace hx2_2 := (HB.out.cell (World.block_lt_of_cell? w _ hx2_2)).trans hx2_2
 replace p2 := eq_true p2
 replace q2 := eq_true q2
 refine start_ (n := 10) (S := fun w' => w'.cell? (ad1.add ((x5_1).toNat * 3)) = some (.int .i64 ((rd_T50 l0 x5_1).f0)) ∧ w'.cell? ⟨(ad1.add ((x5_1).toNat * 3)).block, (ad1.add ((x5_1).toNat * 3)).off + 1, none⟩ = some (.int .i64 ((rd_T50 l0 x5_1).f1)) ∧ w'.cell? ⟨(ad1.add ((x5_1).toNat * 3)).block, (ad1.add ((x5_1).toNat * 3)).off + 2, none⟩ = some (.int .i64 ((rd_T50 l0 x5_1).f2)) ∧ w'.cell? (ad2.add ((x5_1).toNat * 3)) = some (.int .i64 ((rd_T50 l1 x5_1).f0)) ∧ w'.cell? ⟨(ad2.add ((x5_1).toNat * 3)).block, (ad2.add ((x5_1).toNat * 3)).off + 1, none⟩ = some (.int .i64 ((rd_T50 l1 x5_1).f1)) ∧ w'.cell? ⟨(ad2.add ((x5_1).toNat * 3)).block, (ad2.add ((x5_1).toNat * 3)).off + 2, none⟩ = some (.int .i64 ((rd_T50 l1 x5_1).f2))) (ds := []) #[false, false, false, false, false, false, false, false, false, false] bfqv_ rfl rfl ⟨((HB.out.cell (World.block_lt_of_cell? w _ hw539_0)).trans hw539_0), ((HB.out.cell (World.block_lt_of_cell? w _ hw539_1)).trans hw539_1), ((HB.out.cell (World.block_lt_of_cell? w _ hw539_2)).trans hw539_2), ((HB.out.cell (World.block_lt_of_cell? w _ hw540_0)).trans hw540_0), ((HB.out.cell (World.block_lt_of_cell? w _ hw540_1)).trans hw540_1), ((HB.out.cell (World.block_lt_of_cell? w _ hw540_2)).trans hw540_2)⟩ (fun hHeld => ?_); refine with_tabW laws_eqWorkS.tab6 laws_eqWorkS.bits6 (fun HT_ HW_ => ?_)
 generalize wr.drew = w1 at HB hx1_0 hx1_1 hx1_2 hx2_0 hx2_1 hx2_2 hHeld ⊢
 refine pu_ 0 17 ?_
 refine pu_ 1 18 ?_
 refine pu_ 2 19 ?_
 refine pu_ 4 21 ?_
 refine pu_ 5 22 ?_
 refine pu_ 6 23 ?_
 refine tk_ 3 20 hHeld ?_
 refine tk_ 7 24 hHeld ?_
 refine on_ 8 (some 25) (fun K hK => ?_)
 refine gs_ Tryz.func41 #[.agg #[.int .i64 ((rd_T50 l0 x5_1).f0), .int .i64 ((rd_T50 l0 x5_1).f1), .int .i64 ((rd_T50 l0 x5_1).f2)], .agg #[.int .i64 ((rd_T50 l1 x5_1).f0), .int .i64 ((rd_T50 l1 x5_1).f1), .int .i64 ((rd_T50 l1 x5_1).f2)]] ?_
 with_reducible refine (laws_eqWork.calls ((rd_T50 l0 x5_1).f0) ((rd_T50 l0 x5_1).f1) ((rd_T50 l0 x5_1).f2) ((rd_T50 l1 x5_1).f0) ((rd_T50 l1 x5_1).f1) ((rd_T50 l1 x5_1).f2) true _ A3.out).mono ?_
 rintro e w2 ⟨rfl, hb⟩
 refine ⟨_, rfl, ?_⟩
 replace HB := hb_ hb brt4_
 (try clear hb)
 refine hK.out _ _ ⟨((HB.out.cell (World.block_lt_of_cell? w _ hw539_0)).trans hw539_0), ((HB.out.cell (World.block_lt_of_cell? w _ hw539_1)).trans hw539_1), ((HB.out.cell (World.block_lt_of_cell? w _ hw539_2)).trans hw539_2), ((HB.out.cell (World.block_lt_of_cell? w _ hw540_0)).trans hw540_0), ((HB.out.cell (World.block_lt_of_cell? w _ hw540_1)).trans hw540_1), ((HB.out.cell (World.block_lt_of_cell? w _ hw540_2)).trans hw540_2)⟩ (fun hHeld => ?_)
 clear hK K
 refine nm_ 25 ?_
 refine pu_ 9 26 ?_
 refine dn_ ?_
 try go_wp2
 go_roundg k1
 case measure => have := HK1.out; omega
 exact ⟨(wrap64 (x5_1 + 1)), b2ew_, H', ⟨bxjq_⟩, ⟨brt4_⟩⟩

def laws_markIntS.l0 : Nat → List Int → Int → Int → Option (Int × List Int)
 | 0, _, _, _ => none
 | k + 1, x0, x1, x5 => if x5 < (x0.length : Int) then (if 0 ≤ x5 then (laws_markIntS.l0 k (x0.set (x5 : Int).toNat x1) (wrap64 (x1 + 1)) (wrap64 (x5 + 1))) else (none)) else (some (x1, x0))
def laws_markIntS.f (k : Nat) (l0 : List Int) (a1 : Int) : Option (Int × List Int) := laws_markIntS.l0 k l0 a1 0
theorem laws_markIntS.mono_l : ∀ k, (∀ y0 y1 y2, LeO (laws_markIntS.l0 k y0 y1 y2) (laws_markIntS.l0 (k + 1) y0 y1 y2))
 | 0 => fun _ _ _ r h => by simp [laws_markIntS.l0] at h
 | k + 1 => by
  have ih0 := laws_markIntS.mono_l k
  ·intro y0 y1 y2
   unfold laws_markIntS.l0
   repeat' with_reducible first | exact ih0 .. | exact LeO.refl .. | exact LeO.none .. | refine LeO.ite ?_ ?_ | refine LeO.bind ?_ (fun _ => ?_)
theorem laws_markIntS.mono : ∀ a0 a1 k, LeO (laws_markIntS.f k a0 a1) (laws_markIntS.f (k + 1) a0 a1) := by
 intro a0 a1 k
 have ih0 := laws_markIntS.mono_l k
 unfold laws_markIntS.f
 repeat' with_reducible first | exact ih0 .. | exact LeO.refl .. | exact LeO.none .. | refine LeO.ite ?_ ?_ | refine LeO.bind ?_ (fun _ => ?_)
theorem laws_markIntS.calls (k : Nat) (P0_ : Nat → Prop) (u9000_ : Value) (l0 : List Int) (a1 : Int) (r1 : Int) (r2 : List Int) (w0 w : World) (hB : Below w0.heap.size w0 w) (ho0 : Kd.R (Kd.int .i64) 3 w w0.heap.size P0_ u9000_ l0) (h : laws_markIntS.f k l0 a1 = some (r1, r2)) :
  Calls Tryz.prog 43 #[u9000_, .int .i64 a1] w fun e w' => e = .returned (.int .i64 r1) ∧ Kd.R (Kd.int .i64) 3 w' w0.heap.size (fun k_ => (P0_ k_ ∨ w.heap.size ≤ k_)) u9000_ r2 ∧ Below w0.heap.size w0 w' ∧ Kept w w' (fun k_ => P0_ k_) := by
 have HO1 := A0_ (show Kd.R (Kd.int .i64) 3 w w0.heap.size (fun k_ => (P0_ k_ ∨ w.heap.size ≤ k_)) u9000_ l0 from Kd.R_mono ho0 (fun k_ hk => (.inl hk)))
 have HK := A0_ (Kept.refl w (fun k_ => P0_ k_))
 have HW0 := A0_ hB.size
 have HB := A0_ hB
 clear hB
 have H : (laws_markIntS.l0 k l0 a1 0) = some (r1, r2) := h
 clear h
 have H' := A0_ H
 clear H
 go_enter Tryz.func43, Tryz.ntmps43
 go_wp2
 go_loopg [1, 5] k (fun kq v1 v2 w' => ∃ (x0_1 : List Int) (x1_1 : Int) (x5_1 : Int), v1 = .int .i64 x1_1 ∧ v2 = .int .i64 x5_1 ∧ Aside0 (laws_markIntS.l0 kq x0_1 x1_1 x5_1 = some (r1, r2)) ∧ Aside0 (kq ≤ k) ∧ Aside0 (Kd.R (Kd.int .i64) 3 w' w0.heap.size (fun k_ => (P0_ k_ ∨ w.heap.size ≤ k_)) u9000_ x0_1) ∧ Aside0 (Kept w w' (fun k_ => P0_ k_)) ∧ Aside0 (Below w0.heap.size w0 w'))
 case atStart => exact ⟨(l0), (a1), (0), b2ew_, b2ew_, H', ⟨Nat.le_refl _⟩, ⟨bsm5_⟩, ⟨b6df_⟩, ⟨brt4_⟩⟩
 clear H'
 obtain ⟨x0_1, x1_1, x5_1, rfl, rfl, HA, HK1, HO_1, HK, HB⟩ := hrel
 cases gk with | zero => exact absurd HA.out (by simp [laws_markIntS.l0]) | succ k1 => ?_
 have H := HA.out
 clear HA
 simp only [laws_markIntS.l0] at H
 by_cases c1 : x5_1 < (x0_1.length : Int)
 case neg =>
  rw [if_neg c1] at H
  have c1b0 : decide (x5_1 < (x0_1.length : Int)) = false := decide_eq_false c1
  clear c1
  simp only [sj_, pj_] at H
  obtain ⟨rfl, rfl⟩ := H
  obtain ⟨Ao1, co1, eo1⟩ := Kd.R_slice HO_1.out
  subst eo1
  go_wp2
  go_ret
  exact ⟨bnwh_, bwik_, brt4_, b6df_⟩
 rw [if_pos c1] at H
 have c1b0 : decide (x5_1 < (x0_1.length : Int)) = true := dt_ c1
 clear c1
 by_cases c2 : 0 ≤ x5_1
 case neg =>
  rw [if_neg c2] at H
  exact absurd H bxka_
 rw [if_pos c2] at H
 have c2b0 : decide (0 ≤ x5_1) = true := dt_ c2
 clear c2
 obtain ⟨y1, hy1⟩ : ∃ y_ : List Int, y_ = (x0_1.set (x5_1 : Int).toNat x1_1) := ⟨_, rfl⟩
 replace H : (laws_markIntS.l0 k1 y1 (wrap64 (x1_1 + 1)) (wrap64 (x5_1 + 1))) = some (r1, r2) := bgiq_
 have Ny1 := A0_ hy1
 clear hy1
 have H' := A0_ H
 clear H
 obtain ⟨Ao1, co1, eo1⟩ := Kd.R_slice HO_1.out
 subst eo1
 have p1 : 0 ≤ (x5_1 : Int) := od_ bpil_
 have q1 : (x5_1 : Int) < ((x0_1.length : Int) : Int) := od_ bpil_
 obtain ⟨go5, co2, eo2, gb1, gl5, cl5, HG5⟩ := Kd.R_form HO_1.out bh19_
 (first | cases eo2 | (injection eo2 with ea_ en_ ec_; (first | subst ea_ | (injection ea_ with ea_; subst ea_)); subst ec_; clear en_))
 have GB5 := A0_ gb1
 have GG5 := A0_ HG5
 clear gb1 gl5 HG5
 have HMgo5 := A0_ (show (P0_ go5 ∨ w.heap.size ≤ go5) from (HO_1.out.1 _ rfl))
 obtain ⟨hx1_0, hf1_0⟩ := Kd.R_celln 0 HO_1.out (x5_1 : Int) p1 q1
 replace p1 := eq_true p1
 replace q1 := eq_true q1
 have HP1 := Kd.R_putg HO_1.out (x5_1 : Int) x1_1
 go_wp2_with (first | ((with_reducible refine gate_store (t := 3) (p := 15) rfl ?_); refine store_event (t := 3) (p := 15) (v := ?vo_w8) (w1 := (wr.setCell ⟨go5, (x5_1 : Int).toNat, none⟩ (.int .i64 x1_1))) ?hg ?ho ?hn ?hr ?_; (case ho => rfl); (case hg => rfl); (case hn => rfl); (case hr => go_simp; first | done | rfl); intro w1 hw; have hg : wr.grownBy w1 (some go5) := (by rw [hw]; exact HP1.2); have hp_ : Kd.R (Kd.int .i64) 3 w1 w0.heap.size (fun k_ => (P0_ k_ ∨ w.heap.size ≤ k_)) (.slice (some ⟨go5, 0, none⟩) x0_1.length co1) y1 := (by rw [hw, Ny1.out]; exact HP1.1); clear HP1; replace HB := A0_ ((by rw [hw]; exact bs_ (HB.out) GB5.out : Below w0.heap.size w0 w1)); replace HK := A0_ (Kept.of_grown (S := (fun k_ => P0_ k_)) hg b6df_ (fun k_ e_ => (HO_1.out.1 k_ e_))); replace HO_1 := A0_ (hp_); clear hg hw hp_))
 go_roundg k1
 case measure => have := HK1.out; omega
 exact ⟨(y1), (wrap64 (x1_1 + 1)), (wrap64 (x5_1 + 1)), b2ew_, b2ew_, H', ⟨bxjq_⟩, ⟨bwik_⟩, ⟨b6df_⟩, ⟨brt4_⟩⟩

def laws_markRow.f (k : Nat) (a0_0 : Int) (a0_1 : Bool) (l0_2 : List Int) (a1 : Int) : Option (Int × List Int) := (laws_markIntS.f k l0_2 a1).bind fun bt544 => (some (bt544.1, bt544.2))
theorem laws_markRow.mono : ∀ a0 a1 a2 a3 k, LeO (laws_markRow.f k a0 a1 a2 a3) (laws_markRow.f (k + 1) a0 a1 a2 a3) := by
 intro a0 a1 a2 a3 k
 unfold laws_markRow.f
 repeat' with_reducible first | exact laws_markIntS.mono .. | exact LeO.refl .. | exact LeO.none .. | refine LeO.ite ?_ ?_ | refine LeO.bind ?_ (fun _ => ?_)
theorem laws_markRow.calls (k : Nat) (a0_0 : Int) (a0_1 : Bool) (P0_2_ : Nat → Prop) (u9000_ : Value) (l0_2 : List Int) (a1 : Int) (r1 : Int) (r2 : List Int) (w0 w : World) (hB : Below w0.heap.size w0 w) (ho0_2 : Kd.R (Kd.int .i64) 3 w w0.heap.size P0_2_ u9000_ l0_2) (h : laws_markRow.f k a0_0 a0_1 l0_2 a1 = some (r1, r2)) :
  Calls Tryz.prog 42 #[.agg #[.int .i64 a0_0, .bool a0_1, u9000_], .int .i64 a1] w fun e w' => e = .returned (.int .i64 r1) ∧ Kd.R (Kd.int .i64) 3 w' w0.heap.size (fun k_ => (P0_2_ k_ ∨ w.heap.size ≤ k_)) u9000_ r2 ∧ Below w0.heap.size w0 w' ∧ Kept w w' (fun k_ => P0_2_ k_) := by
 have hu30 := Tryz.underlying30
 have HO1_2 := A0_ (show Kd.R (Kd.int .i64) 3 w w0.heap.size (fun k_ => (P0_2_ k_ ∨ w.heap.size ≤ k_)) u9000_ l0_2 from Kd.R_mono ho0_2 (fun k_ hk => (.inl hk)))
 have HK := A0_ (Kept.refl w (fun k_ => P0_2_ k_))
 have HW0 := A0_ hB.size
 have HB := A0_ hB
 clear hB
 have H : ((laws_markIntS.f k l0_2 a1).bind fun bt1 => (some (bt1.1, bt1.2))) = some (r1, r2) := h
 clear h
 obtain ⟨⟨t1, t2⟩, A2, H⟩ := o1_ H
 replace H : (some (t1, t2)) = some (r1, r2) := H
 simp only [sj_, pj_] at H
 obtain ⟨rfl, rfl⟩ := H
 obtain ⟨Ao1, co1, eo1⟩ := Kd.R_slice HO1_2.out
 subst eo1
 go_enter Tryz.func42, Tryz.ntmps42
 go_wp2_with (first | ((with_reducible refine gd_ (N := 2) rfl ?_); refine bx_ 2 #[.int .i64 a0_0, .bool a0_1, .slice Ao1 l0_2.length co1] 30 ?_; intro gb1 hg w1 BK1 hb; replace HO1_2 := A0_ (Kd.R_below bm1q_ hb); have GW1 := A0_ ((by rw [hg]; exact (by first | exact HK.out.1 | exact (show Kept w _ (fun k_ => P0_2_ k_) from b6df_).1) : w.heap.size ≤ gb1)); replace HK := A0_ (Kept.below (S := (fun k_ => P0_2_ k_)) b6df_ hb); have GE1 := A0_ ((bwen_ : w0.heap.size ≤ gb1)); replace HB := hb_ hb brt4_; clear hb hg; have hcz1 := z3_ BK1) | ((with_reducible refine gc_ (f := 43) rfl ?_); refine gl_ 8 Tryz.func43 #[.slice Ao1 l0_2.length co1, .int .i64 a1] ?_; (with_reducible refine (laws_markIntS.calls k (fun k_ => some k_ = (.slice Ao1 l0_2.length co1 : Value).ownBlock) (.slice Ao1 l0_2.length co1) l0_2 a1 t1 t2 w0 _ ?side1 ?side2 A2.out).mono ?_); (case side1 => exact be6g_); (case side2 => exact Kd.R_tight rfl HO1_2.out); rintro e w2 ⟨rfl, hy1, hb, hkp⟩; refine ⟨_, rfl, ?_⟩; replace BK1 := A0_ (blk_kept (u1_ BK1) hkp (fun hs_ => (fun e_ => (Kd.R_ne HO1_2.out BK1.out bi3y_) e_) hs_)); replace HK := A0_ (Kept.then_ (S := (fun k_ => P0_2_ k_)) b6f4_ hkp (fun k_ hs_ => (fun e_ => (HO1_2.out.1 k_ e_.symm)) hs_)); replace HO1_2 := A0_ (Kd.R_reok rfl hy1 (fun k_ e_ => HO1_2.out.1 k_ e_)); replace HB := A0_ (hb); (try clear hb); (try clear hkp); (try clear hy1)))
 go_ret
 exact ⟨bnwh_, bm1q_, be6g_, b6f4_⟩

def laws_markHouse.f (k : Nat) (a0_0 : Int) (a0_1 : Bool) (l0_2 : List Int) (l0_3 : List Int) (a0_4 : Int) (a1 : Int) : Option (Int × List Int × List Int) := (laws_markRow.f k a0_0 a0_1 l0_2 a1).bind fun bt547 => ((laws_markIntS.f k l0_3 bt547.1).bind fun bt549 => (some (bt549.1, bt547.2, bt549.2)))
theorem laws_markHouse.mono : ∀ a0 a1 a2 a3 a4 a5 k, LeO (laws_markHouse.f k a0 a1 a2 a3 a4 a5) (laws_markHouse.f (k + 1) a0 a1 a2 a3 a4 a5) := by
 intro a0 a1 a2 a3 a4 a5 k
 unfold laws_markHouse.f
 repeat' with_reducible first | exact laws_markIntS.mono .. | exact laws_markRow.mono .. | exact LeO.refl .. | exact LeO.none .. | refine LeO.ite ?_ ?_ | refine LeO.bind ?_ (fun _ => ?_)
theorem laws_markHouse.calls (k : Nat) (a0_0 : Int) (a0_1 : Bool) (P0_2_ : Nat → Prop) (u9000_ : Value) (l0_2 : List Int) (P0_3_ : Nat → Prop) (u9001_ : Value) (l0_3 : List Int) (a0_4 : Int) (a1 : Int) (r1 : Int) (r2 : List Int) (r3 : List Int) (w0 w : World) (hB : Below w0.heap.size w0 w) (ho0_2 : Kd.R (Kd.int .i64) 3 w w0.heap.size P0_2_ u9000_ l0_2) (hp0_2_0_3 : ∀ k_, P0_2_ k_ → ¬ P0_3_ k_) (ho0_3 : Kd.R (Kd.int .i64) 3 w w0.heap.size P0_3_ u9001_ l0_3) (hp0_3_0_2 : ∀ k_, P0_3_ k_ → ¬ P0_2_ k_) (h : laws_markHouse.f k a0_0 a0_1 l0_2 l0_3 a0_4 a1 = some (r1, r2, r3)) :
  Calls Tryz.prog 13 #[.agg #[.int .i64 a0_0, .bool a0_1, u9000_, u9001_, .int .i64 a0_4], .int .i64 a1] w fun e w' => e = .returned (.int .i64 r1) ∧ Kd.R (Kd.int .i64) 3 w' w0.heap.size (fun k_ => ((P0_2_ k_ ∨ P0_3_ k_) ∨ w.heap.size ≤ k_)) u9000_ r2 ∧ Kd.R (Kd.int .i64) 3 w' w0.heap.size (fun k_ => ((P0_2_ k_ ∨ P0_3_ k_) ∨ w.heap.size ≤ k_)) u9001_ r3 ∧ Below w0.heap.size w0 w' ∧ Kept w w' (fun k_ => P0_2_ k_ ∨ P0_3_ k_) := by
 have hu32 := Tryz.underlying32
 have hu30 := Tryz.underlying30
 have HO1_2 := A0_ (show Kd.R (Kd.int .i64) 3 w w0.heap.size (fun k_ => ((P0_2_ k_ ∨ P0_3_ k_) ∨ w.heap.size ≤ k_) ∧ no_ u9001_ k_) u9000_ l0_2 from Kd.R_mono ho0_2 (fun k_ hk => ⟨(.inl (.inl hk)), fun e_ => hp0_2_0_3 k_ hk (ho0_3.1 k_ e_.symm)⟩))
 have HO1_3 := A0_ (show Kd.R (Kd.int .i64) 3 w w0.heap.size (fun k_ => ((P0_2_ k_ ∨ P0_3_ k_) ∨ w.heap.size ≤ k_) ∧ no_ u9000_ k_) u9001_ l0_3 from Kd.R_mono ho0_3 (fun k_ hk => ⟨(.inl (.inr hk)), fun e_ => hp0_3_0_2 k_ hk (ho0_2.1 k_ e_.symm)⟩))
 have HK := A0_ (Kept.refl w (fun k_ => P0_2_ k_ ∨ P0_3_ k_))
 have HW0 := A0_ hB.size
 have HB := A0_ hB
 clear hB
 have H : ((laws_markRow.f k a0_0 a0_1 l0_2 a1).bind fun bt1 => ((laws_markIntS.f k l0_3 bt1.1).bind fun bt2 => (some (bt2.1, bt1.2, bt2.2)))) = some (r1, r2, r3) := h
 clear h
 obtain ⟨⟨t1, t2⟩, A2, H⟩ := o1_ H
 obtain ⟨⟨t3, t4⟩, A4, H⟩ := o1_ H
 replace H : (some (t3, t2, t4)) = some (r1, r2, r3) := H
 simp only [sj_, pj_] at H
 obtain ⟨rfl, rfl, rfl⟩ := H
 obtain ⟨Ao1, co1, eo1⟩ := Kd.R_slice HO1_2.out
 subst eo1
 obtain ⟨Ao2, co2, eo2⟩ := Kd.R_slice HO1_3.out
 subst eo2
 go_enter Tryz.func13, Tryz.ntmps13
 go_wp2_with (first | ((with_reducible refine gd_ (N := 2) rfl ?_); refine bx_ 2 #[.int .i64 a0_0, .bool a0_1, .slice Ao1 l0_2.length co1, .slice Ao2 l0_3.length co2, .int .i64 a0_4] 32 ?_; intro gb1 hg w1 BK1 hb; replace HO1_2 := A0_ (Kd.R_below bm1q_ hb); replace HO1_3 := A0_ (Kd.R_below (by (with_reducible repeat (first | apply ra_ | apply rn_ | apply rd_)); exact HO1_3.out) hb); have GW1 := A0_ ((by rw [hg]; exact (by first | exact HK.out.1 | exact (show Kept w _ (fun k_ => P0_2_ k_ ∨ P0_3_ k_) from b6df_).1) : w.heap.size ≤ gb1)); replace HK := A0_ (Kept.below (S := (fun k_ => P0_2_ k_ ∨ P0_3_ k_)) b6df_ hb); have GE1 := A0_ ((bwen_ : w0.heap.size ≤ gb1)); replace HB := hb_ hb brt4_; clear hb hg; have hcz1 := z5_ BK1) | ((with_reducible refine gc_ (f := 42) rfl ?_); refine gl_ 8 Tryz.func42 #[.agg #[.int .i64 a0_0, .bool a0_1, .slice Ao1 l0_2.length co1], .int .i64 a1] ?_; (with_reducible refine (laws_markRow.calls k a0_0 a0_1 (fun k_ => some k_ = (.slice Ao1 l0_2.length co1 : Value).ownBlock) (.slice Ao1 l0_2.length co1) l0_2 a1 t1 t2 w0 _ ?side1 ?side2 A2.out).mono ?_); (case side1 => exact be6g_); (case side2 => exact Kd.R_tight rfl HO1_2.out); rintro e w2 ⟨rfl, hy1, hb, hkp⟩; refine ⟨_, rfl, ?_⟩; replace HO1_3 := A0_ (Kd.R_mono (ok' := fun k_ => ((P0_2_ k_ ∨ P0_3_ k_) ∨ w.heap.size ≤ k_) ∧ no_ (.slice Ao1 l0_2.length co1) k_) (Kd.R_keptB (HO1_3.out) hkp (fun k_ hk_ hs_ => (hk_.2) hs_)) (fun k_ hk_ => ⟨hk_.1.1, hk_.1.2⟩)); replace BK1 := A0_ (blk_kept (u1_ BK1) hkp (fun hs_ => (fun e_ => (Kd.R_ne HO1_2.out BK1.out bi3y_) e_) hs_)); replace HK := A0_ (Kept.then_ (S := (fun k_ => P0_2_ k_ ∨ P0_3_ k_)) b6f4_ hkp (fun k_ hs_ => (fun e_ => (HO1_2.out.1 k_ e_.symm).1) hs_)); replace HO1_2 := A0_ (Kd.R_reok rfl hy1 (fun k_ e_ => HO1_2.out.1 k_ e_)); replace HB := A0_ (hb); (try clear hb); (try clear hkp); (try clear hy1); have hcz2 := z5_ BK1) | ((with_reducible refine gc_ (f := 43) rfl ?_); refine gl_ 12 Tryz.func43 #[.slice Ao2 l0_3.length co2, .int .i64 t1] ?_; (with_reducible refine (laws_markIntS.calls k (fun k_ => some k_ = (.slice Ao2 l0_3.length co2 : Value).ownBlock) (.slice Ao2 l0_3.length co2) l0_3 t1 t3 t4 w0 _ ?side1 ?side2 A4.out).mono ?_); (case side1 => exact be6g_); (case side2 => exact Kd.R_tight rfl HO1_3.out); rintro e w3 ⟨rfl, hy1, hb, hkp⟩; refine ⟨_, rfl, ?_⟩; replace HO1_2 := A0_ (Kd.R_mono (ok' := fun k_ => ((P0_2_ k_ ∨ P0_3_ k_) ∨ w.heap.size ≤ k_) ∧ no_ (.slice Ao2 l0_3.length co2) k_) (Kd.R_keptB (HO1_2.out) hkp (fun k_ hk_ hs_ => (hk_.2) hs_)) (fun k_ hk_ => ⟨hk_.1.1, hk_.1.2⟩)); replace BK1 := A0_ (blk_kept (u1_ BK1) hkp (fun hs_ => (fun e_ => (Kd.R_ne HO1_3.out BK1.out bi3y_) e_) hs_)); replace HK := A0_ (Kept.then_ (S := (fun k_ => P0_2_ k_ ∨ P0_3_ k_)) b6f4_ hkp (fun k_ hs_ => (fun e_ => (HO1_3.out.1 k_ e_.symm).1) hs_)); replace HO1_3 := A0_ (Kd.R_reok rfl hy1 (fun k_ e_ => HO1_3.out.1 k_ e_)); replace HB := A0_ (hb); (try clear hb); (try clear hkp); (try clear hy1)))
 go_ret
 exact ⟨bnwh_, by (with_reducible repeat (first | apply ra_ | apply rn_ | apply rd_)); exact Kd.R_mono HO1_2.out (fun _ hk => hk.1), by (with_reducible repeat (first | apply ra_ | apply rn_ | apply rd_)); exact Kd.R_mono HO1_3.out (fun _ hk => hk.1), be6g_, b6f4_⟩

def laws_markWorkS.l0 : Nat → List (S50) → Int → Int → Option (Int × (List (S50)))
 | 0, _, _, _ => none
 | k + 1, x0, x1, x5 => if x5 < (x0.length : Int) then (if 0 ≤ x5 then ((some (x0.set (x5 : Int).toNat (⟨x1, (rd_T50 x0 x5).f1, (rd_T50 x0 x5).f2⟩ : S50) : List (S50))).bind fun y551 => ((some (y551.set (x5 : Int).toNat (⟨(rd_T50 y551 x5).f0, wrap64 (x1 + 1), (rd_T50 y551 x5).f2⟩ : S50) : List (S50))).bind fun y552 => (laws_markWorkS.l0 k (y552.set (x5 : Int).toNat (⟨(rd_T50 y552 x5).f0, (rd_T50 y552 x5).f1, wrap64 ((wrap64 (x1 + 1)) + 1)⟩ : S50)) (wrap64 ((wrap64 ((wrap64 (x1 + 1)) + 1)) + 1)) (wrap64 (x5 + 1))))) else (none)) else (some (x1, x0))
def laws_markWorkS.f (k : Nat) (l0 : List (S50)) (a1 : Int) : Option (Int × (List (S50))) := laws_markWorkS.l0 k l0 a1 0
theorem laws_markWorkS.mono_l : ∀ k, (∀ y0 y1 y2, LeO (laws_markWorkS.l0 k y0 y1 y2) (laws_markWorkS.l0 (k + 1) y0 y1 y2))
 | 0 => fun _ _ _ r h => by simp [laws_markWorkS.l0] at h
 | k + 1 => by
  have ih0 := laws_markWorkS.mono_l k
  ·intro y0 y1 y2
   unfold laws_markWorkS.l0
   repeat' with_reducible first | exact ih0 .. | exact LeO.refl .. | exact LeO.none .. | refine LeO.ite ?_ ?_ | refine LeO.bind ?_ (fun _ => ?_)
theorem laws_markWorkS.mono : ∀ a0 a1 k, LeO (laws_markWorkS.f k a0 a1) (laws_markWorkS.f (k + 1) a0 a1) := by
 intro a0 a1 k
 have ih0 := laws_markWorkS.mono_l k
 unfold laws_markWorkS.f
 repeat' with_reducible first | exact ih0 .. | exact LeO.refl .. | exact LeO.none .. | refine LeO.ite ?_ ?_ | refine LeO.bind ?_ (fun _ => ?_)
theorem laws_markWorkS.calls (k : Nat) (P0_ : Nat → Prop) (u9000_ : Value) (l0 : List (S50)) (a1 : Int) (r1 : Int) (r2 : List (S50)) (w0 w : World) (hB : Below w0.heap.size w0 w) (ho0 : Kd.R k50 50 w w0.heap.size P0_ u9000_ l0) (h : laws_markWorkS.f k l0 a1 = some (r1, r2)) :
  Calls Tryz.prog 14 #[u9000_, .int .i64 a1] w fun e w' => e = .returned (.int .i64 r1) ∧ Kd.R k50 50 w' w0.heap.size (fun k_ => (P0_ k_ ∨ w.heap.size ≤ k_)) u9000_ r2 ∧ Below w0.heap.size w0 w' ∧ Kept w w' (fun k_ => P0_ k_) := by
 have HO1 := A0_ (show Kd.R k50 50 w w0.heap.size (fun k_ => (P0_ k_ ∨ w.heap.size ≤ k_)) u9000_ l0 from Kd.R_mono ho0 (fun k_ hk => (.inl hk)))
 have HK := A0_ (Kept.refl w (fun k_ => P0_ k_))
 have HW0 := A0_ hB.size
 have HB := A0_ hB
 clear hB
 have H : (laws_markWorkS.l0 k l0 a1 0) = some (r1, r2) := h
 clear h
 have H' := A0_ H
 clear H
 go_enter Tryz.func14, Tryz.ntmps14
 go_wp2
 go_loopg [1, 5] k (fun kq v1 v2 w' => ∃ (x0_1 : List (S50)) (x1_1 : Int) (x5_1 : Int), v1 = .int .i64 x1_1 ∧ v2 = .int .i64 x5_1 ∧ Aside0 (laws_markWorkS.l0 kq x0_1 x1_1 x5_1 = some (r1, r2)) ∧ Aside0 (kq ≤ k) ∧ Aside0 (Kd.R k50 50 w' w0.heap.size (fun k_ => (P0_ k_ ∨ w.heap.size ≤ k_)) u9000_ x0_1) ∧ Aside0 (Kept w w' (fun k_ => P0_ k_)) ∧ Aside0 (Below w0.heap.size w0 w'))
 case atStart => exact ⟨(l0), (a1), (0), b2ew_, b2ew_, H', ⟨Nat.le_refl _⟩, ⟨bsm5_⟩, ⟨b6df_⟩, ⟨brt4_⟩⟩
 clear H'
 obtain ⟨x0_1, x1_1, x5_1, rfl, rfl, HA, HK1, HO_1, HK, HB⟩ := hrel
 cases gk with | zero => exact absurd HA.out (by simp [laws_markWorkS.l0]) | succ k1 => ?_
 have H := HA.out
 clear HA
 simp only [laws_markWorkS.l0] at H
 by_cases c1 : x5_1 < (x0_1.length : Int)
 case neg =>
  rw [if_neg c1] at H
  have c1b0 : decide (x5_1 < (x0_1.length : Int)) = false := decide_eq_false c1
  clear c1
  simp only [sj_, pj_] at H
  obtain ⟨rfl, rfl⟩ := H
  obtain ⟨Ao1, co1, eo1⟩ := Kd.R_slice HO_1.out
  subst eo1
  go_wp2
  go_ret
  exact ⟨bnwh_, bwik_, brt4_, b6df_⟩
 rw [if_pos c1] at H
 have c1b0 : decide (x5_1 < (x0_1.length : Int)) = true := dt_ c1
 clear c1
 by_cases c2 : 0 ≤ x5_1
 case neg =>
  rw [if_neg c2] at H
  exact absurd H bxka_
 rw [if_pos c2] at H
 have c2b0 : decide (0 ≤ x5_1) = true := dt_ c2
 clear c2
 obtain ⟨y1, hy1⟩ : ∃ y_ : List (S50), y_ = (x0_1.set (x5_1 : Int).toNat (⟨x1_1, (rd_T50 x0_1 x5_1).f1, (rd_T50 x0_1 x5_1).f2⟩ : S50)) := ⟨_, rfl⟩
 replace H : ((some (y1.set (x5_1 : Int).toNat (⟨(rd_T50 y1 x5_1).f0, wrap64 (x1_1 + 1), (rd_T50 y1 x5_1).f2⟩ : S50) : List (S50))).bind fun y2 => (laws_markWorkS.l0 k1 (y2.set (x5_1 : Int).toNat (⟨(rd_T50 y2 x5_1).f0, (rd_T50 y2 x5_1).f1, wrap64 ((wrap64 (x1_1 + 1)) + 1)⟩ : S50)) (wrap64 ((wrap64 ((wrap64 (x1_1 + 1)) + 1)) + 1)) (wrap64 (x5_1 + 1)))) = some (r1, r2) := bgiq_
 have Ny1 := A0_ hy1
 clear hy1
 obtain ⟨y2, hy2⟩ : ∃ y_ : List (S50), y_ = (y1.set (x5_1 : Int).toNat (⟨(rd_T50 y1 x5_1).f0, wrap64 (x1_1 + 1), (rd_T50 y1 x5_1).f2⟩ : S50)) := ⟨_, rfl⟩
 replace H : (laws_markWorkS.l0 k1 (y2.set (x5_1 : Int).toNat (⟨(rd_T50 y2 x5_1).f0, (rd_T50 y2 x5_1).f1, wrap64 ((wrap64 (x1_1 + 1)) + 1)⟩ : S50)) (wrap64 ((wrap64 ((wrap64 (x1_1 + 1)) + 1)) + 1)) (wrap64 (x5_1 + 1))) = some (r1, r2) := bscs_
 have Ny2 := A0_ hy2
 clear hy2
 obtain ⟨y3, hy3⟩ : ∃ y_ : List (S50), y_ = (y2.set (x5_1 : Int).toNat (⟨(rd_T50 y2 x5_1).f0, (rd_T50 y2 x5_1).f1, wrap64 ((wrap64 (x1_1 + 1)) + 1)⟩ : S50)) := ⟨_, rfl⟩
 replace H : (laws_markWorkS.l0 k1 y3 (wrap64 ((wrap64 ((wrap64 (x1_1 + 1)) + 1)) + 1)) (wrap64 (x5_1 + 1))) = some (r1, r2) := b2x6_
 have Ny3 := A0_ hy3
 clear hy3
 have H' := A0_ H
 clear H
 obtain ⟨Ao1, co1, eo1⟩ := Kd.R_slice HO_1.out
 subst eo1
 have p1 : 0 ≤ (x5_1 : Int) := od_ bpil_
 have q1 : (x5_1 : Int) < ((x0_1.length : Int) : Int) := od_ bpil_
 obtain ⟨go5, co2, eo2, gb1, gl5, cl5, HG5⟩ := Kd.R_form HO_1.out bh19_
 (first | cases eo2 | (injection eo2 with ea_ en_ ec_; (first | subst ea_ | (injection ea_ with ea_; subst ea_)); subst ec_; clear en_))
 have GB5 := A0_ gb1
 have GG5 := A0_ HG5
 clear gb1 gl5 HG5
 have HMgo5 := A0_ (show (P0_ go5 ∨ w.heap.size ≤ go5) from (HO_1.out.1 _ rfl))
 obtain ⟨ce5, hcl5, hM5, hcc5, hfr5⟩ := Kd.R_elem HO_1.out z50 (x5_1 : Int) p1 q1
 obtain rfl := k50_openM hM5
 have hx1_0 : wr.cell? ⟨go5, (x5_1 : Int).toNat * 3, none⟩ = some (.int .i64 ((rd_T50 x0_1 x5_1).f0)) := hcc5 0 _ rfl
 have hx1_1 : wr.cell? ⟨go5, (x5_1 : Int).toNat * 3 + 1, none⟩ = some (.int .i64 ((rd_T50 x0_1 x5_1).f1)) := hcc5 1 _ rfl
 have hx1_2 : wr.cell? ⟨go5, (x5_1 : Int).toNat * 3 + 2, none⟩ = some (.int .i64 ((rd_T50 x0_1 x5_1).f2)) := hcc5 2 _ rfl
 have hf1_0 : wr.frozen? ⟨go5, (x5_1 : Int).toNat * 3, none⟩ = false := hfr5 0
 have hf1_1 : wr.frozen? ⟨go5, (x5_1 : Int).toNat * 3 + 1, none⟩ = false := hfr5 1
 have hf1_2 : wr.frozen? ⟨go5, (x5_1 : Int).toNat * 3 + 2, none⟩ = false := hfr5 2
 clear hcl5 hcc5 hfr5 hM5
 replace p1 := eq_true p1
 replace q1 := eq_true q1
 have HX9 := A0_ (show Kd.R k50 50 wr w0.heap.size (fun k_ => (P0_ k_ ∨ w.heap.size ≤ k_)) (.slice (some ⟨go5, 0, none⟩) x0_1.length co1) x0_1 from bwik_)
 obtain ⟨ce9, hcl9, hM9, hcc9, hfr9⟩ := Kd.R_elem HX9.out z50 (x5_1 : Int) (od_ bpil_) b1ui_
 obtain rfl := k50_openM hM9
 have HP1 := Kd.R_seg HX9.out (x5_1 : Int) (od_ bpil_) b1ui_ (seg := [.int .i64 x1_1]) (j := 0) hcl9 hcc9 (show 1 ≤ 3 from bi3y_) (x' := (⟨x1_1, (rd_T50 x0_1 x5_1).f1, (rd_T50 x0_1 x5_1).f2⟩ : S50)) (k50_mkM _ _ _ (⟨x1_1, (rd_T50 x0_1 x5_1).f1, (rd_T50 x0_1 x5_1).f2⟩ : S50) ) (fun _ hk => hk)
 have hx2_0 := hcc9 0 _ rfl
 (try simp only [show (k50).sz = 3 from rfl, Nat.mul_one, Nat.add_zero] at hx2_0)
 have hf2_0 := hfr9 0
 (try simp only [show (k50).sz = 3 from rfl, Nat.mul_one, Nat.add_zero] at hf2_0)
 clear hcl9 hcc9 hfr9 hM9
 go_wp2_with (first | ((with_reducible refine gate_store (t := 3) (p := 16) rfl ?_); refine store_event (t := 3) (p := 16) (v := ?vo_w10) (w1 := (wr.setCell ⟨go5, (x5_1 : Int).toNat * 3, none⟩ (.int .i64 x1_1))) ?hg ?ho ?hn ?hr ?_; (case ho => rfl); (case hg => rfl); (case hn => rfl); (case hr => go_simp; first | done | rfl); intro w1 hw; have hg : wr.grownBy w1 (some go5) := (by rw [hw]; exact HP1.2); have hp_ : Kd.R k50 50 w1 w0.heap.size (fun k_ => (P0_ k_ ∨ w.heap.size ≤ k_)) (.slice (some ⟨go5, 0, none⟩) x0_1.length co1) y1 := (by rw [hw, Ny1.out]; exact HP1.1); clear HP1; replace HB := A0_ ((by rw [hw]; exact bs_ (HB.out) GB5.out : Below w0.heap.size w0 w1)); replace HK := A0_ (Kept.of_grown (S := (fun k_ => P0_ k_)) hg b6df_ (fun k_ e_ => (HO_1.out.1 k_ e_))); replace HO_1 := A0_ (hp_); clear hg hw hp_; have p2 : 0 ≤ (x5_1 : Int) := od_ bpil_; have q2 : (x5_1 : Int) < ((x0_1.length : Int) : Int) := od_ bpil_; obtain ⟨ce6, hcl6, hM6, hcc6, hfr6⟩ := Kd.R_elem HO_1.out z50 (x5_1 : Int) p2 q2; obtain rfl := k50_openM hM6; have hx3_0 : w1.cell? ⟨go5, (x5_1 : Int).toNat * 3, none⟩ = some (.int .i64 ((rd_T50 y1 x5_1).f0)) := hcc6 0 _ rfl; have hx3_1 : w1.cell? ⟨go5, (x5_1 : Int).toNat * 3 + 1, none⟩ = some (.int .i64 ((rd_T50 y1 x5_1).f1)) := hcc6 1 _ rfl; have hx3_2 : w1.cell? ⟨go5, (x5_1 : Int).toNat * 3 + 2, none⟩ = some (.int .i64 ((rd_T50 y1 x5_1).f2)) := hcc6 2 _ rfl; have hf3_0 : w1.frozen? ⟨go5, (x5_1 : Int).toNat * 3, none⟩ = false := hfr6 0; have hf3_1 : w1.frozen? ⟨go5, (x5_1 : Int).toNat * 3 + 1, none⟩ = false := hfr6 1; have hf3_2 : w1.frozen? ⟨go5, (x5_1 : Int).toNat * 3 + 2, none⟩ = false := hfr6 2; clear hcl6 hcc6 hfr6 hM6; replace p2 := eq_true p2; replace q2 := eq_true q2; have HX11 := A0_ (show Kd.R k50 50 w1 w0.heap.size (fun k_ => (P0_ k_ ∨ w.heap.size ≤ k_)) (.slice (some ⟨go5, 0, none⟩) x0_1.length co1) y1 from bwik_); obtain ⟨ce11, hcl11, hM11, hcc11, hfr11⟩ := Kd.R_elem HX11.out z50 (x5_1 : Int) (od_ bpil_) b1ui_; obtain rfl := k50_openM hM11; have HP2 := Kd.R_seg HX11.out (x5_1 : Int) (od_ bpil_) b1ui_ (seg := [.int .i64 (wrap64 (x1_1 + 1))]) (j := 1) hcl11 hcc11 (show 2 ≤ 3 from bi3y_) (x' := (⟨(rd_T50 y1 x5_1).f0, wrap64 (x1_1 + 1), (rd_T50 y1 x5_1).f2⟩ : S50)) (k50_mkM _ _ _ (⟨(rd_T50 y1 x5_1).f0, wrap64 (x1_1 + 1), (rd_T50 y1 x5_1).f2⟩ : S50) ) (fun _ hk => hk); have hx4_1 := hcc11 1 _ rfl; (try simp only [show (k50).sz = 3 from rfl, Nat.mul_one, Nat.add_zero] at hx4_1); have hf4_1 := hfr11 1; (try simp only [show (k50).sz = 3 from rfl, Nat.mul_one, Nat.add_zero] at hf4_1); clear hcl11 hcc11 hfr11 hM11) | ((with_reducible refine gate_store (t := 3) (p := 23) rfl ?_); refine store_event (t := 3) (p := 23) (v := ?vo_w12) (w1 := (w1.setCell ⟨go5, (x5_1 : Int).toNat * 3 + 1, none⟩ (.int .i64 (wrap64 (x1_1 + 1))))) ?hg ?ho ?hn ?hr ?_; (case ho => rfl); (case hg => rfl); (case hn => rfl); (case hr => go_simp; first | done | rfl); intro w2 hw; have hg : w1.grownBy w2 (some go5) := (by rw [hw]; exact HP2.2); have hp_ : Kd.R k50 50 w2 w0.heap.size (fun k_ => (P0_ k_ ∨ w.heap.size ≤ k_)) (.slice (some ⟨go5, 0, none⟩) x0_1.length co1) y2 := (by rw [hw, Ny2.out]; exact HP2.1); clear HP2; replace HB := A0_ ((by rw [hw]; exact bs_ (HB.out) GB5.out : Below w0.heap.size w0 w2)); replace HK := A0_ (Kept.of_grown (S := (fun k_ => P0_ k_)) hg b6df_ (fun k_ e_ => (HO_1.out.1 k_ e_))); replace HO_1 := A0_ (hp_); clear hg hw hp_; have p3 : 0 ≤ (x5_1 : Int) := od_ bpil_; have q3 : (x5_1 : Int) < ((x0_1.length : Int) : Int) := od_ bpil_; obtain ⟨ce7, hcl7, hM7, hcc7, hfr7⟩ := Kd.R_elem HO_1.out z50 (x5_1 : Int) p3 q3; obtain rfl := k50_openM hM7; have hx5_0 : w2.cell? ⟨go5, (x5_1 : Int).toNat * 3, none⟩ = some (.int .i64 ((rd_T50 y2 x5_1).f0)) := hcc7 0 _ rfl; have hx5_1 : w2.cell? ⟨go5, (x5_1 : Int).toNat * 3 + 1, none⟩ = some (.int .i64 ((rd_T50 y2 x5_1).f1)) := hcc7 1 _ rfl; have hx5_2 : w2.cell? ⟨go5, (x5_1 : Int).toNat * 3 + 2, none⟩ = some (.int .i64 ((rd_T50 y2 x5_1).f2)) := hcc7 2 _ rfl; have hf5_0 : w2.frozen? ⟨go5, (x5_1 : Int).toNat * 3, none⟩ = false := hfr7 0; have hf5_1 : w2.frozen? ⟨go5, (x5_1 : Int).toNat * 3 + 1, none⟩ = false := hfr7 1; have hf5_2 : w2.frozen? ⟨go5, (x5_1 : Int).toNat * 3 + 2, none⟩ = false := hfr7 2; clear hcl7 hcc7 hfr7 hM7; replace p3 := eq_true p3; replace q3 := eq_true q3; have HX13 := A0_ (show Kd.R k50 50 w2 w0.heap.size (fun k_ => (P0_ k_ ∨ w.heap.size ≤ k_)) (.slice (some ⟨go5, 0, none⟩) x0_1.length co1) y2 from bwik_); obtain ⟨ce13, hcl13, hM13, hcc13, hfr13⟩ := Kd.R_elem HX13.out z50 (x5_1 : Int) (od_ bpil_) b1ui_; obtain rfl := k50_openM hM13; have HP3 := Kd.R_seg HX13.out (x5_1 : Int) (od_ bpil_) b1ui_ (seg := [.int .i64 (wrap64 ((wrap64 (x1_1 + 1)) + 1))]) (j := 2) hcl13 hcc13 (show 3 ≤ 3 from bi3y_) (x' := (⟨(rd_T50 y2 x5_1).f0, (rd_T50 y2 x5_1).f1, wrap64 ((wrap64 (x1_1 + 1)) + 1)⟩ : S50)) (k50_mkM _ _ _ (⟨(rd_T50 y2 x5_1).f0, (rd_T50 y2 x5_1).f1, wrap64 ((wrap64 (x1_1 + 1)) + 1)⟩ : S50) ) (fun _ hk => hk); have hx6_2 := hcc13 2 _ rfl; (try simp only [show (k50).sz = 3 from rfl, Nat.mul_one, Nat.add_zero] at hx6_2); have hf6_2 := hfr13 2; (try simp only [show (k50).sz = 3 from rfl, Nat.mul_one, Nat.add_zero] at hf6_2); clear hcl13 hcc13 hfr13 hM13) | ((with_reducible refine gate_store (t := 3) (p := 30) rfl ?_); refine store_event (t := 3) (p := 30) (v := ?vo_w14) (w1 := (w2.setCell ⟨go5, (x5_1 : Int).toNat * 3 + 2, none⟩ (.int .i64 (wrap64 ((wrap64 (x1_1 + 1)) + 1))))) ?hg ?ho ?hn ?hr ?_; (case ho => rfl); (case hg => rfl); (case hn => rfl); (case hr => go_simp; first | done | rfl); intro w3 hw; have hg : w2.grownBy w3 (some go5) := (by rw [hw]; exact HP3.2); have hp_ : Kd.R k50 50 w3 w0.heap.size (fun k_ => (P0_ k_ ∨ w.heap.size ≤ k_)) (.slice (some ⟨go5, 0, none⟩) x0_1.length co1) y3 := (by rw [hw, Ny3.out]; exact HP3.1); clear HP3; replace HB := A0_ ((by rw [hw]; exact bs_ (HB.out) GB5.out : Below w0.heap.size w0 w3)); replace HK := A0_ (Kept.of_grown (S := (fun k_ => P0_ k_)) hg b6df_ (fun k_ e_ => (HO_1.out.1 k_ e_))); replace HO_1 := A0_ (hp_); clear hg hw hp_))
 go_roundg k1
 case measure => have := HK1.out; omega
 exact ⟨(y3), (wrap64 ((wrap64 ((wrap64 (x1_1 + 1)) + 1)) + 1)), (wrap64 (x5_1 + 1)), b2ew_, b2ew_, H', ⟨bxjq_⟩, ⟨bwik_⟩, ⟨b6df_⟩, ⟨brt4_⟩⟩

def laws_heldIntS.l0 : Nat → List Int → Int → Int → Option (Int)
 | 0, _, _, _ => none
 | k + 1, x0, x1, x5 => if x5 < (x0.length : Int) then (if 0 ≤ x5 then (if (rd x0 x5) = x1 then (laws_heldIntS.l0 k x0 (wrap64 (x1 + 1)) (wrap64 (x5 + 1))) else (some (-1))) else (none)) else (some x1)
def laws_heldIntS.f (k : Nat) (l0 : List Int) (a1 : Int) : Option (Int) := laws_heldIntS.l0 k l0 a1 0
theorem laws_heldIntS.mono_l : ∀ k, (∀ y0 y1 y2, LeO (laws_heldIntS.l0 k y0 y1 y2) (laws_heldIntS.l0 (k + 1) y0 y1 y2))
 | 0 => fun _ _ _ r h => by simp [laws_heldIntS.l0] at h
 | k + 1 => by
  have ih0 := laws_heldIntS.mono_l k
  ·intro y0 y1 y2
   unfold laws_heldIntS.l0
   repeat' with_reducible first | exact ih0 .. | exact LeO.refl .. | exact LeO.none .. | refine LeO.ite ?_ ?_ | refine LeO.bind ?_ (fun _ => ?_)
theorem laws_heldIntS.mono : ∀ a0 a1 k, LeO (laws_heldIntS.f k a0 a1) (laws_heldIntS.f (k + 1) a0 a1) := by
 intro a0 a1 k
 have ih0 := laws_heldIntS.mono_l k
 unfold laws_heldIntS.f
 repeat' with_reducible first | exact ih0 .. | exact LeO.refl .. | exact LeO.none .. | refine LeO.ite ?_ ?_ | refine LeO.bind ?_ (fun _ => ?_)
theorem laws_heldIntS.calls (k : Nat) (A0 : Option Addr) (c0 : Nat) (l0 : List Int) (a1 : Int) (r : Int) (w : World) (hr0 : Kd.C (Kd.int .i64) w A0 l0.length l0) (hc0 : l0.length ≤ c0) (h : laws_heldIntS.f k l0 a1 = some r) :
  Calls Tryz.prog 45 #[.slice A0 l0.length c0, .int .i64 a1] w fun e w' => e = .returned (.int .i64 r) ∧ Drawn0 w w' := by
 have HR0 := A0_ hr0
 have HC0 := A0_ hc0
 clear hr0 hc0
 have H : (laws_heldIntS.l0 k l0 a1 0) = some r := h
 clear h
 have H' := A0_ H
 clear H
 go_enter Tryz.func45, Tryz.ntmps45
 go_wp2
 go_loopg [1, 5] k (fun kq v1 v2 w' => ∃ (x1_1 : Int) (x5_1 : Int), v1 = .int .i64 x1_1 ∧ v2 = .int .i64 x5_1 ∧ Aside0 (laws_heldIntS.l0 kq l0 x1_1 x5_1 = some r) ∧ Aside0 (kq ≤ k) ∧ Drawn0 w w')
 case atStart => exact ⟨(a1), (0), b2ew_, b2ew_, H', ⟨Nat.le_refl _⟩, boaj_⟩
 clear H'
 obtain ⟨x1_1, x5_1, rfl, rfl, HA, HK1, ⟨m1, rfl⟩⟩ := hrel
 cases gk with | zero => exact absurd HA.out (by simp [laws_heldIntS.l0]) | succ k1 => ?_
 have H := HA.out
 clear HA
 simp only [laws_heldIntS.l0] at H
 by_cases c1 : x5_1 < (l0.length : Int)
 case neg =>
  rw [if_neg c1] at H
  have c1b0 : decide (x5_1 < (l0.length : Int)) = false := decide_eq_false c1
  clear c1
  obtain rfl := si_ H
  go_wp2
  go_ret
  exact ⟨b04z_, boaj_⟩
 rw [if_pos c1] at H
 have c1b0 : decide (x5_1 < (l0.length : Int)) = true := dt_ c1
 clear c1
 by_cases c2 : 0 ≤ x5_1
 case neg =>
  rw [if_neg c2] at H
  exact absurd H bxka_
 rw [if_pos c2] at H
 have c2b0 : decide (0 ≤ x5_1) = true := dt_ c2
 clear c2
 by_cases c3 : (rd l0 x5_1) = x1_1
 case neg =>
  rw [if_neg c3] at H
  obtain ⟨c3b0, c3b1⟩ := ef_ c3
  obtain rfl := si_ H
  have p1 : 0 ≤ (x5_1 : Int) := od_ bpil_
  have q1 : x5_1 < (l0.length : Int) := od_ bpil_
  obtain ⟨ad1, e1, hx1_0⟩ := Kd.at_int HR0.out x5_1 p1 q1
  cases e1
  replace p1 := eq_true p1
  replace q1 := eq_true q1
  go_wp2
  go_ret
  exact ⟨b04z_, boaj_⟩
 rw [if_pos c3] at H
 obtain ⟨c3b0, c3b1⟩ := et_ c3
 clear c3
 have H' := A0_ H
 clear H
 have p1 : 0 ≤ (x5_1 : Int) := od_ bpil_
 have q1 : x5_1 < (l0.length : Int) := od_ bpil_
 obtain ⟨ad1, e1, hx1_0⟩ := Kd.at_int HR0.out x5_1 p1 q1
 cases e1
 replace p1 := eq_true p1
 replace q1 := eq_true q1
 go_wp2
 go_roundg k1
 case measure => have := HK1.out; omega
 exact ⟨(wrap64 (x1_1 + 1)), (wrap64 (x5_1 + 1)), b2ew_, b2ew_, H', ⟨bxjq_⟩, boaj_⟩

def laws_heldRow.f (k : Nat) (a0_0 : Int) (a0_1 : Bool) (l0_2 : List Int) (a1 : Int) : Option (Int) := (laws_heldIntS.f k l0_2 a1).bind fun t556 => (if t556 < 0 then (some (-1)) else (some t556))
theorem laws_heldRow.mono : ∀ a0 a1 a2 a3 k, LeO (laws_heldRow.f k a0 a1 a2 a3) (laws_heldRow.f (k + 1) a0 a1 a2 a3) := by
 intro a0 a1 a2 a3 k
 unfold laws_heldRow.f
 repeat' with_reducible first | exact laws_heldIntS.mono .. | exact LeO.refl .. | exact LeO.none .. | refine LeO.ite ?_ ?_ | refine LeO.bind ?_ (fun _ => ?_)
theorem laws_heldRow.calls (k : Nat) (a0_0 : Int) (a0_1 : Bool) (A0_2 : Option Addr) (c0_2 : Nat) (l0_2 : List Int) (a1 : Int) (r : Int) (w : World) (hr0_2 : Kd.C (Kd.int .i64) w A0_2 l0_2.length l0_2) (hc0_2 : l0_2.length ≤ c0_2) (h : laws_heldRow.f k a0_0 a0_1 l0_2 a1 = some r) :
  Calls Tryz.prog 44 #[.agg #[.int .i64 a0_0, .bool a0_1, .slice A0_2 l0_2.length c0_2], .int .i64 a1] w fun e w' => e = .returned (.int .i64 r) ∧ Below w.heap.size w w' := by
 have hu30 := Tryz.underlying30
 have HR0_2 := A0_ hr0_2
 have HC0_2 := A0_ hc0_2
 clear hr0_2 hc0_2
 have HB := A0_ (Below.refl w.heap.size w)
 have H : ((laws_heldIntS.f k l0_2 a1).bind fun t1 => (if t1 < 0 then (some (-1)) else (some t1))) = some r := h
 clear h
 obtain ⟨t1, A2, H⟩ := o1_ H
 by_cases c1 : t1 < 0
 ·rw [if_pos c1] at H
  have c1b0 : decide (t1 < 0) = true := dt_ c1
  clear c1
  obtain rfl := si_ H
  go_enter Tryz.func44, Tryz.ntmps44
  go_wp2_with (first | ((with_reducible refine gd_ (N := 2) rfl ?_); refine bx_ 2 #[.int .i64 a0_0, .bool a0_1, .slice A0_2 l0_2.length c0_2] 30 ?_; intro gb1 hg w1 BK1 hb; have GW1 := ge_ hg brt4_; have GE1 := GW1; replace HB := hb_ hb brt4_; clear hb hg; have hcz1 := c3_ BK1) | ((with_reducible refine gc_ (f := 45) rfl ?_); refine gl_ 8 Tryz.func45 #[.slice A0_2 l0_2.length c0_2, .int .i64 a1] ?_; (with_reducible refine (laws_heldIntS.calls k _ _ l0_2 a1 t1 _ ?side1 ?side2 A2.out).mono ?_); (case side1 => exact b6n8_); (case side2 => exact HC0_2.out); rintro e w' ⟨rfl, ⟨nd, rfl⟩⟩; refine ⟨_, rfl, ?_⟩))
  go_ret
  exact ⟨bnwh_, be6g_⟩
 rw [if_neg c1] at H
 have c1b0 : decide (t1 < 0) = false := decide_eq_false c1
 clear c1
 obtain rfl := si_ H
 go_enter Tryz.func44, Tryz.ntmps44
 go_wp2_with (first | ((with_reducible refine gd_ (N := 2) rfl ?_); refine bx_ 2 #[.int .i64 a0_0, .bool a0_1, .slice A0_2 l0_2.length c0_2] 30 ?_; intro gb1 hg w1 BK1 hb; have GW1 := ge_ hg brt4_; have GE1 := GW1; replace HB := hb_ hb brt4_; clear hb hg; have hcz1 := c3_ BK1) | ((with_reducible refine gc_ (f := 45) rfl ?_); refine gl_ 8 Tryz.func45 #[.slice A0_2 l0_2.length c0_2, .int .i64 a1] ?_; (with_reducible refine (laws_heldIntS.calls k _ _ l0_2 a1 t1 _ ?side1 ?side2 A2.out).mono ?_); (case side1 => exact b6n8_); (case side2 => exact HC0_2.out); rintro e w' ⟨rfl, ⟨nd, rfl⟩⟩; refine ⟨_, rfl, ?_⟩))
 go_ret
 exact ⟨bnwh_, be6g_⟩

def laws_heldHouse.f (k : Nat) (a0_0 : Int) (a0_1 : Bool) (l0_2 : List Int) (l0_3 : List Int) (a0_4 : Int) (a1 : Int) : Option (Int) := (laws_heldRow.f k a0_0 a0_1 l0_2 a1).bind fun t558 => (if t558 < 0 then (some (-1)) else ((laws_heldIntS.f k l0_3 t558).bind fun t559 => (if t559 < 0 then (some (-1)) else (some t559))))
theorem laws_heldHouse.mono : ∀ a0 a1 a2 a3 a4 a5 k, LeO (laws_heldHouse.f k a0 a1 a2 a3 a4 a5) (laws_heldHouse.f (k + 1) a0 a1 a2 a3 a4 a5) := by
 intro a0 a1 a2 a3 a4 a5 k
 unfold laws_heldHouse.f
 repeat' with_reducible first | exact laws_heldIntS.mono .. | exact laws_heldRow.mono .. | exact LeO.refl .. | exact LeO.none .. | refine LeO.ite ?_ ?_ | refine LeO.bind ?_ (fun _ => ?_)
theorem laws_heldHouse.calls (k : Nat) (a0_0 : Int) (a0_1 : Bool) (A0_2 : Option Addr) (c0_2 : Nat) (l0_2 : List Int) (A0_3 : Option Addr) (c0_3 : Nat) (l0_3 : List Int) (a0_4 : Int) (a1 : Int) (r : Int) (w : World) (hr0_2 : Kd.C (Kd.int .i64) w A0_2 l0_2.length l0_2) (hc0_2 : l0_2.length ≤ c0_2) (hr0_3 : Kd.C (Kd.int .i64) w A0_3 l0_3.length l0_3) (hc0_3 : l0_3.length ≤ c0_3) (h : laws_heldHouse.f k a0_0 a0_1 l0_2 l0_3 a0_4 a1 = some r) :
  Calls Tryz.prog 15 #[.agg #[.int .i64 a0_0, .bool a0_1, .slice A0_2 l0_2.length c0_2, .slice A0_3 l0_3.length c0_3, .int .i64 a0_4], .int .i64 a1] w fun e w' => e = .returned (.int .i64 r) ∧ Below w.heap.size w w' := by
 have hu32 := Tryz.underlying32
 have hu30 := Tryz.underlying30
 have HR0_2 := A0_ hr0_2
 have HC0_2 := A0_ hc0_2
 clear hr0_2 hc0_2
 have HR0_3 := A0_ hr0_3
 have HC0_3 := A0_ hc0_3
 clear hr0_3 hc0_3
 have HB := A0_ (Below.refl w.heap.size w)
 have H : ((laws_heldRow.f k a0_0 a0_1 l0_2 a1).bind fun t1 => (if t1 < 0 then (some (-1)) else ((laws_heldIntS.f k l0_3 t1).bind fun t2 => (if t2 < 0 then (some (-1)) else (some t2))))) = some r := h
 clear h
 obtain ⟨t1, A2, H⟩ := o1_ H
 by_cases c1 : t1 < 0
 ·rw [if_pos c1] at H
  have c1b0 : decide (t1 < 0) = true := dt_ c1
  clear c1
  obtain rfl := si_ H
  go_enter Tryz.func15, Tryz.ntmps15
  go_wp2_with (first | ((with_reducible refine gd_ (N := 2) rfl ?_); refine bx_ 2 #[.int .i64 a0_0, .bool a0_1, .slice A0_2 l0_2.length c0_2, .slice A0_3 l0_3.length c0_3, .int .i64 a0_4] 32 ?_; intro gb1 hg w1 BK1 hb; have GW1 := ge_ hg brt4_; have GE1 := GW1; replace HB := hb_ hb brt4_; clear hb hg; have hcz1 := c5_ BK1) | ((with_reducible refine gc_ (f := 44) rfl ?_); refine gl_ 8 Tryz.func44 #[.agg #[.int .i64 a0_0, .bool a0_1, .slice A0_2 l0_2.length c0_2], .int .i64 a1] ?_; (with_reducible refine (laws_heldRow.calls k a0_0 a0_1 _ _ l0_2 a1 t1 _ ?side1 ?side2 A2.out).mono ?_); (case side1 => exact b6n8_); (case side2 => exact HC0_2.out); rintro e w2 ⟨rfl, hb⟩; refine ⟨_, rfl, ?_⟩; replace BK1 := k1_ BK1 hb; replace HB := hb_ hb be6g_; (try clear hb)))
  go_ret
  exact ⟨bnwh_, be6g_⟩
 rw [if_neg c1] at H
 have c1b0 : decide (t1 < 0) = false := decide_eq_false c1
 clear c1
 obtain ⟨t2, A4, H⟩ := o1_ H
 by_cases c2 : t2 < 0
 ·rw [if_pos c2] at H
  have c2b0 : decide (t2 < 0) = true := dt_ c2
  clear c2
  obtain rfl := si_ H
  go_enter Tryz.func15, Tryz.ntmps15
  go_wp2_with (first | ((with_reducible refine gd_ (N := 2) rfl ?_); refine bx_ 2 #[.int .i64 a0_0, .bool a0_1, .slice A0_2 l0_2.length c0_2, .slice A0_3 l0_3.length c0_3, .int .i64 a0_4] 32 ?_; intro gb1 hg w1 BK1 hb; have GW1 := ge_ hg brt4_; have GE1 := GW1; replace HB := hb_ hb brt4_; clear hb hg; have hcz1 := c5_ BK1) | ((with_reducible refine gc_ (f := 44) rfl ?_); refine gl_ 8 Tryz.func44 #[.agg #[.int .i64 a0_0, .bool a0_1, .slice A0_2 l0_2.length c0_2], .int .i64 a1] ?_; (with_reducible refine (laws_heldRow.calls k a0_0 a0_1 _ _ l0_2 a1 t1 _ ?side1 ?side2 A2.out).mono ?_); (case side1 => exact b6n8_); (case side2 => exact HC0_2.out); rintro e w2 ⟨rfl, hb⟩; refine ⟨_, rfl, ?_⟩; replace BK1 := k1_ BK1 hb; replace HB := hb_ hb be6g_; (try clear hb); have hcz2 := c5_ BK1) | ((with_reducible refine gc_ (f := 45) rfl ?_); refine gl_ 14 Tryz.func45 #[.slice A0_3 l0_3.length c0_3, .int .i64 t1] ?_; (with_reducible refine (laws_heldIntS.calls k _ _ l0_3 t1 t2 _ ?side1 ?side2 A4.out).mono ?_); (case side1 => exact bkan_); (case side2 => exact HC0_3.out); rintro e w' ⟨rfl, ⟨nd, rfl⟩⟩; refine ⟨_, rfl, ?_⟩))
  go_ret
  exact ⟨bnwh_, be6g_⟩
 rw [if_neg c2] at H
 have c2b0 : decide (t2 < 0) = false := decide_eq_false c2
 clear c2
 obtain rfl := si_ H
 go_enter Tryz.func15, Tryz.ntmps15
 go_wp2_with (first | ((with_reducible refine gd_ (N := 2) rfl ?_); refine bx_ 2 #[.int .i64 a0_0, .bool a0_1, .slice A0_2 l0_2.length c0_2, .slice A0_3 l0_3.length c0_3, .int .i64 a0_4] 32 ?_; intro gb1 hg w1 BK1 hb; have GW1 := ge_ hg brt4_; have GE1 := GW1; replace HB := hb_ hb brt4_; clear hb hg; have hcz1 := c5_ BK1) | ((with_reducible refine gc_ (f := 44) rfl ?_); refine gl_ 8 Tryz.func44 #[.agg #[.int .i64 a0_0, .bool a0_1, .slice A0_2 l0_2.length c0_2], .int .i64 a1] ?_; (with_reducible refine (laws_heldRow.calls k a0_0 a0_1 _ _ l0_2 a1 t1 _ ?side1 ?side2 A2.out).mono ?_); (case side1 => exact b6n8_); (case side2 => exact HC0_2.out); rintro e w2 ⟨rfl, hb⟩; refine ⟨_, rfl, ?_⟩; replace BK1 := k1_ BK1 hb; replace HB := hb_ hb be6g_; (try clear hb); have hcz2 := c5_ BK1) | ((with_reducible refine gc_ (f := 45) rfl ?_); refine gl_ 14 Tryz.func45 #[.slice A0_3 l0_3.length c0_3, .int .i64 t1] ?_; (with_reducible refine (laws_heldIntS.calls k _ _ l0_3 t1 t2 _ ?side1 ?side2 A4.out).mono ?_); (case side1 => exact bkan_); (case side2 => exact HC0_3.out); rintro e w' ⟨rfl, ⟨nd, rfl⟩⟩; refine ⟨_, rfl, ?_⟩))
 go_ret
 exact ⟨bnwh_, be6g_⟩

end Go.Proofs.YtbohmfnjgjijdaaGreatDoor.QFnExactDoWorks
-- packed
-- squeezed
